/- Contracts of functions that the laws on fractions reach, and the plain arithmetic behind them: no conditions beyond those in each statement. -/
import Derived.Test.YtdbijjhhifegjaaGreatJ5
import Derived.KernelRfl
import Derived.Test.YtdbijjhhifegjaaGreatJ3
set_option maxHeartbeats 8000000
set_option exponentiation.threshold 100000
set_option maxRecDepth 100000
set_option linter.unusedVariables false
set_option linter.unusedSimpArgs false
namespace Go.Av
open Go Go.Proofs
/-! fractions: texts -/
def cutAt (s : ByteArray) : Nat := ((List.range s.size).find? fun i => s[i]! == 47).getD s.size
theorem cut_le (s : ByteArray) : cutAt s ≤ s.size := by
  unfold cutAt
  cases h : (List.range s.size).find? fun i => s[i]! == 47 with
  | none => simp
  | some i => have := List.mem_of_find?_eq_some h; simp at this ⊢; omega
theorem bt_bang {s : ByteArray} {i : Nat} (h : i < s.size) : bt s (i : Int) = (s[i]!.toNat : Int) := by
  unfold bt
  rw [dif_pos (by simpa using h), getElem!_pos s i h]
  simp
theorem u8_47 (x : UInt8) : (x == 47) = decide ((x.toNat : Int) = 47) := by
  by_cases h : x = 47
  · subst h; rfl
  · rw [beq_eq_false_iff_ne.2 h, decide_eq_false]
    intro h2
    exact h (UInt8.toNat_inj.1 (by have : x.toNat = 47 := by omega
                                   rw [this]; rfl))
theorem cut_first (s : ByteArray) : firstIdx s 47 = if cutAt s < s.size then (cutAt s : Int) else -1 := by
  unfold firstIdx cutAt
  cases h : (List.range s.size).find? fun i => s[i]! == 47 with
  | none => simp
  | some i => have := List.mem_of_find?_eq_some h; simp at this ⊢; omega
theorem cut_at {s : ByteArray} (h : cutAt s < s.size) : bt s (cutAt s) = 47 := by
  unfold cutAt at *
  cases h1 : (List.range s.size).find? fun i => s[i]! == 47 with
  | none => rw [h1] at h; simp at h
  | some i =>
    rw [h1] at h
    have := List.find?_some h1
    simp only [Option.getD_some] at h ⊢
    rw [u8_47, decide_eq_true_eq] at this
    rw [bt_bang h, this]
theorem cut_lo {s : ByteArray} {j : Nat} (h : j < cutAt s) : bt s j ≠ 47 := by
  have hj := Nat.lt_of_lt_of_le h (cut_le s)
  have hn : ¬ (s[j]! == 47) = true := by
    unfold cutAt at h
    cases h1 : (List.range s.size).find? fun i => s[i]! == 47 with
    | none =>
      have := List.find?_eq_none.1 h1 j (by simpa using hj)
      simpa using this
    | some i =>
      rw [h1] at h
      simp only [Option.getD_some] at h
      have := (List.find?_range_eq_some.1 h1).2.2 j h
      simpa using this
  rw [u8_47, decide_eq_true_eq] at hn
  rwa [bt_bang hj]
abbrev St (s : ByteArray) : PV := .v (.string s)
def topS (s : ByteArray) : ByteArray := if cutAt s < s.size then s.extract 0 (cutAt s) else s
def botS (s : ByteArray) : ByteArray := if cutAt s < s.size then s.extract (cutAt s + 1) s.size else ⟨#[]⟩
theorem IndexByte_c (s : ByteArray) : Con Tryz.prog 102 [St s, .v (.int .u8 47)] (I (firstIdx s 47)) := by
  refine con_of Tryz.func102 rfl rfl rfl rfl rfl ?_
  repeat (first | refine seq_ ?_ | refine region_ ?_ | refine nil_ ?_ | refine stepY (y_move rfl) rfl ?_ | refine stepY (y_assign rfl) rfl ?_)
  refine stepY (y_ixb Tryz.func106 rfl rfl (by kernel_rfl) (by kernel_rfl) rfl rfl) rfl ?_
  repeat (first | refine nil_ ?_ | refine ret_ ?_ | refine stepY (y_assign rfl) rfl ?_)
  ((apply fin_r); (repeat (first | exact .nil | exact .tmp rfl | apply ResL.cons)); (repeat (exact .refl _)))
theorem Index_c (s : ByteArray) : Con Tryz.prog 97 [St s, St ⟨#[47]⟩] (I (firstIdx s 47)) := by
  refine con_of Tryz.func97 rfl rfl rfl rfl rfl ?_
  have h0 : (ByteArray.mk #[47]).size = 1 := rfl
  have h1 : bt ⟨#[47]⟩ 0 = 47 := rfl
  by_cases h2 : (ByteArray.mk #[47]) = s
  · rw [show firstIdx s 47 = 0 by rw [← h2]; rfl]
    repeat (first | refine seq_ ?_ | refine region_ ?_ | refine nil_ ?_ | refine block_ ?_ | refine guard_t rfl rfl rfl ?_ | refine stepY (y_move rfl) rfl ?_ | refine stepY (y_assign rfl) rfl ?_ | refine stepY (y_len_str rfl) rfl ?_ | refine stepY (y_pick_f rfl rfl) rfl ?_ | (first | refine stepY (y_cmpF rfl rfl rfl (by omega)) rfl ?_ | refine stepY (y_eqs rfl rfl) rfl ?_))
    rw [decide_eq_true h2]
    repeat (first | refine seq_ ?_ | refine region_ ?_ | refine nil_ ?_ | refine ret_ ?_ | refine cond_t rfl ?_ | refine stepY (y_assign rfl) rfl ?_)
    ((apply fin_r); (repeat (first | exact .nil | exact .tmp rfl | apply ResL.cons)); (repeat (exact .refl _)))
  · repeat (first | refine seq_ ?_ | refine region_ ?_ | refine nil_ ?_ | refine block_ ?_ | refine guard_t rfl rfl rfl ?_ | refine stepY (y_move rfl) rfl ?_ | refine stepY (y_assign rfl) rfl ?_ | refine stepY (y_len_str rfl) rfl ?_ | refine stepY (y_pick_f rfl rfl) rfl ?_ | (first | refine stepY (y_cmpF rfl rfl rfl (by omega)) rfl ?_ | refine stepY (y_eqs rfl rfl) rfl ?_))
    rw [decide_eq_false h2]
    repeat (first | refine seq_ ?_ | refine region_ ?_ | refine nil_ ?_ | refine cond_t rfl ?_ | refine cond_f rfl ?_ | refine stepY (y_move rfl) rfl ?_ | refine stepY (y_assign rfl) rfl ?_ | refine stepY (y_index_str rfl rfl (by omega) (by omega)) rfl ?_ | refine stepY (y_cmpT rfl rfl rfl (by omega)) rfl ?_)
    rw [h1]
    refine call_ Tryz.func102 rfl rfl (IndexByte_c s) rfl (by repeat (first | exact .refl _ | apply Les.cons | exact .nil)) rfl ?_
    repeat (first | refine nil_ ?_ | refine ret_ ?_ | refine stepY (y_assign rfl) rfl ?_)
    ((apply fin_r); (repeat (first | exact .nil | exact .tmp rfl | apply ResL.cons)); (repeat (exact .refl _)))
theorem Cut_c (s : ByteArray) (hs : s.size ≤ 1000000000) : Con Tryz.prog 54 [St s, St ⟨#[47]⟩] (.tp [St (topS s), St (botS s), Bo (decide (cutAt s < s.size))]) := by
  have hl := cut_le s
  have hI := Index_c s
  have h0 : (ByteArray.mk #[47]).size = 1 := rfl
  have hc : Con Tryz.prog 79 [St s, St ⟨#[47]⟩] (.tp [St (topS s), St (botS s), Bo (decide (cutAt s < s.size))]) := by
    rw [cut_first] at hI
    by_cases h : cutAt s < s.size
    · rw [if_pos h] at hI
      rw [decide_eq_true h, show topS s = s.extract 0 ((cutAt s : Int)).toNat by unfold topS; rw [if_pos h]; simp, show botS s = s.extract ((cutAt s : Int) + 1).toNat s.size by unfold botS; rw [if_pos h]; congr 1]
      refine con_of Tryz.func79 rfl rfl rfl rfl rfl ?_
      repeat (first | refine seq_ ?_ | refine region_ ?_ | refine nil_ ?_ | refine stepY (y_move rfl) rfl ?_ | refine stepY (y_assign rfl) rfl ?_)
      refine call_ Tryz.func97 rfl rfl (hI) rfl (by repeat (first | exact .refl _ | apply Les.cons | exact .nil)) rfl ?_
      repeat (first | refine seq_ ?_ | refine region_ ?_ | refine nil_ ?_ | refine cond_t rfl ?_ | refine stepY (y_move rfl) rfl ?_ | refine stepY (y_assign rfl) rfl ?_ | refine stepY (y_cmpT rfl rfl rfl (by omega)) rfl ?_)
      refine draw_ [(0, true), (1, true), (2, true), (3, true), (4, true), (5, true), (6, true), (7, true), (8, true), (9, true), (10, true), (11, true)] 1000 [] mixed (by kernel_rfl) rfl ?_
      ((refine dY rfl (y_move rfl) rfl rfl rfl rfl ?_); refine dY rfl (y_move rfl) rfl rfl rfl rfl ?_; refine dY rfl (y_slice_str_h rfl rfl (by omega) (by omega)) rfl rfl rfl rfl ?_; refine dY rfl (y_move rfl) rfl rfl rfl rfl ?_; refine dY rfl (y_move rfl) rfl rfl rfl rfl ?_; refine dY rfl (y_move rfl) rfl rfl rfl rfl ?_; refine dY rfl (y_len_str rfl) rfl rfl rfl rfl ?_; refine dY rfl (y_binn rfl rfl rfl (by simp only [InK, loK, hiK]; omega)) rfl rfl rfl rfl ?_; refine dY rfl (y_slice_str_l rfl rfl (by omega) (by omega)) rfl rfl rfl rfl ?_; refine dY rfl (y_assign rfl) rfl rfl rfl rfl ?_; refine dY rfl (y_assign rfl) rfl rfl rfl rfl ?_; refine dY rfl (y_assign rfl) rfl rfl rfl rfl ?_; refine dEnd ?_)
      repeat (refine ret_ ?_)
      ((apply fin_r); (repeat (first | exact .nil | exact .tmp rfl | apply ResL.cons)); (repeat (exact .refl _)))
    · rw [if_neg h] at hI
      rw [decide_eq_false h, show topS s = s by unfold topS; rw [if_neg h], show botS s = ⟨#[]⟩ by unfold botS; rw [if_neg h]]
      refine con_of Tryz.func79 rfl rfl rfl rfl rfl ?_
      repeat (first | refine seq_ ?_ | refine region_ ?_ | refine nil_ ?_ | refine stepY (y_move rfl) rfl ?_ | refine stepY (y_assign rfl) rfl ?_)
      refine call_ Tryz.func97 rfl rfl (hI) rfl (by repeat (first | exact .refl _ | apply Les.cons | exact .nil)) rfl ?_
      repeat (first | refine seq_ ?_ | refine region_ ?_ | refine nil_ ?_ | refine skip_ ?_ | refine ret_ ?_ | refine cond_f rfl ?_ | refine stepY (y_move rfl) rfl ?_ | refine stepY (y_assign rfl) rfl ?_ | refine stepY (y_cmpF rfl rfl rfl (by omega)) rfl ?_)
      ((apply fin_r); (repeat (first | exact .nil | exact .tmp rfl | apply ResL.cons)); (repeat (exact .refl _)))
  refine con_of Tryz.func54 rfl rfl rfl rfl rfl ?_
  repeat (first | refine seq_ ?_ | refine region_ ?_ | refine nil_ ?_ | refine stepY (y_move rfl) rfl ?_ | refine stepY (y_assign rfl) rfl ?_)
  refine call_ Tryz.func79 rfl rfl (hc) rfl (by repeat (first | exact .refl _ | apply Les.cons | exact .nil)) rfl ?_
  repeat (first | refine nil_ ?_ | refine ret_ ?_ | refine stepY (y_assign rfl) rfl ?_ | refine stepY (y_extract rfl rfl) rfl ?_)
  ((apply fin_r); (repeat (first | exact .nil | exact .tmp rfl | apply ResL.cons)); (repeat (exact .refl _)))
theorem negS_ex (b : ByteArray) (h : 0 < b.size) : (b.extract 0 (1 : Int).toNat = ⟨#[45]⟩) ↔ bt b 0 = 45 := by
  rw [show bt b 0 = (b[0].toNat : Int) by unfold bt; rw [dif_pos (by simpa using h)]; rfl]
  obtain ⟨⟨l⟩⟩ := b
  cases l with
  | nil => simp [ByteArray.size] at h
  | cons x l =>
    constructor
    · intro e
      have := congrArg (fun z => z.data.toList) e
      simp [List.extract_eq_take_drop] at this
      subst this
      rfl
    · intro e
      have e2 : x.toNat = 45 := by
        have : ((ByteArray.mk ⟨x :: l⟩)[0] : UInt8) = x := rfl
        rw [this] at e
        omega
      have e3 : x = 45 := UInt8.toNat_inj.1 (by rw [e2]; rfl)
      subst e3
      apply ByteArray.ext
      apply Array.ext'
      simp [List.extract_eq_take_drop]
theorem HasPrefix_c (b : ByteArray) : Con Tryz.prog 56 [St b, St ⟨#[45]⟩] (Bo (negS b)) := by
  have h0 : (ByteArray.mk #[45]).size = 1 := rfl
  have hc : Con Tryz.prog 82 [St b, St ⟨#[45]⟩] (Bo (negS b)) := by
    refine con_of Tryz.func82 rfl rfl rfl rfl rfl ?_
    by_cases h : 0 < b.size
    · rw [show negS b = decide (b.extract 0 (((ByteArray.mk #[45]).size : Int)).toNat = ⟨#[45]⟩) by unfold negS; rw [decide_eq_true h, Bool.true_and]; exact decide_eq_decide.2 (negS_ex b h).symm]
      repeat (first | refine seq_ ?_ | refine region_ ?_ | refine nil_ ?_ | refine ret_ ?_ | refine guard_t rfl rfl rfl ?_ | refine stepY (y_move rfl) rfl ?_ | refine stepY (y_assign rfl) rfl ?_ | refine stepY (y_len_str rfl) rfl ?_ | refine stepY (y_pick_t rfl rfl) rfl ?_ | refine stepY (y_slice_str_h rfl rfl (by omega) (by omega)) rfl ?_ | refine stepY (y_eqs rfl rfl) rfl ?_ | refine stepY (y_cmpT rfl rfl rfl (by omega)) rfl ?_)
      ((apply fin_r); (repeat (first | exact .nil | exact .tmp rfl | apply ResL.cons)); (repeat (exact .refl _)))
    · rw [show negS b = false by unfold negS; rw [decide_eq_false h, Bool.false_and]]
      repeat (first | refine seq_ ?_ | refine region_ ?_ | refine nil_ ?_ | refine ret_ ?_ | refine guard_f rfl rfl rfl rfl ?_ | refine stepY (y_move rfl) rfl ?_ | refine stepY (y_assign rfl) rfl ?_ | refine stepY (y_len_str rfl) rfl ?_ | refine stepY (y_pick_f rfl rfl) rfl ?_ | refine stepY (y_cmpF rfl rfl rfl (by omega)) rfl ?_)
      ((apply fin_r); (repeat (first | exact .nil | exact .tmp rfl | apply ResL.cons)); (repeat (exact .refl _)))
  refine con_of Tryz.func56 rfl rfl rfl rfl rfl ?_
  repeat (first | refine seq_ ?_ | refine region_ ?_ | refine nil_ ?_ | refine stepY (y_move rfl) rfl ?_ | refine stepY (y_assign rfl) rfl ?_)
  refine call_ Tryz.func82 rfl rfl (hc) rfl (by repeat (first | exact .refl _ | apply Les.cons | exact .nil)) rfl ?_
  repeat (first | refine nil_ ?_ | refine ret_ ?_ | refine stepY (y_assign rfl) rfl ?_)
  ((apply fin_r); (repeat (first | exact .nil | exact .tmp rfl | apply ResL.cons)); (repeat (exact .refl _)))
def PR (s : ByteArray) : Option (Option (Bool × Nat)) := prT (negS s) (tS s)
theorem PR_ln {s : ByteArray} {g : Bool} {m : Nat} (h : PR s = some (some (g, m))) : ln (sgn g m).natAbs ≤ 512 := by
  unfold PR prT at h
  split at h
  · cases h
  · split at h
    · cases h
    · split at h
      · next h1 h2 h3 =>
        injection h with h
        injection h with h
        injection h with _ h
        rw [sgn_abs, ← h]
        exact nm_ln h3 (by omega)
      · cases h
/-- what Parse answers -/
def parF (s : ByteArray) : PV :=
  match PR (topS s) with
  | none => .tp [ZF, E_ 4]
  | some none => .tp [ZF, E_ 9]
  | some (some (g, m)) =>
    if cutAt s < s.size then
      if negS (botS s) = true then .tp [ZF, E_ 9] else
      match PR (botS s) with
      | none => .tp [ZF, E_ 4]
      | some none => .tp [ZF, E_ 9]
      | some (some (g', n)) => ofR (sgn g m) (sgn g' n)
    else ofR (sgn g m) 1
theorem FParse_c (s : ByteArray) (hs : s.size ≤ 1000000000) : Con Tryz.prog 25 [St s] (parF s) := by
  have hcut := Cut_c s hs
  have hp := Parse_c (topS s)
  have hq := Parse_c (botS s)
  have hx := HasPrefix_c (botS s)
  have hf := FromInt_c 1 (by omega)
  unfold parF
  rw [show prT (negS (topS s)) (tS (topS s)) = PR (topS s) from rfl] at hp
  rw [show prT (negS (botS s)) (tS (botS s)) = PR (botS s) from rfl] at hq
  refine con_of Tryz.func25 rfl rfl rfl rfl rfl ?_
  cases h1 : PR (topS s) with
  | none =>
    rw [h1] at hp
    unfold prV at hp
    repeat (first | refine seq_ ?_ | refine region_ ?_ | refine nil_ ?_ | refine stepY (y_move rfl) rfl ?_ | refine stepY (y_assign rfl) rfl ?_ | refine stepE (e_alloc rfl rfl rfl) ?_)
    refine call_ Tryz.func54 rfl rfl (hcut) rfl (by repeat (first | exact .refl _ | apply Les.cons | exact .nil)) rfl ?_
    repeat (first | refine seq_ ?_ | refine region_ ?_ | refine nil_ ?_ | refine stepY (y_move rfl) rfl ?_ | refine stepY (y_assign rfl) rfl ?_ | refine stepY (y_extract rfl rfl) rfl ?_)
    refine call_ Tryz.func55 rfl rfl (hp) rfl (by repeat (first | exact .refl _ | apply Les.cons | exact .nil)) rfl ?_
    repeat (first | refine seq_ ?_ | refine region_ ?_ | refine nil_ ?_ | refine ret_ ?_ | refine cond_t rfl ?_ | refine stepY (y_move rfl) rfl ?_ | refine stepY (y_assign rfl) rfl ?_ | refine stepY (y_extract rfl rfl) rfl ?_ | refine stepY (y_build rfl rfl rfl) rfl ?_ | refine stepY (y_cmpT rfl rfl rfl (by omega)) rfl ?_ | refine stepE (e_alloc rfl rfl rfl) ?_ | refine stepE (e_store rfl rfl rfl rfl rfl rfl rfl) ?_)
    ((apply fin_r); (repeat (first | exact .nil | exact .tmp rfl | exact .agg rfl rfl rfl | apply ResL.cons)); (repeat (first | exact .refl _ | exact .nil _ _ | apply Le.ag | apply Le.tp | apply Les.cons | exact .nil)))
  | some o =>
    cases o with
    | none =>
      rw [h1] at hp
      unfold prV at hp
      repeat (first | refine seq_ ?_ | refine region_ ?_ | refine nil_ ?_ | refine stepY (y_move rfl) rfl ?_ | refine stepY (y_assign rfl) rfl ?_ | refine stepE (e_alloc rfl rfl rfl) ?_)
      refine call_ Tryz.func54 rfl rfl (hcut) rfl (by repeat (first | exact .refl _ | apply Les.cons | exact .nil)) rfl ?_
      repeat (first | refine seq_ ?_ | refine region_ ?_ | refine nil_ ?_ | refine stepY (y_move rfl) rfl ?_ | refine stepY (y_assign rfl) rfl ?_ | refine stepY (y_extract rfl rfl) rfl ?_)
      refine call_ Tryz.func55 rfl rfl (hp) rfl (by repeat (first | exact .refl _ | apply Les.cons | exact .nil)) rfl ?_
      repeat (first | refine seq_ ?_ | refine region_ ?_ | refine nil_ ?_ | refine ret_ ?_ | refine cond_t rfl ?_ | refine stepY (y_move rfl) rfl ?_ | refine stepY (y_assign rfl) rfl ?_ | refine stepY (y_extract rfl rfl) rfl ?_ | refine stepY (y_build rfl rfl rfl) rfl ?_ | refine stepY (y_cmpT rfl rfl rfl (by omega)) rfl ?_ | refine stepE (e_alloc rfl rfl rfl) ?_ | refine stepE (e_store rfl rfl rfl rfl rfl rfl rfl) ?_)
      ((apply fin_r); (repeat (first | exact .nil | exact .tmp rfl | exact .agg rfl rfl rfl | apply ResL.cons)); (repeat (first | exact .refl _ | exact .nil _ _ | apply Le.ag | apply Le.tp | apply Les.cons | exact .nil)))
    | some a =>
      obtain ⟨g, m⟩ := a
      rw [h1] at hp
      unfold prV at hp
      have hl1 := PR_ln h1
      dsimp only
      by_cases hc : cutAt s < s.size
      · rw [if_pos hc]
        rw [decide_eq_true hc] at hcut
        cases hn : negS (botS s) with
        | true =>
          rw [if_pos rfl]
          rw [hn] at hx
          repeat (first | refine seq_ ?_ | refine region_ ?_ | refine nil_ ?_ | refine stepY (y_move rfl) rfl ?_ | refine stepY (y_assign rfl) rfl ?_ | refine stepE (e_alloc rfl rfl rfl) ?_)
          refine call_ Tryz.func54 rfl rfl (hcut) rfl (by repeat (first | exact .refl _ | apply Les.cons | exact .nil)) rfl ?_
          repeat (first | refine seq_ ?_ | refine region_ ?_ | refine nil_ ?_ | refine stepY (y_move rfl) rfl ?_ | refine stepY (y_assign rfl) rfl ?_ | refine stepY (y_extract rfl rfl) rfl ?_)
          refine call_ Tryz.func55 rfl rfl (hp) rfl (by repeat (first | exact .refl _ | apply Les.cons | exact .nil)) rfl ?_
          repeat (first | refine seq_ ?_ | refine region_ ?_ | refine nil_ ?_ | refine skip_ ?_ | refine cond_f rfl ?_ | refine stepY (y_move rfl) rfl ?_ | refine stepY (y_assign rfl) rfl ?_ | refine stepY (y_extract rfl rfl) rfl ?_ | refine stepY (y_not rfl) rfl ?_ | refine stepY (y_cmpF rfl rfl rfl (by omega)) rfl ?_ | refine stepE (e_alloc rfl rfl rfl) ?_ | refine stepE (e_store rfl rfl rfl rfl rfl rfl rfl) ?_)
          refine call_ Tryz.func56 rfl rfl (hx) rfl (by repeat (first | exact .refl _ | apply Les.cons | exact .nil)) rfl ?_
          repeat (first | refine seq_ ?_ | refine region_ ?_ | refine nil_ ?_ | refine ret_ ?_ | refine cond_t rfl ?_ | refine stepY (y_assign rfl) rfl ?_ | refine stepY (y_build rfl rfl rfl) rfl ?_ | refine stepE (e_store rfl rfl rfl rfl rfl rfl rfl) ?_)
          ((apply fin_r); (repeat (first | exact .nil | exact .tmp rfl | exact .agg rfl rfl rfl | apply ResL.cons)); (repeat (first | exact .refl _ | exact .nil _ _ | apply Le.ag | apply Le.tp | apply Les.cons | exact .nil)))
        | false =>
          rw [if_neg Bool.false_ne_true]
          rw [hn] at hx
          cases h2 : PR (botS s) with
          | none =>
            rw [h2] at hq
            unfold prV at hq
            repeat (first | refine seq_ ?_ | refine region_ ?_ | refine nil_ ?_ | refine stepY (y_move rfl) rfl ?_ | refine stepY (y_assign rfl) rfl ?_ | refine stepE (e_alloc rfl rfl rfl) ?_)
            refine call_ Tryz.func54 rfl rfl (hcut) rfl (by repeat (first | exact .refl _ | apply Les.cons | exact .nil)) rfl ?_
            repeat (first | refine seq_ ?_ | refine region_ ?_ | refine nil_ ?_ | refine stepY (y_move rfl) rfl ?_ | refine stepY (y_assign rfl) rfl ?_ | refine stepY (y_extract rfl rfl) rfl ?_)
            refine call_ Tryz.func55 rfl rfl (hp) rfl (by repeat (first | exact .refl _ | apply Les.cons | exact .nil)) rfl ?_
            repeat (first | refine seq_ ?_ | refine region_ ?_ | refine nil_ ?_ | refine skip_ ?_ | refine cond_f rfl ?_ | refine stepY (y_move rfl) rfl ?_ | refine stepY (y_assign rfl) rfl ?_ | refine stepY (y_extract rfl rfl) rfl ?_ | refine stepY (y_not rfl) rfl ?_ | refine stepY (y_cmpF rfl rfl rfl (by omega)) rfl ?_ | refine stepE (e_alloc rfl rfl rfl) ?_ | refine stepE (e_store rfl rfl rfl rfl rfl rfl rfl) ?_)
            refine call_ Tryz.func56 rfl rfl (hx) rfl (by repeat (first | exact .refl _ | apply Les.cons | exact .nil)) rfl ?_
            repeat (first | refine seq_ ?_ | refine region_ ?_ | refine nil_ ?_ | refine skip_ ?_ | refine cond_f rfl ?_ | refine stepY (y_move rfl) rfl ?_)
            refine call_ Tryz.func55 rfl rfl (hq) rfl (by repeat (first | exact .refl _ | apply Les.cons | exact .nil)) rfl ?_
            repeat (first | refine seq_ ?_ | refine region_ ?_ | refine nil_ ?_ | refine ret_ ?_ | refine cond_t rfl ?_ | refine stepY (y_move rfl) rfl ?_ | refine stepY (y_assign rfl) rfl ?_ | refine stepY (y_extract rfl rfl) rfl ?_ | refine stepY (y_build rfl rfl rfl) rfl ?_ | refine stepY (y_cmpT rfl rfl rfl (by omega)) rfl ?_ | refine stepE (e_alloc rfl rfl rfl) ?_ | refine stepE (e_store rfl rfl rfl rfl rfl rfl rfl) ?_)
            ((apply fin_r); (repeat (first | exact .nil | exact .tmp rfl | exact .agg rfl rfl rfl | apply ResL.cons)); (repeat (first | exact .refl _ | exact .nil _ _ | apply Le.ag | apply Le.tp | apply Les.cons | exact .nil)))
          | some o =>
            cases o with
            | none =>
              rw [h2] at hq
              unfold prV at hq
              repeat (first | refine seq_ ?_ | refine region_ ?_ | refine nil_ ?_ | refine stepY (y_move rfl) rfl ?_ | refine stepY (y_assign rfl) rfl ?_ | refine stepE (e_alloc rfl rfl rfl) ?_)
              refine call_ Tryz.func54 rfl rfl (hcut) rfl (by repeat (first | exact .refl _ | apply Les.cons | exact .nil)) rfl ?_
              repeat (first | refine seq_ ?_ | refine region_ ?_ | refine nil_ ?_ | refine stepY (y_move rfl) rfl ?_ | refine stepY (y_assign rfl) rfl ?_ | refine stepY (y_extract rfl rfl) rfl ?_)
              refine call_ Tryz.func55 rfl rfl (hp) rfl (by repeat (first | exact .refl _ | apply Les.cons | exact .nil)) rfl ?_
              repeat (first | refine seq_ ?_ | refine region_ ?_ | refine nil_ ?_ | refine skip_ ?_ | refine cond_f rfl ?_ | refine stepY (y_move rfl) rfl ?_ | refine stepY (y_assign rfl) rfl ?_ | refine stepY (y_extract rfl rfl) rfl ?_ | refine stepY (y_not rfl) rfl ?_ | refine stepY (y_cmpF rfl rfl rfl (by omega)) rfl ?_ | refine stepE (e_alloc rfl rfl rfl) ?_ | refine stepE (e_store rfl rfl rfl rfl rfl rfl rfl) ?_)
              refine call_ Tryz.func56 rfl rfl (hx) rfl (by repeat (first | exact .refl _ | apply Les.cons | exact .nil)) rfl ?_
              repeat (first | refine seq_ ?_ | refine region_ ?_ | refine nil_ ?_ | refine skip_ ?_ | refine cond_f rfl ?_ | refine stepY (y_move rfl) rfl ?_)
              refine call_ Tryz.func55 rfl rfl (hq) rfl (by repeat (first | exact .refl _ | apply Les.cons | exact .nil)) rfl ?_
              repeat (first | refine seq_ ?_ | refine region_ ?_ | refine nil_ ?_ | refine ret_ ?_ | refine cond_t rfl ?_ | refine stepY (y_move rfl) rfl ?_ | refine stepY (y_assign rfl) rfl ?_ | refine stepY (y_extract rfl rfl) rfl ?_ | refine stepY (y_build rfl rfl rfl) rfl ?_ | refine stepY (y_cmpT rfl rfl rfl (by omega)) rfl ?_ | refine stepE (e_alloc rfl rfl rfl) ?_ | refine stepE (e_store rfl rfl rfl rfl rfl rfl rfl) ?_)
              ((apply fin_r); (repeat (first | exact .nil | exact .tmp rfl | exact .agg rfl rfl rfl | apply ResL.cons)); (repeat (first | exact .refl _ | exact .nil _ _ | apply Le.ag | apply Le.tp | apply Les.cons | exact .nil)))
            | some a =>
              obtain ⟨g', n⟩ := a
              rw [h2] at hq
              unfold prV at hq
              have hN := New_i (sgn g m) (sgn g' n) hl1 (PR_ln h2)
              dsimp only
              refine ofR_cases (sgn g m) (sgn g' n) (P := fun z => Con _ _ _ z → Tr _ _ _ _ _ (Fin _ _ z)) (fun hN => ?_) (fun x hN => ?_) (fun hN => ?_) hN
              · repeat (first | refine seq_ ?_ | refine region_ ?_ | refine nil_ ?_ | refine stepY (y_move rfl) rfl ?_ | refine stepY (y_assign rfl) rfl ?_ | refine stepE (e_alloc rfl rfl rfl) ?_)
                refine call_ Tryz.func54 rfl rfl (hcut) rfl (by repeat (first | exact .refl _ | apply Les.cons | exact .nil)) rfl ?_
                repeat (first | refine seq_ ?_ | refine region_ ?_ | refine nil_ ?_ | refine stepY (y_move rfl) rfl ?_ | refine stepY (y_assign rfl) rfl ?_ | refine stepY (y_extract rfl rfl) rfl ?_)
                refine call_ Tryz.func55 rfl rfl (hp) rfl (by repeat (first | exact .refl _ | apply Les.cons | exact .nil)) rfl ?_
                repeat (first | refine seq_ ?_ | refine region_ ?_ | refine nil_ ?_ | refine skip_ ?_ | refine cond_f rfl ?_ | refine stepY (y_move rfl) rfl ?_ | refine stepY (y_assign rfl) rfl ?_ | refine stepY (y_extract rfl rfl) rfl ?_ | refine stepY (y_not rfl) rfl ?_ | refine stepY (y_cmpF rfl rfl rfl (by omega)) rfl ?_ | refine stepE (e_alloc rfl rfl rfl) ?_ | refine stepE (e_store rfl rfl rfl rfl rfl rfl rfl) ?_)
                refine call_ Tryz.func56 rfl rfl (hx) rfl (by repeat (first | exact .refl _ | apply Les.cons | exact .nil)) rfl ?_
                repeat (first | refine seq_ ?_ | refine region_ ?_ | refine nil_ ?_ | refine skip_ ?_ | refine cond_f rfl ?_ | refine stepY (y_move rfl) rfl ?_)
                refine call_ Tryz.func55 rfl rfl (hq) rfl (by repeat (first | exact .refl _ | apply Les.cons | exact .nil)) rfl ?_
                repeat (first | refine seq_ ?_ | refine region_ ?_ | refine nil_ ?_ | refine skip_ ?_ | refine cond_f rfl ?_ | refine stepY (y_move rfl) rfl ?_ | refine stepY (y_assign rfl) rfl ?_ | refine stepY (y_loadA rfl rfl rfl) rfl ?_ | refine stepY (y_extract rfl rfl) rfl ?_ | refine stepY (y_cmpF rfl rfl rfl (by omega)) rfl ?_ | refine stepE (e_alloc rfl rfl rfl) ?_ | refine stepE (e_store rfl rfl rfl rfl rfl rfl rfl) ?_)
                refine call_ Tryz.func9 rfl rfl (hN) rfl (by repeat (first | exact .refl _ | exact .tag _ _ | apply Le.ag | apply Les.cons | exact .nil)) rfl ?_
                repeat (first | refine nil_ ?_ | refine ret_ ?_ | refine stepY (y_assign rfl) rfl ?_ | refine stepY (y_extract rfl rfl) rfl ?_ | refine stepE (e_store rfl rfl rfl rfl rfl rfl rfl) ?_)
                ((apply fin_r); (repeat (first | exact .nil | exact .tmp rfl | exact .agg rfl rfl rfl | apply ResL.cons)); (repeat (exact .refl _)))
              · repeat (first | refine seq_ ?_ | refine region_ ?_ | refine nil_ ?_ | refine stepY (y_move rfl) rfl ?_ | refine stepY (y_assign rfl) rfl ?_ | refine stepE (e_alloc rfl rfl rfl) ?_)
                refine call_ Tryz.func54 rfl rfl (hcut) rfl (by repeat (first | exact .refl _ | apply Les.cons | exact .nil)) rfl ?_
                repeat (first | refine seq_ ?_ | refine region_ ?_ | refine nil_ ?_ | refine stepY (y_move rfl) rfl ?_ | refine stepY (y_assign rfl) rfl ?_ | refine stepY (y_extract rfl rfl) rfl ?_)
                refine call_ Tryz.func55 rfl rfl (hp) rfl (by repeat (first | exact .refl _ | apply Les.cons | exact .nil)) rfl ?_
                repeat (first | refine seq_ ?_ | refine region_ ?_ | refine nil_ ?_ | refine skip_ ?_ | refine cond_f rfl ?_ | refine stepY (y_move rfl) rfl ?_ | refine stepY (y_assign rfl) rfl ?_ | refine stepY (y_extract rfl rfl) rfl ?_ | refine stepY (y_not rfl) rfl ?_ | refine stepY (y_cmpF rfl rfl rfl (by omega)) rfl ?_ | refine stepE (e_alloc rfl rfl rfl) ?_ | refine stepE (e_store rfl rfl rfl rfl rfl rfl rfl) ?_)
                refine call_ Tryz.func56 rfl rfl (hx) rfl (by repeat (first | exact .refl _ | apply Les.cons | exact .nil)) rfl ?_
                repeat (first | refine seq_ ?_ | refine region_ ?_ | refine nil_ ?_ | refine skip_ ?_ | refine cond_f rfl ?_ | refine stepY (y_move rfl) rfl ?_)
                refine call_ Tryz.func55 rfl rfl (hq) rfl (by repeat (first | exact .refl _ | apply Les.cons | exact .nil)) rfl ?_
                repeat (first | refine seq_ ?_ | refine region_ ?_ | refine nil_ ?_ | refine skip_ ?_ | refine cond_f rfl ?_ | refine stepY (y_move rfl) rfl ?_ | refine stepY (y_assign rfl) rfl ?_ | refine stepY (y_loadA rfl rfl rfl) rfl ?_ | refine stepY (y_extract rfl rfl) rfl ?_ | refine stepY (y_cmpF rfl rfl rfl (by omega)) rfl ?_ | refine stepE (e_alloc rfl rfl rfl) ?_ | refine stepE (e_store rfl rfl rfl rfl rfl rfl rfl) ?_)
                refine call_ Tryz.func9 rfl rfl (hN) rfl (by repeat (first | exact .refl _ | exact .tag _ _ | apply Le.ag | apply Les.cons | exact .nil)) rfl ?_
                repeat (first | refine nil_ ?_ | refine ret_ ?_ | refine stepY (y_assign rfl) rfl ?_ | refine stepY (y_extract rfl rfl) rfl ?_ | refine stepE (e_store rfl rfl rfl rfl rfl rfl rfl) ?_)
                ((apply fin_r); (repeat (first | exact .nil | exact .tmp rfl | exact .agg rfl rfl rfl | apply ResL.cons)); (repeat (exact .refl _)))
              · repeat (first | refine seq_ ?_ | refine region_ ?_ | refine nil_ ?_ | refine stepY (y_move rfl) rfl ?_ | refine stepY (y_assign rfl) rfl ?_ | refine stepE (e_alloc rfl rfl rfl) ?_)
                refine call_ Tryz.func54 rfl rfl (hcut) rfl (by repeat (first | exact .refl _ | apply Les.cons | exact .nil)) rfl ?_
                repeat (first | refine seq_ ?_ | refine region_ ?_ | refine nil_ ?_ | refine stepY (y_move rfl) rfl ?_ | refine stepY (y_assign rfl) rfl ?_ | refine stepY (y_extract rfl rfl) rfl ?_)
                refine call_ Tryz.func55 rfl rfl (hp) rfl (by repeat (first | exact .refl _ | apply Les.cons | exact .nil)) rfl ?_
                repeat (first | refine seq_ ?_ | refine region_ ?_ | refine nil_ ?_ | refine skip_ ?_ | refine cond_f rfl ?_ | refine stepY (y_move rfl) rfl ?_ | refine stepY (y_assign rfl) rfl ?_ | refine stepY (y_extract rfl rfl) rfl ?_ | refine stepY (y_not rfl) rfl ?_ | refine stepY (y_cmpF rfl rfl rfl (by omega)) rfl ?_ | refine stepE (e_alloc rfl rfl rfl) ?_ | refine stepE (e_store rfl rfl rfl rfl rfl rfl rfl) ?_)
                refine call_ Tryz.func56 rfl rfl (hx) rfl (by repeat (first | exact .refl _ | apply Les.cons | exact .nil)) rfl ?_
                repeat (first | refine seq_ ?_ | refine region_ ?_ | refine nil_ ?_ | refine skip_ ?_ | refine cond_f rfl ?_ | refine stepY (y_move rfl) rfl ?_)
                refine call_ Tryz.func55 rfl rfl (hq) rfl (by repeat (first | exact .refl _ | apply Les.cons | exact .nil)) rfl ?_
                repeat (first | refine seq_ ?_ | refine region_ ?_ | refine nil_ ?_ | refine skip_ ?_ | refine cond_f rfl ?_ | refine stepY (y_move rfl) rfl ?_ | refine stepY (y_assign rfl) rfl ?_ | refine stepY (y_loadA rfl rfl rfl) rfl ?_ | refine stepY (y_extract rfl rfl) rfl ?_ | refine stepY (y_cmpF rfl rfl rfl (by omega)) rfl ?_ | refine stepE (e_alloc rfl rfl rfl) ?_ | refine stepE (e_store rfl rfl rfl rfl rfl rfl rfl) ?_)
                refine call_ Tryz.func9 rfl rfl (hN) rfl (by repeat (first | exact .refl _ | exact .tag _ _ | apply Le.ag | apply Les.cons | exact .nil)) rfl ?_
                repeat (first | refine nil_ ?_ | refine ret_ ?_ | refine stepY (y_assign rfl) rfl ?_ | refine stepY (y_extract rfl rfl) rfl ?_ | refine stepE (e_store rfl rfl rfl rfl rfl rfl rfl) ?_)
                ((apply fin_r); (repeat (first | exact .nil | exact .tmp rfl | exact .agg rfl rfl rfl | apply ResL.cons)); (repeat (exact .refl _)))
      · rw [if_neg hc]
        rw [decide_eq_false hc] at hcut
        have hN := New_i (sgn g m) 1 hl1 (by decide)
        refine ofR_cases (sgn g m) 1 (P := fun z => Con _ _ _ z → Tr _ _ _ _ _ (Fin _ _ z)) (fun hN => ?_) (fun x hN => ?_) (fun hN => ?_) hN
        · repeat (first | refine seq_ ?_ | refine region_ ?_ | refine nil_ ?_ | refine stepY (y_move rfl) rfl ?_ | refine stepY (y_assign rfl) rfl ?_ | refine stepE (e_alloc rfl rfl rfl) ?_)
          refine call_ Tryz.func54 rfl rfl (hcut) rfl (by repeat (first | exact .refl _ | apply Les.cons | exact .nil)) rfl ?_
          repeat (first | refine seq_ ?_ | refine region_ ?_ | refine nil_ ?_ | refine stepY (y_move rfl) rfl ?_ | refine stepY (y_assign rfl) rfl ?_ | refine stepY (y_extract rfl rfl) rfl ?_)
          refine call_ Tryz.func55 rfl rfl (hp) rfl (by repeat (first | exact .refl _ | apply Les.cons | exact .nil)) rfl ?_
          repeat (first | refine seq_ ?_ | refine region_ ?_ | refine nil_ ?_ | refine skip_ ?_ | refine cond_t rfl ?_ | refine cond_f rfl ?_ | refine stepY (y_move rfl) rfl ?_ | refine stepY (y_assign rfl) rfl ?_ | refine stepY (y_extract rfl rfl) rfl ?_ | refine stepY (y_not rfl) rfl ?_ | refine stepY (y_cmpF rfl rfl rfl (by omega)) rfl ?_ | refine stepE (e_alloc rfl rfl rfl) ?_ | refine stepE (e_store rfl rfl rfl rfl rfl rfl rfl) ?_)
          refine draw_ [(0, true), (1, false), (2, false), (3, true), (4, true), (5, false), (6, true)] 1000 [7] mixed (by kernel_rfl) rfl ?_
          ((refine dY rfl (y_loadA rfl rfl rfl) rfl rfl rfl rfl ?_))
          refine dC rfl Tryz.func46 rfl rfl (hf) rfl (by repeat (first | exact .refl _ | apply Les.cons | exact .nil)) rfl rfl ?_
          skip
          refine dC rfl Tryz.func9 rfl rfl (hN) rfl (by repeat (first | exact .refl _ | exact .tag _ _ | apply Le.ag | apply Les.cons | exact .nil)) rfl rfl ?_
          ((refine dY rfl (y_extract rfl rfl) rfl rfl rfl rfl ?_); refine dY rfl (y_extract rfl rfl) rfl rfl rfl rfl ?_; (refine dE rfl (e_store rfl rfl rfl rfl rfl rfl rfl) rfl rfl ?_); refine dY rfl (y_assign rfl) rfl rfl rfl rfl ?_; refine dEnd ?_)
          repeat (refine ret_ ?_)
          ((apply fin_r); (repeat (first | exact .nil | exact .tmp rfl | exact .agg rfl rfl rfl | apply ResL.cons)); (repeat (exact .refl _)))
        · repeat (first | refine seq_ ?_ | refine region_ ?_ | refine nil_ ?_ | refine stepY (y_move rfl) rfl ?_ | refine stepY (y_assign rfl) rfl ?_ | refine stepE (e_alloc rfl rfl rfl) ?_)
          refine call_ Tryz.func54 rfl rfl (hcut) rfl (by repeat (first | exact .refl _ | apply Les.cons | exact .nil)) rfl ?_
          repeat (first | refine seq_ ?_ | refine region_ ?_ | refine nil_ ?_ | refine stepY (y_move rfl) rfl ?_ | refine stepY (y_assign rfl) rfl ?_ | refine stepY (y_extract rfl rfl) rfl ?_)
          refine call_ Tryz.func55 rfl rfl (hp) rfl (by repeat (first | exact .refl _ | apply Les.cons | exact .nil)) rfl ?_
          repeat (first | refine seq_ ?_ | refine region_ ?_ | refine nil_ ?_ | refine skip_ ?_ | refine cond_t rfl ?_ | refine cond_f rfl ?_ | refine stepY (y_move rfl) rfl ?_ | refine stepY (y_assign rfl) rfl ?_ | refine stepY (y_extract rfl rfl) rfl ?_ | refine stepY (y_not rfl) rfl ?_ | refine stepY (y_cmpF rfl rfl rfl (by omega)) rfl ?_ | refine stepE (e_alloc rfl rfl rfl) ?_ | refine stepE (e_store rfl rfl rfl rfl rfl rfl rfl) ?_)
          refine draw_ [(0, true), (1, false), (2, false), (3, true), (4, true), (5, false), (6, true)] 1000 [7] mixed (by kernel_rfl) rfl ?_
          ((refine dY rfl (y_loadA rfl rfl rfl) rfl rfl rfl rfl ?_))
          refine dC rfl Tryz.func46 rfl rfl (hf) rfl (by repeat (first | exact .refl _ | apply Les.cons | exact .nil)) rfl rfl ?_
          skip
          refine dC rfl Tryz.func9 rfl rfl (hN) rfl (by repeat (first | exact .refl _ | exact .tag _ _ | apply Le.ag | apply Les.cons | exact .nil)) rfl rfl ?_
          ((refine dY rfl (y_extract rfl rfl) rfl rfl rfl rfl ?_); refine dY rfl (y_extract rfl rfl) rfl rfl rfl rfl ?_; (refine dE rfl (e_store rfl rfl rfl rfl rfl rfl rfl) rfl rfl ?_); refine dY rfl (y_assign rfl) rfl rfl rfl rfl ?_; refine dEnd ?_)
          repeat (refine ret_ ?_)
          ((apply fin_r); (repeat (first | exact .nil | exact .tmp rfl | exact .agg rfl rfl rfl | apply ResL.cons)); (repeat (exact .refl _)))
        · repeat (first | refine seq_ ?_ | refine region_ ?_ | refine nil_ ?_ | refine stepY (y_move rfl) rfl ?_ | refine stepY (y_assign rfl) rfl ?_ | refine stepE (e_alloc rfl rfl rfl) ?_)
          refine call_ Tryz.func54 rfl rfl (hcut) rfl (by repeat (first | exact .refl _ | apply Les.cons | exact .nil)) rfl ?_
          repeat (first | refine seq_ ?_ | refine region_ ?_ | refine nil_ ?_ | refine stepY (y_move rfl) rfl ?_ | refine stepY (y_assign rfl) rfl ?_ | refine stepY (y_extract rfl rfl) rfl ?_)
          refine call_ Tryz.func55 rfl rfl (hp) rfl (by repeat (first | exact .refl _ | apply Les.cons | exact .nil)) rfl ?_
          repeat (first | refine seq_ ?_ | refine region_ ?_ | refine nil_ ?_ | refine skip_ ?_ | refine cond_t rfl ?_ | refine cond_f rfl ?_ | refine stepY (y_move rfl) rfl ?_ | refine stepY (y_assign rfl) rfl ?_ | refine stepY (y_extract rfl rfl) rfl ?_ | refine stepY (y_not rfl) rfl ?_ | refine stepY (y_cmpF rfl rfl rfl (by omega)) rfl ?_ | refine stepE (e_alloc rfl rfl rfl) ?_ | refine stepE (e_store rfl rfl rfl rfl rfl rfl rfl) ?_)
          refine draw_ [(0, true), (1, false), (2, false), (3, true), (4, true), (5, false), (6, true)] 1000 [7] mixed (by kernel_rfl) rfl ?_
          ((refine dY rfl (y_loadA rfl rfl rfl) rfl rfl rfl rfl ?_))
          refine dC rfl Tryz.func46 rfl rfl (hf) rfl (by repeat (first | exact .refl _ | apply Les.cons | exact .nil)) rfl rfl ?_
          skip
          refine dC rfl Tryz.func9 rfl rfl (hN) rfl (by repeat (first | exact .refl _ | exact .tag _ _ | apply Le.ag | apply Les.cons | exact .nil)) rfl rfl ?_
          ((refine dY rfl (y_extract rfl rfl) rfl rfl rfl rfl ?_); refine dY rfl (y_extract rfl rfl) rfl rfl rfl rfl ?_; (refine dE rfl (e_store rfl rfl rfl rfl rfl rfl rfl) rfl rfl ?_); refine dY rfl (y_assign rfl) rfl rfl rfl rfl ?_; refine dEnd ?_)
          repeat (refine ret_ ?_)
          ((apply fin_r); (repeat (first | exact .nil | exact .tmp rfl | exact .agg rfl rfl rfl | apply ResL.cons)); (repeat (exact .refl _)))
end Go.Av

set_option maxHeartbeats 8000000
set_option exponentiation.threshold 100000
set_option maxRecDepth 100000
set_option linter.unusedVariables false
set_option linter.unusedSimpArgs false
namespace Go.Av
open Go Go.Proofs
/-! the chapter's examples hold -/
theorem exPar1 : parF ⟨#[49, 47, 45, 50]⟩ = .tp [ZF, E_ 9] := by
  unfold parF
  rw [show PR (topS ⟨#[49, 47, 45, 50]⟩) = some (some (false, 1)) by decide +kernel]
  dsimp only
  rw [if_pos (by decide +kernel), if_pos (by decide +kernel)]
theorem exPar2 : parF ⟨#[54, 47, 52]⟩ = .tp [FQ (Q_ 3 2), E_ 0] := by
  unfold parF
  rw [show PR (topS ⟨#[54, 47, 52]⟩) = some (some (false, 6)) by decide +kernel]
  dsimp only
  rw [if_pos (by decide +kernel), if_neg (by decide +kernel), show PR (botS ⟨#[54, 47, 52]⟩) = some (some (false, 4)) by decide +kernel]
  dsimp only
  unfold ofR
  rw [if_neg (by decide +kernel), show Rat.divInt (sgn false 6) (sgn false 4) = Q_ 3 2 by decide +kernel, resQ_ok (by decide +kernel)]
theorem exampleHolds_c : Con Tryz.prog 6 [] (Bo true) := by
  refine con_of Tryz.func6 rfl rfl rfl rfl rfl ?_
  have a1 := of_c 1 6 (by omega) (by omega) (by omega)
  have a2 := of_c 1 3 (by omega) (by omega) (by omega)
  have a3 := of_c 2 3 (by omega) (by omega) (by omega)
  have a4 := of_c 3 4 (by omega) (by omega) (by omega)
  have a5 := of_c 1 2 (by omega) (by omega) (by omega)
  have a6 := of_c (-3) 4 (by omega) (by omega) (by omega)
  have a7 := of_c 31 10 (by omega) (by omega) (by omega)
  have a8 := of_c 16 5 (by omega) (by omega) (by omega)
  have a9 := of_c 6 (-4) (by omega) (by omega) (by omega)
  have ok : ∀ n d : Int, (-100 ≤ n ∧ n ≤ 100) → (-100 ≤ d ∧ d ≤ 100) → d ≠ 0 → okQ (Q_ n d) := fun n d h1 h2 h3 => okQ_div n d (by omega) (by omega) h3
  have b1 := FAdd_q (Q_ 1 6) (Q_ 1 3) (ok _ _ (by omega) (by omega) (by omega)) (ok _ _ (by omega) (by omega) (by omega))
  rw [show Q_ 1 6 + Q_ 1 3 = Q_ 1 2 by decide +kernel, resQ_ok (ok _ _ (by omega) (by omega) (by omega))] at b1
  have b2 := FMul_q (Q_ 2 3) (Q_ 3 4) (ok _ _ (by omega) (by omega) (by omega)) (ok _ _ (by omega) (by omega) (by omega))
  rw [show Q_ 2 3 * Q_ 3 4 = Q_ 1 2 by decide +kernel, resQ_ok (ok _ _ (by omega) (by omega) (by omega))] at b2
  have b3 := FDiv_q (Q_ 1 2) (Q_ (-3) 4) (ok _ _ (by omega) (by omega) (by omega)) (ok _ _ (by omega) (by omega) (by omega)) (by decide +kernel)
  rw [show Q_ 1 2 / Q_ (-3) 4 = Q_ (-2) 3 by decide +kernel, resQ_ok (ok _ _ (by omega) (by omega) (by omega))] at b3
  have b4 := Simplest_q (Q_ 31 10) (Q_ 16 5) (ok _ _ (by omega) (by omega) (by omega)) (ok _ _ (by omega) (by omega) (by omega)) (by decide +kernel)
  rw [show smp (Q_ 31 10) (Q_ 16 5) = Q_ 16 5 by decide +kernel] at b4
  have i1 := is_c 1 2 (by omega) (by omega) (by omega)
  have i2 := is_c (-2) 3 (by omega) (by omega) (by omega)
  have i3 := is_c 16 5 (by omega) (by omega) (by omega)
  have i4 := is_c 3 2 (by omega) (by omega) (by omega)
  have z := Of_c 1 0 (by omega) (by omega)
  unfold ofR at z
  rw [if_pos rfl] at z
  have p1 := FParse_c ⟨#[49, 47, 45, 50]⟩ (by decide)
  rw [exPar1] at p1
  have p2 := FParse_c ⟨#[54, 47, 52]⟩ (by decide)
  rw [exPar2] at p2
  have c1 := FCmp_q (Q_ 1 3) (Q_ 1 2) (ok _ _ (by omega) (by omega) (by omega)) (ok _ _ (by omega) (by omega) (by omega))
  rw [show qcmp (Q_ 1 3) (Q_ 1 2) = -1 by decide +kernel] at c1
  have f1 := FFormat_g _ _ _ (vG_q (ok (-3) 4 (by omega) (by omega) (by omega)))
  rw [show fmtQ (decide ((Q_ (-3) 4).num < 0)) (Q_ (-3) 4).num.natAbs (Q_ (-3) 4).den = ⟨#[45, 51, 47, 52]⟩ by decide +kernel] at f1
  have v1 := FValid_c (decide ((Q_ 6 (-4)).num < 0)) (limbs (Q_ 6 (-4)).num.natAbs) false (limbs (Q_ 6 (-4)).den) (wf_limbs _) (wf_limbs _)
  rw [vldF_t (ok 6 (-4) (by omega) (by omega) (by omega))] at v1
  repeat (first | refine seq_ ?_ | refine region_ ?_ | refine nil_ ?_ | refine stepY (y_assign rfl) rfl ?_)
  refine call_ Tryz.func8 rfl rfl (a1) rfl (by repeat (first | exact .refl _ | apply Les.cons | exact .nil)) rfl ?_
  skip
  refine call_ Tryz.func8 rfl rfl (a2) rfl (by repeat (first | exact .refl _ | apply Les.cons | exact .nil)) rfl ?_
  skip
  refine call_ Tryz.func10 rfl rfl (b1) rfl (by repeat (first | exact .refl _ | exact .tag _ _ | apply Le.ag | apply Les.cons | exact .nil)) rfl ?_
  repeat (first | refine seq_ ?_ | refine region_ ?_ | refine nil_ ?_ | refine stepY (y_move rfl) rfl ?_ | refine stepY (y_assign rfl) rfl ?_ | refine stepY (y_extract rfl rfl) rfl ?_ | refine stepE (e_alloc rfl rfl rfl) ?_ | refine stepE (e_store rfl rfl rfl rfl rfl rfl rfl) ?_)
  refine call_ Tryz.func8 rfl rfl (a3) rfl (by repeat (first | exact .refl _ | apply Les.cons | exact .nil)) rfl ?_
  skip
  refine call_ Tryz.func8 rfl rfl (a4) rfl (by repeat (first | exact .refl _ | apply Les.cons | exact .nil)) rfl ?_
  skip
  refine call_ Tryz.func12 rfl rfl (b2) rfl (by repeat (first | exact .refl _ | exact .tag _ _ | apply Le.ag | apply Les.cons | exact .nil)) rfl ?_
  repeat (first | refine seq_ ?_ | refine region_ ?_ | refine nil_ ?_ | refine stepY (y_move rfl) rfl ?_ | refine stepY (y_assign rfl) rfl ?_ | refine stepY (y_extract rfl rfl) rfl ?_ | refine stepE (e_alloc rfl rfl rfl) ?_ | refine stepE (e_store rfl rfl rfl rfl rfl rfl rfl) ?_)
  refine call_ Tryz.func8 rfl rfl (a5) rfl (by repeat (first | exact .refl _ | apply Les.cons | exact .nil)) rfl ?_
  skip
  refine call_ Tryz.func8 rfl rfl (a6) rfl (by repeat (first | exact .refl _ | apply Les.cons | exact .nil)) rfl ?_
  skip
  refine call_ Tryz.func13 rfl rfl (b3) rfl (by repeat (first | exact .refl _ | exact .tag _ _ | apply Le.ag | apply Les.cons | exact .nil)) rfl ?_
  repeat (first | refine seq_ ?_ | refine region_ ?_ | refine nil_ ?_ | refine stepY (y_move rfl) rfl ?_ | refine stepY (y_assign rfl) rfl ?_ | refine stepY (y_extract rfl rfl) rfl ?_ | refine stepE (e_alloc rfl rfl rfl) ?_ | refine stepE (e_store rfl rfl rfl rfl rfl rfl rfl) ?_)
  refine call_ Tryz.func8 rfl rfl (a7) rfl (by repeat (first | exact .refl _ | apply Les.cons | exact .nil)) rfl ?_
  skip
  refine call_ Tryz.func8 rfl rfl (a8) rfl (by repeat (first | exact .refl _ | apply Les.cons | exact .nil)) rfl ?_
  skip
  refine call_ Tryz.func14 rfl rfl (b4) rfl (by repeat (first | exact .refl _ | exact .tag _ _ | apply Le.ag | apply Les.cons | exact .nil)) rfl ?_
  repeat (first | refine seq_ ?_ | refine region_ ?_ | refine nil_ ?_ | refine stepY (y_move rfl) rfl ?_ | refine stepY (y_assign rfl) rfl ?_ | refine stepY (y_loadA rfl rfl rfl) rfl ?_ | refine stepY (y_extract rfl rfl) rfl ?_ | refine stepE (e_alloc rfl rfl rfl) ?_ | refine stepE (e_store rfl rfl rfl rfl rfl rfl rfl) ?_)
  refine call_ Tryz.func23 rfl rfl (i1) rfl (by repeat (first | exact .refl _ | exact .tag _ _ | apply Le.ag | apply Les.cons | exact .nil)) rfl ?_
  repeat (first | refine guard_t rfl rfl rfl ?_ | refine stepY (y_move rfl) rfl ?_ | refine stepY (y_loadA rfl rfl rfl) rfl ?_ | refine stepY (y_not rfl) rfl ?_)
  refine call_ Tryz.func23 rfl rfl (i1) rfl (by repeat (first | exact .refl _ | exact .tag _ _ | apply Le.ag | apply Les.cons | exact .nil)) rfl ?_
  repeat (first | refine guard_t rfl rfl rfl ?_ | refine stepY (y_move rfl) rfl ?_ | refine stepY (y_loadA rfl rfl rfl) rfl ?_ | refine stepY (y_not rfl) rfl ?_ | refine stepY (y_pick_f rfl rfl) rfl ?_)
  refine call_ Tryz.func23 rfl rfl (i2) rfl (by repeat (first | exact .refl _ | exact .tag _ _ | apply Le.ag | apply Les.cons | exact .nil)) rfl ?_
  repeat (first | refine guard_t rfl rfl rfl ?_ | refine stepY (y_move rfl) rfl ?_ | refine stepY (y_loadA rfl rfl rfl) rfl ?_ | refine stepY (y_not rfl) rfl ?_ | refine stepY (y_pick_f rfl rfl) rfl ?_)
  refine call_ Tryz.func23 rfl rfl (i3) rfl (by repeat (first | exact .refl _ | exact .tag _ _ | apply Le.ag | apply Les.cons | exact .nil)) rfl ?_
  repeat (first | refine seq_ ?_ | refine region_ ?_ | refine nil_ ?_ | refine skip_ ?_ | refine cond_f rfl ?_ | refine guard_t rfl rfl rfl ?_ | refine stepY (y_not rfl) rfl ?_ | refine stepY (y_pick_f rfl rfl) rfl ?_)
  refine call_ Tryz.func24 rfl rfl (z) rfl (by repeat (first | exact .refl _ | apply Les.cons | exact .nil)) rfl ?_
  repeat (first | refine seq_ ?_ | refine region_ ?_ | refine nil_ ?_ | refine stepY (y_move rfl) rfl ?_ | refine stepY (y_assign rfl) rfl ?_ | refine stepY (y_extract rfl rfl) rfl ?_ | refine stepE (e_alloc rfl rfl rfl) ?_ | refine stepE (e_store rfl rfl rfl rfl rfl rfl rfl) ?_)
  refine call_ Tryz.func25 rfl rfl (p1) rfl (by repeat (first | exact .refl _ | apply Les.cons | exact .nil)) rfl ?_
  repeat (first | refine seq_ ?_ | refine region_ ?_ | refine nil_ ?_ | refine stepY (y_move rfl) rfl ?_ | refine stepY (y_assign rfl) rfl ?_ | refine stepY (y_extract rfl rfl) rfl ?_ | refine stepE (e_alloc rfl rfl rfl) ?_ | refine stepE (e_store rfl rfl rfl rfl rfl rfl rfl) ?_)
  refine call_ Tryz.func25 rfl rfl (p2) rfl (by repeat (first | exact .refl _ | apply Les.cons | exact .nil)) rfl ?_
  repeat (first | refine seq_ ?_ | refine region_ ?_ | refine nil_ ?_ | refine stepY (y_move rfl) rfl ?_ | refine stepY (y_assign rfl) rfl ?_ | refine stepY (y_extract rfl rfl) rfl ?_ | refine stepE (e_alloc rfl rfl rfl) ?_ | refine stepE (e_store rfl rfl rfl rfl rfl rfl rfl) ?_)
  refine call_ Tryz.func8 rfl rfl (a2) rfl (by repeat (first | exact .refl _ | apply Les.cons | exact .nil)) rfl ?_
  skip
  refine call_ Tryz.func8 rfl rfl (a5) rfl (by repeat (first | exact .refl _ | apply Les.cons | exact .nil)) rfl ?_
  skip
  refine call_ Tryz.func26 rfl rfl (c1) rfl (by repeat (first | exact .refl _ | exact .tag _ _ | apply Le.ag | apply Les.cons | exact .nil)) rfl ?_
  repeat (first | refine seq_ ?_ | refine region_ ?_ | refine nil_ ?_ | refine guard_t rfl rfl rfl ?_ | refine stepY (y_move rfl) rfl ?_ | refine stepY (y_assign rfl) rfl ?_ | refine stepY (y_loadA rfl rfl rfl) rfl ?_ | refine stepY (y_extract rfl rfl) rfl ?_ | refine stepY (y_pick_t rfl rfl) rfl ?_ | refine stepY (y_cmpT rfl rfl rfl (by omega)) rfl ?_)
  refine call_ Tryz.func23 rfl rfl (i4) rfl (by repeat (first | exact .refl _ | exact .tag _ _ | apply Le.ag | apply Les.cons | exact .nil)) rfl ?_
  repeat (first | refine guard_t rfl rfl rfl ?_ | refine stepY (y_move rfl) rfl ?_ | refine stepY (y_pick_t rfl rfl) rfl ?_ | refine stepY (y_cmpT rfl rfl rfl (by omega)) rfl ?_)
  refine call_ Tryz.func8 rfl rfl (a6) rfl (by repeat (first | exact .refl _ | apply Les.cons | exact .nil)) rfl ?_
  repeat (refine guard_t rfl rfl rfl ?_)
  refine call_ Tryz.func27 rfl rfl (f1) rfl (by repeat (first | exact .refl _ | exact .tag _ _ | apply Le.ag | apply Les.cons | exact .nil)) rfl ?_
  repeat (first | refine guard_t rfl rfl rfl ?_ | refine stepY (y_move rfl) rfl ?_ | refine stepY (y_pick_t rfl rfl) rfl ?_ | refine stepY (y_eqs rfl rfl) rfl ?_)
  refine call_ Tryz.func8 rfl rfl (a9) rfl (by repeat (first | exact .refl _ | apply Les.cons | exact .nil)) rfl ?_
  repeat (refine guard_t rfl rfl rfl ?_)
  refine call_ Tryz.func28 rfl rfl (v1) rfl (by repeat (first | exact .refl _ | exact .tag _ _ | apply Le.ag | apply Les.cons | exact .nil)) rfl ?_
  repeat (first | refine nil_ ?_ | refine ret_ ?_ | refine stepY (y_assign rfl) rfl ?_ | refine stepY (y_pick_t rfl rfl) rfl ?_)
  ((apply fin_r); (repeat (first | exact .nil | exact .tmp rfl | apply ResL.cons)); (repeat (exact .refl _)))
end Go.Av

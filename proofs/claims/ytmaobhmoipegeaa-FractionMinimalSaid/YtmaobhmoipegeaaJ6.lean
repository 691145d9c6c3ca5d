/- Contracts of functions that the laws on fractions reach, and the plain arithmetic behind them: no conditions beyond those in each statement. -/
import Derived.Test.YtmaobhmoipegeaaJ5
import Derived.KernelRfl
import Derived.Test.YtmaobhmoipegeaaJ3
import Derived.Test.YtmaobhmoipegeaaJ1
import Derived.Test.YtmaobhmoipegeaaRows
import Derived.WalkKit
import Derived.ProofKit
import Derived.OpenShut
import Derived.ShutString
import Derived.ChangeOld
import Derived.Below
import Derived.SizedLaws
import Derived.Lib.SmallJoins
import Derived.Carry
import Derived.Test.YtmaobhmoipegeaaJ2
set_option maxHeartbeats 8000000
set_option exponentiation.threshold 100000
set_option maxRecDepth 100000
set_option linter.unusedVariables false
set_option linter.unusedSimpArgs false
namespace Go.Av
open Go Go.Proofs
/-! fractions: texts -/
def cutAt (s : ByteArray) : Nat := ((List.range s.size).find? fun i => s[i]! == 47).getD s.size
theorem cut_le (s : ByteArray) : cutAt s ≤ s.size := by
  unfold cutAt
  cases h : (List.range s.size).find? fun i => s[i]! == 47 with
  | none => simp
  | some i => have := List.mem_of_find?_eq_some h; simp at this ⊢; omega
theorem bt_bang {s : ByteArray} {i : Nat} (h : i < s.size) : bt s (i : Int) = (s[i]!.toNat : Int) := by
  unfold bt
  rw [dif_pos (by simpa using h), getElem!_pos s i h]
  simp
theorem u8_47 (x : UInt8) : (x == 47) = decide ((x.toNat : Int) = 47) := by
  by_cases h : x = 47
  · subst h; rfl
  · rw [beq_eq_false_iff_ne.2 h, decide_eq_false]
    intro h2
    exact h (UInt8.toNat_inj.1 (by have : x.toNat = 47 := by omega
                                   rw [this]; rfl))
theorem cut_first (s : ByteArray) : firstIdx s 47 = if cutAt s < s.size then (cutAt s : Int) else -1 := by
  unfold firstIdx cutAt
  cases h : (List.range s.size).find? fun i => s[i]! == 47 with
  | none => simp
  | some i => have := List.mem_of_find?_eq_some h; simp at this ⊢; omega
theorem cut_at {s : ByteArray} (h : cutAt s < s.size) : bt s (cutAt s) = 47 := by
  unfold cutAt at *
  cases h1 : (List.range s.size).find? fun i => s[i]! == 47 with
  | none => rw [h1] at h; simp at h
  | some i =>
    rw [h1] at h
    have := List.find?_some h1
    simp only [Option.getD_some] at h ⊢
    rw [u8_47, decide_eq_true_eq] at this
    rw [bt_bang h, this]
theorem cut_lo {s : ByteArray} {j : Nat} (h : j < cutAt s) : bt s j ≠ 47 := by
  have hj := Nat.lt_of_lt_of_le h (cut_le s)
  have hn : ¬ (s[j]! == 47) = true := by
    unfold cutAt at h
    cases h1 : (List.range s.size).find? fun i => s[i]! == 47 with
    | none =>
      have := List.find?_eq_none.1 h1 j (by simpa using hj)
      simpa using this
    | some i =>
      rw [h1] at h
      simp only [Option.getD_some] at h
      have := (List.find?_range_eq_some.1 h1).2.2 j h
      simpa using this
  rw [u8_47, decide_eq_true_eq] at hn
  rwa [bt_bang hj]
abbrev St (s : ByteArray) : PV := .v (.string s)
def topS (s : ByteArray) : ByteArray := if cutAt s < s.size then s.extract 0 (cutAt s) else s
def botS (s : ByteArray) : ByteArray := if cutAt s < s.size then s.extract (cutAt s + 1) s.size else ⟨#[]⟩
theorem IndexByte_c (s : ByteArray) : Con Try.prog 108 [St s, .v (.int .u8 47)] (I (firstIdx s 47)) := by
  refine con_of Try.func108 rfl rfl rfl rfl rfl ?_
  repeat (first | refine seq_ ?_ | refine region_ ?_ | refine nil_ ?_ | refine stepY (y_move rfl) rfl ?_ | refine stepY (y_assign rfl) rfl ?_)
  refine stepY (y_ixb Try.func112 rfl rfl (by kernel_rfl) (by kernel_rfl) rfl rfl) rfl ?_
  repeat (first | refine nil_ ?_ | refine ret_ ?_ | refine stepY (y_assign rfl) rfl ?_)
  ((apply fin_r); (repeat (first | exact .nil | exact .tmp rfl | apply ResL.cons)); (repeat (exact .refl _)))
theorem Index_c (s : ByteArray) : Con Try.prog 105 [St s, St ⟨#[47]⟩] (I (firstIdx s 47)) := by
  refine con_of Try.func105 rfl rfl rfl rfl rfl ?_
  have h0 : (ByteArray.mk #[47]).size = 1 := rfl
  have h1 : bt ⟨#[47]⟩ 0 = 47 := rfl
  by_cases h2 : (ByteArray.mk #[47]) = s
  · rw [show firstIdx s 47 = 0 by rw [← h2]; rfl]
    repeat (first | refine seq_ ?_ | refine region_ ?_ | refine nil_ ?_ | refine block_ ?_ | refine guard_t rfl rfl rfl ?_ | refine stepY (y_move rfl) rfl ?_ | refine stepY (y_assign rfl) rfl ?_ | refine stepY (y_len_str rfl) rfl ?_ | refine stepY (y_pick_f rfl rfl) rfl ?_ | (first | refine stepY (y_cmpF rfl rfl rfl (by omega)) rfl ?_ | refine stepY (y_eqs rfl rfl) rfl ?_))
    rw [decide_eq_true h2]
    repeat (first | refine seq_ ?_ | refine region_ ?_ | refine nil_ ?_ | refine ret_ ?_ | refine cond_t rfl ?_ | refine stepY (y_assign rfl) rfl ?_)
    ((apply fin_r); (repeat (first | exact .nil | exact .tmp rfl | apply ResL.cons)); (repeat (exact .refl _)))
  · repeat (first | refine seq_ ?_ | refine region_ ?_ | refine nil_ ?_ | refine block_ ?_ | refine guard_t rfl rfl rfl ?_ | refine stepY (y_move rfl) rfl ?_ | refine stepY (y_assign rfl) rfl ?_ | refine stepY (y_len_str rfl) rfl ?_ | refine stepY (y_pick_f rfl rfl) rfl ?_ | (first | refine stepY (y_cmpF rfl rfl rfl (by omega)) rfl ?_ | refine stepY (y_eqs rfl rfl) rfl ?_))
    rw [decide_eq_false h2]
    repeat (first | refine seq_ ?_ | refine region_ ?_ | refine nil_ ?_ | refine cond_t rfl ?_ | refine cond_f rfl ?_ | refine stepY (y_move rfl) rfl ?_ | refine stepY (y_assign rfl) rfl ?_ | refine stepY (y_index_str rfl rfl (by omega) (by omega)) rfl ?_ | refine stepY (y_cmpT rfl rfl rfl (by omega)) rfl ?_)
    rw [h1]
    refine call_ Try.func108 rfl rfl (IndexByte_c s) rfl (by repeat (first | exact .refl _ | apply Les.cons | exact .nil)) rfl ?_
    repeat (first | refine nil_ ?_ | refine ret_ ?_ | refine stepY (y_assign rfl) rfl ?_)
    ((apply fin_r); (repeat (first | exact .nil | exact .tmp rfl | apply ResL.cons)); (repeat (exact .refl _)))
theorem Cut_c (s : ByteArray) (hs : s.size ≤ 1000000000) : Con Try.prog 59 [St s, St ⟨#[47]⟩] (.tp [St (topS s), St (botS s), Bo (decide (cutAt s < s.size))]) := by
  have hl := cut_le s
  have hI := Index_c s
  have h0 : (ByteArray.mk #[47]).size = 1 := rfl
  have hc : Con Try.prog 87 [St s, St ⟨#[47]⟩] (.tp [St (topS s), St (botS s), Bo (decide (cutAt s < s.size))]) := by
    rw [cut_first] at hI
    by_cases h : cutAt s < s.size
    · rw [if_pos h] at hI
      rw [decide_eq_true h, show topS s = s.extract 0 ((cutAt s : Int)).toNat by unfold topS; rw [if_pos h]; simp, show botS s = s.extract ((cutAt s : Int) + 1).toNat s.size by unfold botS; rw [if_pos h]; congr 1]
      refine con_of Try.func87 rfl rfl rfl rfl rfl ?_
      repeat (first | refine seq_ ?_ | refine region_ ?_ | refine nil_ ?_ | refine stepY (y_move rfl) rfl ?_ | refine stepY (y_assign rfl) rfl ?_)
      refine call_ Try.func105 rfl rfl (hI) rfl (by repeat (first | exact .refl _ | apply Les.cons | exact .nil)) rfl ?_
      repeat (first | refine seq_ ?_ | refine region_ ?_ | refine nil_ ?_ | refine cond_t rfl ?_ | refine stepY (y_move rfl) rfl ?_ | refine stepY (y_assign rfl) rfl ?_ | refine stepY (y_cmpT rfl rfl rfl (by omega)) rfl ?_)
      refine draw_ [(0, true), (1, true), (2, true), (3, true), (4, true), (5, true), (6, true), (7, true), (8, true), (9, true), (10, true), (11, true)] 1000 [] mixed (by kernel_rfl) rfl ?_
      ((refine dY rfl (y_move rfl) rfl rfl rfl rfl ?_); refine dY rfl (y_move rfl) rfl rfl rfl rfl ?_; refine dY rfl (y_slice_str_h rfl rfl (by omega) (by omega)) rfl rfl rfl rfl ?_; refine dY rfl (y_move rfl) rfl rfl rfl rfl ?_; refine dY rfl (y_move rfl) rfl rfl rfl rfl ?_; refine dY rfl (y_move rfl) rfl rfl rfl rfl ?_; refine dY rfl (y_len_str rfl) rfl rfl rfl rfl ?_; refine dY rfl (y_binn rfl rfl rfl (by simp only [InK, loK, hiK]; omega)) rfl rfl rfl rfl ?_; refine dY rfl (y_slice_str_l rfl rfl (by omega) (by omega)) rfl rfl rfl rfl ?_; refine dY rfl (y_assign rfl) rfl rfl rfl rfl ?_; refine dY rfl (y_assign rfl) rfl rfl rfl rfl ?_; refine dY rfl (y_assign rfl) rfl rfl rfl rfl ?_; refine dEnd ?_)
      repeat (refine ret_ ?_)
      ((apply fin_r); (repeat (first | exact .nil | exact .tmp rfl | apply ResL.cons)); (repeat (exact .refl _)))
    · rw [if_neg h] at hI
      rw [decide_eq_false h, show topS s = s by unfold topS; rw [if_neg h], show botS s = ⟨#[]⟩ by unfold botS; rw [if_neg h]]
      refine con_of Try.func87 rfl rfl rfl rfl rfl ?_
      repeat (first | refine seq_ ?_ | refine region_ ?_ | refine nil_ ?_ | refine stepY (y_move rfl) rfl ?_ | refine stepY (y_assign rfl) rfl ?_)
      refine call_ Try.func105 rfl rfl (hI) rfl (by repeat (first | exact .refl _ | apply Les.cons | exact .nil)) rfl ?_
      repeat (first | refine seq_ ?_ | refine region_ ?_ | refine nil_ ?_ | refine skip_ ?_ | refine ret_ ?_ | refine cond_f rfl ?_ | refine stepY (y_move rfl) rfl ?_ | refine stepY (y_assign rfl) rfl ?_ | refine stepY (y_cmpF rfl rfl rfl (by omega)) rfl ?_)
      ((apply fin_r); (repeat (first | exact .nil | exact .tmp rfl | apply ResL.cons)); (repeat (exact .refl _)))
  refine con_of Try.func59 rfl rfl rfl rfl rfl ?_
  repeat (first | refine seq_ ?_ | refine region_ ?_ | refine nil_ ?_ | refine stepY (y_move rfl) rfl ?_ | refine stepY (y_assign rfl) rfl ?_)
  refine call_ Try.func87 rfl rfl (hc) rfl (by repeat (first | exact .refl _ | apply Les.cons | exact .nil)) rfl ?_
  repeat (first | refine nil_ ?_ | refine ret_ ?_ | refine stepY (y_assign rfl) rfl ?_ | refine stepY (y_extract rfl rfl) rfl ?_)
  ((apply fin_r); (repeat (first | exact .nil | exact .tmp rfl | apply ResL.cons)); (repeat (exact .refl _)))
theorem negS_ex (b : ByteArray) (h : 0 < b.size) : (b.extract 0 (1 : Int).toNat = ⟨#[45]⟩) ↔ bt b 0 = 45 := by
  rw [show bt b 0 = (b[0].toNat : Int) by unfold bt; rw [dif_pos (by simpa using h)]; rfl]
  obtain ⟨⟨l⟩⟩ := b
  cases l with
  | nil => simp [ByteArray.size] at h
  | cons x l =>
    constructor
    · intro e
      have := congrArg (fun z => z.data.toList) e
      simp [List.extract_eq_take_drop] at this
      subst this
      rfl
    · intro e
      have e2 : x.toNat = 45 := by
        have : ((ByteArray.mk ⟨x :: l⟩)[0] : UInt8) = x := rfl
        rw [this] at e
        omega
      have e3 : x = 45 := UInt8.toNat_inj.1 (by rw [e2]; rfl)
      subst e3
      apply ByteArray.ext
      apply Array.ext'
      simp [List.extract_eq_take_drop]
theorem HasPrefix_c (b : ByteArray) : Con Try.prog 61 [St b, St ⟨#[45]⟩] (Bo (negS b)) := by
  have h0 : (ByteArray.mk #[45]).size = 1 := rfl
  have hc : Con Try.prog 90 [St b, St ⟨#[45]⟩] (Bo (negS b)) := by
    refine con_of Try.func90 rfl rfl rfl rfl rfl ?_
    by_cases h : 0 < b.size
    · rw [show negS b = decide (b.extract 0 (((ByteArray.mk #[45]).size : Int)).toNat = ⟨#[45]⟩) by unfold negS; rw [decide_eq_true h, Bool.true_and]; exact decide_eq_decide.2 (negS_ex b h).symm]
      repeat (first | refine seq_ ?_ | refine region_ ?_ | refine nil_ ?_ | refine ret_ ?_ | refine guard_t rfl rfl rfl ?_ | refine stepY (y_move rfl) rfl ?_ | refine stepY (y_assign rfl) rfl ?_ | refine stepY (y_len_str rfl) rfl ?_ | refine stepY (y_pick_t rfl rfl) rfl ?_ | refine stepY (y_slice_str_h rfl rfl (by omega) (by omega)) rfl ?_ | refine stepY (y_eqs rfl rfl) rfl ?_ | refine stepY (y_cmpT rfl rfl rfl (by omega)) rfl ?_)
      ((apply fin_r); (repeat (first | exact .nil | exact .tmp rfl | apply ResL.cons)); (repeat (exact .refl _)))
    · rw [show negS b = false by unfold negS; rw [decide_eq_false h, Bool.false_and]]
      repeat (first | refine seq_ ?_ | refine region_ ?_ | refine nil_ ?_ | refine ret_ ?_ | refine guard_f rfl rfl rfl rfl ?_ | refine stepY (y_move rfl) rfl ?_ | refine stepY (y_assign rfl) rfl ?_ | refine stepY (y_len_str rfl) rfl ?_ | refine stepY (y_pick_f rfl rfl) rfl ?_ | refine stepY (y_cmpF rfl rfl rfl (by omega)) rfl ?_)
      ((apply fin_r); (repeat (first | exact .nil | exact .tmp rfl | apply ResL.cons)); (repeat (exact .refl _)))
  refine con_of Try.func61 rfl rfl rfl rfl rfl ?_
  repeat (first | refine seq_ ?_ | refine region_ ?_ | refine nil_ ?_ | refine stepY (y_move rfl) rfl ?_ | refine stepY (y_assign rfl) rfl ?_)
  refine call_ Try.func90 rfl rfl (hc) rfl (by repeat (first | exact .refl _ | apply Les.cons | exact .nil)) rfl ?_
  repeat (first | refine nil_ ?_ | refine ret_ ?_ | refine stepY (y_assign rfl) rfl ?_)
  ((apply fin_r); (repeat (first | exact .nil | exact .tmp rfl | apply ResL.cons)); (repeat (exact .refl _)))
def PR (s : ByteArray) : Option (Option (Bool × Nat)) := prT (negS s) (tS s)
theorem PR_ln {s : ByteArray} {g : Bool} {m : Nat} (h : PR s = some (some (g, m))) : ln (sgn g m).natAbs ≤ 512 := by
  unfold PR prT at h
  split at h
  · cases h
  · split at h
    · cases h
    · split at h
      · next h1 h2 h3 =>
        injection h with h
        injection h with h
        injection h with _ h
        rw [sgn_abs, ← h]
        exact nm_ln h3 (by omega)
      · cases h
/-- what Parse answers -/
def parF (s : ByteArray) : PV :=
  match PR (topS s) with
  | none => .tp [ZF, E_ 4]
  | some none => .tp [ZF, E_ 9]
  | some (some (g, m)) =>
    if cutAt s < s.size then
      if negS (botS s) = true then .tp [ZF, E_ 9] else
      match PR (botS s) with
      | none => .tp [ZF, E_ 4]
      | some none => .tp [ZF, E_ 9]
      | some (some (g', n)) => ofR (sgn g m) (sgn g' n)
    else ofR (sgn g m) 1
theorem FParse_c (s : ByteArray) (hs : s.size ≤ 1000000000) : Con Try.prog 33 [St s] (parF s) := by
  have hcut := Cut_c s hs
  have hp := Parse_c (topS s)
  have hq := Parse_c (botS s)
  have hx := HasPrefix_c (botS s)
  have hf := FromInt_c 1 (by omega)
  unfold parF
  rw [show prT (negS (topS s)) (tS (topS s)) = PR (topS s) from rfl] at hp
  rw [show prT (negS (botS s)) (tS (botS s)) = PR (botS s) from rfl] at hq
  refine con_of Try.func33 rfl rfl rfl rfl rfl ?_
  cases h1 : PR (topS s) with
  | none =>
    rw [h1] at hp
    unfold prV at hp
    repeat (first | refine seq_ ?_ | refine region_ ?_ | refine nil_ ?_ | refine stepY (y_move rfl) rfl ?_ | refine stepY (y_assign rfl) rfl ?_ | refine stepE (e_alloc rfl rfl rfl) ?_)
    refine call_ Try.func59 rfl rfl (hcut) rfl (by repeat (first | exact .refl _ | apply Les.cons | exact .nil)) rfl ?_
    repeat (first | refine seq_ ?_ | refine region_ ?_ | refine nil_ ?_ | refine stepY (y_move rfl) rfl ?_ | refine stepY (y_assign rfl) rfl ?_ | refine stepY (y_extract rfl rfl) rfl ?_)
    refine call_ Try.func60 rfl rfl (hp) rfl (by repeat (first | exact .refl _ | apply Les.cons | exact .nil)) rfl ?_
    repeat (first | refine seq_ ?_ | refine region_ ?_ | refine nil_ ?_ | refine ret_ ?_ | refine cond_t rfl ?_ | refine stepY (y_move rfl) rfl ?_ | refine stepY (y_assign rfl) rfl ?_ | refine stepY (y_extract rfl rfl) rfl ?_ | refine stepY (y_build rfl rfl rfl) rfl ?_ | refine stepY (y_cmpT rfl rfl rfl (by omega)) rfl ?_ | refine stepE (e_alloc rfl rfl rfl) ?_ | refine stepE (e_store rfl rfl rfl rfl rfl rfl rfl) ?_)
    ((apply fin_r); (repeat (first | exact .nil | exact .tmp rfl | exact .agg rfl rfl rfl | apply ResL.cons)); (repeat (first | exact .refl _ | exact .nil _ _ | apply Le.ag | apply Le.tp | apply Les.cons | exact .nil)))
  | some o =>
    cases o with
    | none =>
      rw [h1] at hp
      unfold prV at hp
      repeat (first | refine seq_ ?_ | refine region_ ?_ | refine nil_ ?_ | refine stepY (y_move rfl) rfl ?_ | refine stepY (y_assign rfl) rfl ?_ | refine stepE (e_alloc rfl rfl rfl) ?_)
      refine call_ Try.func59 rfl rfl (hcut) rfl (by repeat (first | exact .refl _ | apply Les.cons | exact .nil)) rfl ?_
      repeat (first | refine seq_ ?_ | refine region_ ?_ | refine nil_ ?_ | refine stepY (y_move rfl) rfl ?_ | refine stepY (y_assign rfl) rfl ?_ | refine stepY (y_extract rfl rfl) rfl ?_)
      refine call_ Try.func60 rfl rfl (hp) rfl (by repeat (first | exact .refl _ | apply Les.cons | exact .nil)) rfl ?_
      repeat (first | refine seq_ ?_ | refine region_ ?_ | refine nil_ ?_ | refine ret_ ?_ | refine cond_t rfl ?_ | refine stepY (y_move rfl) rfl ?_ | refine stepY (y_assign rfl) rfl ?_ | refine stepY (y_extract rfl rfl) rfl ?_ | refine stepY (y_build rfl rfl rfl) rfl ?_ | refine stepY (y_cmpT rfl rfl rfl (by omega)) rfl ?_ | refine stepE (e_alloc rfl rfl rfl) ?_ | refine stepE (e_store rfl rfl rfl rfl rfl rfl rfl) ?_)
      ((apply fin_r); (repeat (first | exact .nil | exact .tmp rfl | exact .agg rfl rfl rfl | apply ResL.cons)); (repeat (first | exact .refl _ | exact .nil _ _ | apply Le.ag | apply Le.tp | apply Les.cons | exact .nil)))
    | some a =>
      obtain ⟨g, m⟩ := a
      rw [h1] at hp
      unfold prV at hp
      have hl1 := PR_ln h1
      dsimp only
      by_cases hc : cutAt s < s.size
      · rw [if_pos hc]
        rw [decide_eq_true hc] at hcut
        cases hn : negS (botS s) with
        | true =>
          rw [if_pos rfl]
          rw [hn] at hx
          repeat (first | refine seq_ ?_ | refine region_ ?_ | refine nil_ ?_ | refine stepY (y_move rfl) rfl ?_ | refine stepY (y_assign rfl) rfl ?_ | refine stepE (e_alloc rfl rfl rfl) ?_)
          refine call_ Try.func59 rfl rfl (hcut) rfl (by repeat (first | exact .refl _ | apply Les.cons | exact .nil)) rfl ?_
          repeat (first | refine seq_ ?_ | refine region_ ?_ | refine nil_ ?_ | refine stepY (y_move rfl) rfl ?_ | refine stepY (y_assign rfl) rfl ?_ | refine stepY (y_extract rfl rfl) rfl ?_)
          refine call_ Try.func60 rfl rfl (hp) rfl (by repeat (first | exact .refl _ | apply Les.cons | exact .nil)) rfl ?_
          repeat (first | refine seq_ ?_ | refine region_ ?_ | refine nil_ ?_ | refine skip_ ?_ | refine cond_f rfl ?_ | refine stepY (y_move rfl) rfl ?_ | refine stepY (y_assign rfl) rfl ?_ | refine stepY (y_extract rfl rfl) rfl ?_ | refine stepY (y_not rfl) rfl ?_ | refine stepY (y_cmpF rfl rfl rfl (by omega)) rfl ?_ | refine stepE (e_alloc rfl rfl rfl) ?_ | refine stepE (e_store rfl rfl rfl rfl rfl rfl rfl) ?_)
          refine call_ Try.func61 rfl rfl (hx) rfl (by repeat (first | exact .refl _ | apply Les.cons | exact .nil)) rfl ?_
          repeat (first | refine seq_ ?_ | refine region_ ?_ | refine nil_ ?_ | refine ret_ ?_ | refine cond_t rfl ?_ | refine stepY (y_assign rfl) rfl ?_ | refine stepY (y_build rfl rfl rfl) rfl ?_ | refine stepE (e_store rfl rfl rfl rfl rfl rfl rfl) ?_)
          ((apply fin_r); (repeat (first | exact .nil | exact .tmp rfl | exact .agg rfl rfl rfl | apply ResL.cons)); (repeat (first | exact .refl _ | exact .nil _ _ | apply Le.ag | apply Le.tp | apply Les.cons | exact .nil)))
        | false =>
          rw [if_neg Bool.false_ne_true]
          rw [hn] at hx
          cases h2 : PR (botS s) with
          | none =>
            rw [h2] at hq
            unfold prV at hq
            repeat (first | refine seq_ ?_ | refine region_ ?_ | refine nil_ ?_ | refine stepY (y_move rfl) rfl ?_ | refine stepY (y_assign rfl) rfl ?_ | refine stepE (e_alloc rfl rfl rfl) ?_)
            refine call_ Try.func59 rfl rfl (hcut) rfl (by repeat (first | exact .refl _ | apply Les.cons | exact .nil)) rfl ?_
            repeat (first | refine seq_ ?_ | refine region_ ?_ | refine nil_ ?_ | refine stepY (y_move rfl) rfl ?_ | refine stepY (y_assign rfl) rfl ?_ | refine stepY (y_extract rfl rfl) rfl ?_)
            refine call_ Try.func60 rfl rfl (hp) rfl (by repeat (first | exact .refl _ | apply Les.cons | exact .nil)) rfl ?_
            repeat (first | refine seq_ ?_ | refine region_ ?_ | refine nil_ ?_ | refine skip_ ?_ | refine cond_f rfl ?_ | refine stepY (y_move rfl) rfl ?_ | refine stepY (y_assign rfl) rfl ?_ | refine stepY (y_extract rfl rfl) rfl ?_ | refine stepY (y_not rfl) rfl ?_ | refine stepY (y_cmpF rfl rfl rfl (by omega)) rfl ?_ | refine stepE (e_alloc rfl rfl rfl) ?_ | refine stepE (e_store rfl rfl rfl rfl rfl rfl rfl) ?_)
            refine call_ Try.func61 rfl rfl (hx) rfl (by repeat (first | exact .refl _ | apply Les.cons | exact .nil)) rfl ?_
            repeat (first | refine seq_ ?_ | refine region_ ?_ | refine nil_ ?_ | refine skip_ ?_ | refine cond_f rfl ?_ | refine stepY (y_move rfl) rfl ?_)
            refine call_ Try.func60 rfl rfl (hq) rfl (by repeat (first | exact .refl _ | apply Les.cons | exact .nil)) rfl ?_
            repeat (first | refine seq_ ?_ | refine region_ ?_ | refine nil_ ?_ | refine ret_ ?_ | refine cond_t rfl ?_ | refine stepY (y_move rfl) rfl ?_ | refine stepY (y_assign rfl) rfl ?_ | refine stepY (y_extract rfl rfl) rfl ?_ | refine stepY (y_build rfl rfl rfl) rfl ?_ | refine stepY (y_cmpT rfl rfl rfl (by omega)) rfl ?_ | refine stepE (e_alloc rfl rfl rfl) ?_ | refine stepE (e_store rfl rfl rfl rfl rfl rfl rfl) ?_)
            ((apply fin_r); (repeat (first | exact .nil | exact .tmp rfl | exact .agg rfl rfl rfl | apply ResL.cons)); (repeat (first | exact .refl _ | exact .nil _ _ | apply Le.ag | apply Le.tp | apply Les.cons | exact .nil)))
          | some o =>
            cases o with
            | none =>
              rw [h2] at hq
              unfold prV at hq
              repeat (first | refine seq_ ?_ | refine region_ ?_ | refine nil_ ?_ | refine stepY (y_move rfl) rfl ?_ | refine stepY (y_assign rfl) rfl ?_ | refine stepE (e_alloc rfl rfl rfl) ?_)
              refine call_ Try.func59 rfl rfl (hcut) rfl (by repeat (first | exact .refl _ | apply Les.cons | exact .nil)) rfl ?_
              repeat (first | refine seq_ ?_ | refine region_ ?_ | refine nil_ ?_ | refine stepY (y_move rfl) rfl ?_ | refine stepY (y_assign rfl) rfl ?_ | refine stepY (y_extract rfl rfl) rfl ?_)
              refine call_ Try.func60 rfl rfl (hp) rfl (by repeat (first | exact .refl _ | apply Les.cons | exact .nil)) rfl ?_
              repeat (first | refine seq_ ?_ | refine region_ ?_ | refine nil_ ?_ | refine skip_ ?_ | refine cond_f rfl ?_ | refine stepY (y_move rfl) rfl ?_ | refine stepY (y_assign rfl) rfl ?_ | refine stepY (y_extract rfl rfl) rfl ?_ | refine stepY (y_not rfl) rfl ?_ | refine stepY (y_cmpF rfl rfl rfl (by omega)) rfl ?_ | refine stepE (e_alloc rfl rfl rfl) ?_ | refine stepE (e_store rfl rfl rfl rfl rfl rfl rfl) ?_)
              refine call_ Try.func61 rfl rfl (hx) rfl (by repeat (first | exact .refl _ | apply Les.cons | exact .nil)) rfl ?_
              repeat (first | refine seq_ ?_ | refine region_ ?_ | refine nil_ ?_ | refine skip_ ?_ | refine cond_f rfl ?_ | refine stepY (y_move rfl) rfl ?_)
              refine call_ Try.func60 rfl rfl (hq) rfl (by repeat (first | exact .refl _ | apply Les.cons | exact .nil)) rfl ?_
              repeat (first | refine seq_ ?_ | refine region_ ?_ | refine nil_ ?_ | refine ret_ ?_ | refine cond_t rfl ?_ | refine stepY (y_move rfl) rfl ?_ | refine stepY (y_assign rfl) rfl ?_ | refine stepY (y_extract rfl rfl) rfl ?_ | refine stepY (y_build rfl rfl rfl) rfl ?_ | refine stepY (y_cmpT rfl rfl rfl (by omega)) rfl ?_ | refine stepE (e_alloc rfl rfl rfl) ?_ | refine stepE (e_store rfl rfl rfl rfl rfl rfl rfl) ?_)
              ((apply fin_r); (repeat (first | exact .nil | exact .tmp rfl | exact .agg rfl rfl rfl | apply ResL.cons)); (repeat (first | exact .refl _ | exact .nil _ _ | apply Le.ag | apply Le.tp | apply Les.cons | exact .nil)))
            | some a =>
              obtain ⟨g', n⟩ := a
              rw [h2] at hq
              unfold prV at hq
              have hN := New_i (sgn g m) (sgn g' n) hl1 (PR_ln h2)
              dsimp only
              refine ofR_cases (sgn g m) (sgn g' n) (P := fun z => Con _ _ _ z → Tr _ _ _ _ _ (Fin _ _ z)) (fun hN => ?_) (fun x hN => ?_) (fun hN => ?_) hN
              · repeat (first | refine seq_ ?_ | refine region_ ?_ | refine nil_ ?_ | refine stepY (y_move rfl) rfl ?_ | refine stepY (y_assign rfl) rfl ?_ | refine stepE (e_alloc rfl rfl rfl) ?_)
                refine call_ Try.func59 rfl rfl (hcut) rfl (by repeat (first | exact .refl _ | apply Les.cons | exact .nil)) rfl ?_
                repeat (first | refine seq_ ?_ | refine region_ ?_ | refine nil_ ?_ | refine stepY (y_move rfl) rfl ?_ | refine stepY (y_assign rfl) rfl ?_ | refine stepY (y_extract rfl rfl) rfl ?_)
                refine call_ Try.func60 rfl rfl (hp) rfl (by repeat (first | exact .refl _ | apply Les.cons | exact .nil)) rfl ?_
                repeat (first | refine seq_ ?_ | refine region_ ?_ | refine nil_ ?_ | refine skip_ ?_ | refine cond_f rfl ?_ | refine stepY (y_move rfl) rfl ?_ | refine stepY (y_assign rfl) rfl ?_ | refine stepY (y_extract rfl rfl) rfl ?_ | refine stepY (y_not rfl) rfl ?_ | refine stepY (y_cmpF rfl rfl rfl (by omega)) rfl ?_ | refine stepE (e_alloc rfl rfl rfl) ?_ | refine stepE (e_store rfl rfl rfl rfl rfl rfl rfl) ?_)
                refine call_ Try.func61 rfl rfl (hx) rfl (by repeat (first | exact .refl _ | apply Les.cons | exact .nil)) rfl ?_
                repeat (first | refine seq_ ?_ | refine region_ ?_ | refine nil_ ?_ | refine skip_ ?_ | refine cond_f rfl ?_ | refine stepY (y_move rfl) rfl ?_)
                refine call_ Try.func60 rfl rfl (hq) rfl (by repeat (first | exact .refl _ | apply Les.cons | exact .nil)) rfl ?_
                repeat (first | refine seq_ ?_ | refine region_ ?_ | refine nil_ ?_ | refine skip_ ?_ | refine cond_f rfl ?_ | refine stepY (y_move rfl) rfl ?_ | refine stepY (y_assign rfl) rfl ?_ | refine stepY (y_loadA rfl rfl rfl) rfl ?_ | refine stepY (y_extract rfl rfl) rfl ?_ | refine stepY (y_cmpF rfl rfl rfl (by omega)) rfl ?_ | refine stepE (e_alloc rfl rfl rfl) ?_ | refine stepE (e_store rfl rfl rfl rfl rfl rfl rfl) ?_)
                refine call_ Try.func11 rfl rfl (hN) rfl (by repeat (first | exact .refl _ | exact .tag _ _ | apply Le.ag | apply Les.cons | exact .nil)) rfl ?_
                repeat (first | refine nil_ ?_ | refine ret_ ?_ | refine stepY (y_assign rfl) rfl ?_ | refine stepY (y_extract rfl rfl) rfl ?_ | refine stepE (e_store rfl rfl rfl rfl rfl rfl rfl) ?_)
                ((apply fin_r); (repeat (first | exact .nil | exact .tmp rfl | exact .agg rfl rfl rfl | apply ResL.cons)); (repeat (exact .refl _)))
              · repeat (first | refine seq_ ?_ | refine region_ ?_ | refine nil_ ?_ | refine stepY (y_move rfl) rfl ?_ | refine stepY (y_assign rfl) rfl ?_ | refine stepE (e_alloc rfl rfl rfl) ?_)
                refine call_ Try.func59 rfl rfl (hcut) rfl (by repeat (first | exact .refl _ | apply Les.cons | exact .nil)) rfl ?_
                repeat (first | refine seq_ ?_ | refine region_ ?_ | refine nil_ ?_ | refine stepY (y_move rfl) rfl ?_ | refine stepY (y_assign rfl) rfl ?_ | refine stepY (y_extract rfl rfl) rfl ?_)
                refine call_ Try.func60 rfl rfl (hp) rfl (by repeat (first | exact .refl _ | apply Les.cons | exact .nil)) rfl ?_
                repeat (first | refine seq_ ?_ | refine region_ ?_ | refine nil_ ?_ | refine skip_ ?_ | refine cond_f rfl ?_ | refine stepY (y_move rfl) rfl ?_ | refine stepY (y_assign rfl) rfl ?_ | refine stepY (y_extract rfl rfl) rfl ?_ | refine stepY (y_not rfl) rfl ?_ | refine stepY (y_cmpF rfl rfl rfl (by omega)) rfl ?_ | refine stepE (e_alloc rfl rfl rfl) ?_ | refine stepE (e_store rfl rfl rfl rfl rfl rfl rfl) ?_)
                refine call_ Try.func61 rfl rfl (hx) rfl (by repeat (first | exact .refl _ | apply Les.cons | exact .nil)) rfl ?_
                repeat (first | refine seq_ ?_ | refine region_ ?_ | refine nil_ ?_ | refine skip_ ?_ | refine cond_f rfl ?_ | refine stepY (y_move rfl) rfl ?_)
                refine call_ Try.func60 rfl rfl (hq) rfl (by repeat (first | exact .refl _ | apply Les.cons | exact .nil)) rfl ?_
                repeat (first | refine seq_ ?_ | refine region_ ?_ | refine nil_ ?_ | refine skip_ ?_ | refine cond_f rfl ?_ | refine stepY (y_move rfl) rfl ?_ | refine stepY (y_assign rfl) rfl ?_ | refine stepY (y_loadA rfl rfl rfl) rfl ?_ | refine stepY (y_extract rfl rfl) rfl ?_ | refine stepY (y_cmpF rfl rfl rfl (by omega)) rfl ?_ | refine stepE (e_alloc rfl rfl rfl) ?_ | refine stepE (e_store rfl rfl rfl rfl rfl rfl rfl) ?_)
                refine call_ Try.func11 rfl rfl (hN) rfl (by repeat (first | exact .refl _ | exact .tag _ _ | apply Le.ag | apply Les.cons | exact .nil)) rfl ?_
                repeat (first | refine nil_ ?_ | refine ret_ ?_ | refine stepY (y_assign rfl) rfl ?_ | refine stepY (y_extract rfl rfl) rfl ?_ | refine stepE (e_store rfl rfl rfl rfl rfl rfl rfl) ?_)
                ((apply fin_r); (repeat (first | exact .nil | exact .tmp rfl | exact .agg rfl rfl rfl | apply ResL.cons)); (repeat (exact .refl _)))
              · repeat (first | refine seq_ ?_ | refine region_ ?_ | refine nil_ ?_ | refine stepY (y_move rfl) rfl ?_ | refine stepY (y_assign rfl) rfl ?_ | refine stepE (e_alloc rfl rfl rfl) ?_)
                refine call_ Try.func59 rfl rfl (hcut) rfl (by repeat (first | exact .refl _ | apply Les.cons | exact .nil)) rfl ?_
                repeat (first | refine seq_ ?_ | refine region_ ?_ | refine nil_ ?_ | refine stepY (y_move rfl) rfl ?_ | refine stepY (y_assign rfl) rfl ?_ | refine stepY (y_extract rfl rfl) rfl ?_)
                refine call_ Try.func60 rfl rfl (hp) rfl (by repeat (first | exact .refl _ | apply Les.cons | exact .nil)) rfl ?_
                repeat (first | refine seq_ ?_ | refine region_ ?_ | refine nil_ ?_ | refine skip_ ?_ | refine cond_f rfl ?_ | refine stepY (y_move rfl) rfl ?_ | refine stepY (y_assign rfl) rfl ?_ | refine stepY (y_extract rfl rfl) rfl ?_ | refine stepY (y_not rfl) rfl ?_ | refine stepY (y_cmpF rfl rfl rfl (by omega)) rfl ?_ | refine stepE (e_alloc rfl rfl rfl) ?_ | refine stepE (e_store rfl rfl rfl rfl rfl rfl rfl) ?_)
                refine call_ Try.func61 rfl rfl (hx) rfl (by repeat (first | exact .refl _ | apply Les.cons | exact .nil)) rfl ?_
                repeat (first | refine seq_ ?_ | refine region_ ?_ | refine nil_ ?_ | refine skip_ ?_ | refine cond_f rfl ?_ | refine stepY (y_move rfl) rfl ?_)
                refine call_ Try.func60 rfl rfl (hq) rfl (by repeat (first | exact .refl _ | apply Les.cons | exact .nil)) rfl ?_
                repeat (first | refine seq_ ?_ | refine region_ ?_ | refine nil_ ?_ | refine skip_ ?_ | refine cond_f rfl ?_ | refine stepY (y_move rfl) rfl ?_ | refine stepY (y_assign rfl) rfl ?_ | refine stepY (y_loadA rfl rfl rfl) rfl ?_ | refine stepY (y_extract rfl rfl) rfl ?_ | refine stepY (y_cmpF rfl rfl rfl (by omega)) rfl ?_ | refine stepE (e_alloc rfl rfl rfl) ?_ | refine stepE (e_store rfl rfl rfl rfl rfl rfl rfl) ?_)
                refine call_ Try.func11 rfl rfl (hN) rfl (by repeat (first | exact .refl _ | exact .tag _ _ | apply Le.ag | apply Les.cons | exact .nil)) rfl ?_
                repeat (first | refine nil_ ?_ | refine ret_ ?_ | refine stepY (y_assign rfl) rfl ?_ | refine stepY (y_extract rfl rfl) rfl ?_ | refine stepE (e_store rfl rfl rfl rfl rfl rfl rfl) ?_)
                ((apply fin_r); (repeat (first | exact .nil | exact .tmp rfl | exact .agg rfl rfl rfl | apply ResL.cons)); (repeat (exact .refl _)))
      · rw [if_neg hc]
        rw [decide_eq_false hc] at hcut
        have hN := New_i (sgn g m) 1 hl1 (by decide)
        refine ofR_cases (sgn g m) 1 (P := fun z => Con _ _ _ z → Tr _ _ _ _ _ (Fin _ _ z)) (fun hN => ?_) (fun x hN => ?_) (fun hN => ?_) hN
        · repeat (first | refine seq_ ?_ | refine region_ ?_ | refine nil_ ?_ | refine stepY (y_move rfl) rfl ?_ | refine stepY (y_assign rfl) rfl ?_ | refine stepE (e_alloc rfl rfl rfl) ?_)
          refine call_ Try.func59 rfl rfl (hcut) rfl (by repeat (first | exact .refl _ | apply Les.cons | exact .nil)) rfl ?_
          repeat (first | refine seq_ ?_ | refine region_ ?_ | refine nil_ ?_ | refine stepY (y_move rfl) rfl ?_ | refine stepY (y_assign rfl) rfl ?_ | refine stepY (y_extract rfl rfl) rfl ?_)
          refine call_ Try.func60 rfl rfl (hp) rfl (by repeat (first | exact .refl _ | apply Les.cons | exact .nil)) rfl ?_
          repeat (first | refine seq_ ?_ | refine region_ ?_ | refine nil_ ?_ | refine skip_ ?_ | refine cond_t rfl ?_ | refine cond_f rfl ?_ | refine stepY (y_move rfl) rfl ?_ | refine stepY (y_assign rfl) rfl ?_ | refine stepY (y_extract rfl rfl) rfl ?_ | refine stepY (y_not rfl) rfl ?_ | refine stepY (y_cmpF rfl rfl rfl (by omega)) rfl ?_ | refine stepE (e_alloc rfl rfl rfl) ?_ | refine stepE (e_store rfl rfl rfl rfl rfl rfl rfl) ?_)
          refine draw_ [(0, true), (1, false), (2, false), (3, true), (4, true), (5, false), (6, true)] 1000 [7] mixed (by kernel_rfl) rfl ?_
          ((refine dY rfl (y_loadA rfl rfl rfl) rfl rfl rfl rfl ?_))
          refine dC rfl Try.func40 rfl rfl (hf) rfl (by repeat (first | exact .refl _ | apply Les.cons | exact .nil)) rfl rfl ?_
          skip
          refine dC rfl Try.func11 rfl rfl (hN) rfl (by repeat (first | exact .refl _ | exact .tag _ _ | apply Le.ag | apply Les.cons | exact .nil)) rfl rfl ?_
          ((refine dY rfl (y_extract rfl rfl) rfl rfl rfl rfl ?_); refine dY rfl (y_extract rfl rfl) rfl rfl rfl rfl ?_; (refine dE rfl (e_store rfl rfl rfl rfl rfl rfl rfl) rfl rfl ?_); refine dY rfl (y_assign rfl) rfl rfl rfl rfl ?_; refine dEnd ?_)
          repeat (refine ret_ ?_)
          ((apply fin_r); (repeat (first | exact .nil | exact .tmp rfl | exact .agg rfl rfl rfl | apply ResL.cons)); (repeat (exact .refl _)))
        · repeat (first | refine seq_ ?_ | refine region_ ?_ | refine nil_ ?_ | refine stepY (y_move rfl) rfl ?_ | refine stepY (y_assign rfl) rfl ?_ | refine stepE (e_alloc rfl rfl rfl) ?_)
          refine call_ Try.func59 rfl rfl (hcut) rfl (by repeat (first | exact .refl _ | apply Les.cons | exact .nil)) rfl ?_
          repeat (first | refine seq_ ?_ | refine region_ ?_ | refine nil_ ?_ | refine stepY (y_move rfl) rfl ?_ | refine stepY (y_assign rfl) rfl ?_ | refine stepY (y_extract rfl rfl) rfl ?_)
          refine call_ Try.func60 rfl rfl (hp) rfl (by repeat (first | exact .refl _ | apply Les.cons | exact .nil)) rfl ?_
          repeat (first | refine seq_ ?_ | refine region_ ?_ | refine nil_ ?_ | refine skip_ ?_ | refine cond_t rfl ?_ | refine cond_f rfl ?_ | refine stepY (y_move rfl) rfl ?_ | refine stepY (y_assign rfl) rfl ?_ | refine stepY (y_extract rfl rfl) rfl ?_ | refine stepY (y_not rfl) rfl ?_ | refine stepY (y_cmpF rfl rfl rfl (by omega)) rfl ?_ | refine stepE (e_alloc rfl rfl rfl) ?_ | refine stepE (e_store rfl rfl rfl rfl rfl rfl rfl) ?_)
          refine draw_ [(0, true), (1, false), (2, false), (3, true), (4, true), (5, false), (6, true)] 1000 [7] mixed (by kernel_rfl) rfl ?_
          ((refine dY rfl (y_loadA rfl rfl rfl) rfl rfl rfl rfl ?_))
          refine dC rfl Try.func40 rfl rfl (hf) rfl (by repeat (first | exact .refl _ | apply Les.cons | exact .nil)) rfl rfl ?_
          skip
          refine dC rfl Try.func11 rfl rfl (hN) rfl (by repeat (first | exact .refl _ | exact .tag _ _ | apply Le.ag | apply Les.cons | exact .nil)) rfl rfl ?_
          ((refine dY rfl (y_extract rfl rfl) rfl rfl rfl rfl ?_); refine dY rfl (y_extract rfl rfl) rfl rfl rfl rfl ?_; (refine dE rfl (e_store rfl rfl rfl rfl rfl rfl rfl) rfl rfl ?_); refine dY rfl (y_assign rfl) rfl rfl rfl rfl ?_; refine dEnd ?_)
          repeat (refine ret_ ?_)
          ((apply fin_r); (repeat (first | exact .nil | exact .tmp rfl | exact .agg rfl rfl rfl | apply ResL.cons)); (repeat (exact .refl _)))
        · repeat (first | refine seq_ ?_ | refine region_ ?_ | refine nil_ ?_ | refine stepY (y_move rfl) rfl ?_ | refine stepY (y_assign rfl) rfl ?_ | refine stepE (e_alloc rfl rfl rfl) ?_)
          refine call_ Try.func59 rfl rfl (hcut) rfl (by repeat (first | exact .refl _ | apply Les.cons | exact .nil)) rfl ?_
          repeat (first | refine seq_ ?_ | refine region_ ?_ | refine nil_ ?_ | refine stepY (y_move rfl) rfl ?_ | refine stepY (y_assign rfl) rfl ?_ | refine stepY (y_extract rfl rfl) rfl ?_)
          refine call_ Try.func60 rfl rfl (hp) rfl (by repeat (first | exact .refl _ | apply Les.cons | exact .nil)) rfl ?_
          repeat (first | refine seq_ ?_ | refine region_ ?_ | refine nil_ ?_ | refine skip_ ?_ | refine cond_t rfl ?_ | refine cond_f rfl ?_ | refine stepY (y_move rfl) rfl ?_ | refine stepY (y_assign rfl) rfl ?_ | refine stepY (y_extract rfl rfl) rfl ?_ | refine stepY (y_not rfl) rfl ?_ | refine stepY (y_cmpF rfl rfl rfl (by omega)) rfl ?_ | refine stepE (e_alloc rfl rfl rfl) ?_ | refine stepE (e_store rfl rfl rfl rfl rfl rfl rfl) ?_)
          refine draw_ [(0, true), (1, false), (2, false), (3, true), (4, true), (5, false), (6, true)] 1000 [7] mixed (by kernel_rfl) rfl ?_
          ((refine dY rfl (y_loadA rfl rfl rfl) rfl rfl rfl rfl ?_))
          refine dC rfl Try.func40 rfl rfl (hf) rfl (by repeat (first | exact .refl _ | apply Les.cons | exact .nil)) rfl rfl ?_
          skip
          refine dC rfl Try.func11 rfl rfl (hN) rfl (by repeat (first | exact .refl _ | exact .tag _ _ | apply Le.ag | apply Les.cons | exact .nil)) rfl rfl ?_
          ((refine dY rfl (y_extract rfl rfl) rfl rfl rfl rfl ?_); refine dY rfl (y_extract rfl rfl) rfl rfl rfl rfl ?_; (refine dE rfl (e_store rfl rfl rfl rfl rfl rfl rfl) rfl rfl ?_); refine dY rfl (y_assign rfl) rfl rfl rfl rfl ?_; refine dEnd ?_)
          repeat (refine ret_ ?_)
          ((apply fin_r); (repeat (first | exact .nil | exact .tmp rfl | exact .agg rfl rfl rfl | apply ResL.cons)); (repeat (exact .refl _)))
end Go.Av

set_option maxHeartbeats 8000000
set_option exponentiation.threshold 100000
set_option maxRecDepth 100000
set_option linter.unusedVariables false
set_option linter.unusedSimpArgs false
namespace Go.Av
open Go Go.Proofs
/-! the chapter's examples hold -/
theorem exPar1 : parF ⟨#[49, 47, 45, 50]⟩ = .tp [ZF, E_ 9] := by
  unfold parF
  rw [show PR (topS ⟨#[49, 47, 45, 50]⟩) = some (some (false, 1)) by decide +kernel]
  dsimp only
  rw [if_pos (by decide +kernel), if_pos (by decide +kernel)]
theorem exPar2 : parF ⟨#[54, 47, 52]⟩ = .tp [FQ (Q_ 3 2), E_ 0] := by
  unfold parF
  rw [show PR (topS ⟨#[54, 47, 52]⟩) = some (some (false, 6)) by decide +kernel]
  dsimp only
  rw [if_pos (by decide +kernel), if_neg (by decide +kernel), show PR (botS ⟨#[54, 47, 52]⟩) = some (some (false, 4)) by decide +kernel]
  dsimp only
  unfold ofR
  rw [if_neg (by decide +kernel), show Rat.divInt (sgn false 6) (sgn false 4) = Q_ 3 2 by decide +kernel, resQ_ok (by decide +kernel)]
theorem exampleHolds_c : Con Try.prog 10 [] (Bo true) := by
  refine con_of Try.func10 rfl rfl rfl rfl rfl ?_
  have a1 := of_c 1 6 (by omega) (by omega) (by omega)
  have a2 := of_c 1 3 (by omega) (by omega) (by omega)
  have a3 := of_c 2 3 (by omega) (by omega) (by omega)
  have a4 := of_c 3 4 (by omega) (by omega) (by omega)
  have a5 := of_c 1 2 (by omega) (by omega) (by omega)
  have a6 := of_c (-3) 4 (by omega) (by omega) (by omega)
  have a7 := of_c 31 10 (by omega) (by omega) (by omega)
  have a8 := of_c 16 5 (by omega) (by omega) (by omega)
  have a9 := of_c 6 (-4) (by omega) (by omega) (by omega)
  have ok : ∀ n d : Int, (-100 ≤ n ∧ n ≤ 100) → (-100 ≤ d ∧ d ≤ 100) → d ≠ 0 → okQ (Q_ n d) := fun n d h1 h2 h3 => okQ_div n d (by omega) (by omega) h3
  have b1 := FAdd_q (Q_ 1 6) (Q_ 1 3) (ok _ _ (by omega) (by omega) (by omega)) (ok _ _ (by omega) (by omega) (by omega))
  rw [show Q_ 1 6 + Q_ 1 3 = Q_ 1 2 by decide +kernel, resQ_ok (ok _ _ (by omega) (by omega) (by omega))] at b1
  have b2 := FMul_q (Q_ 2 3) (Q_ 3 4) (ok _ _ (by omega) (by omega) (by omega)) (ok _ _ (by omega) (by omega) (by omega))
  rw [show Q_ 2 3 * Q_ 3 4 = Q_ 1 2 by decide +kernel, resQ_ok (ok _ _ (by omega) (by omega) (by omega))] at b2
  have b3 := FDiv_q (Q_ 1 2) (Q_ (-3) 4) (ok _ _ (by omega) (by omega) (by omega)) (ok _ _ (by omega) (by omega) (by omega)) (by decide +kernel)
  rw [show Q_ 1 2 / Q_ (-3) 4 = Q_ (-2) 3 by decide +kernel, resQ_ok (ok _ _ (by omega) (by omega) (by omega))] at b3
  have b4 := Simplest_q (Q_ 31 10) (Q_ 16 5) (ok _ _ (by omega) (by omega) (by omega)) (ok _ _ (by omega) (by omega) (by omega)) (by decide +kernel)
  rw [show smp (Q_ 31 10) (Q_ 16 5) = Q_ 16 5 by decide +kernel] at b4
  have i1 := is_c 1 2 (by omega) (by omega) (by omega)
  have i2 := is_c (-2) 3 (by omega) (by omega) (by omega)
  have i3 := is_c 16 5 (by omega) (by omega) (by omega)
  have i4 := is_c 3 2 (by omega) (by omega) (by omega)
  have z := Of_c 1 0 (by omega) (by omega)
  unfold ofR at z
  rw [if_pos rfl] at z
  have p1 := FParse_c ⟨#[49, 47, 45, 50]⟩ (by decide)
  rw [exPar1] at p1
  have p2 := FParse_c ⟨#[54, 47, 52]⟩ (by decide)
  rw [exPar2] at p2
  have c1 := FCmp_q (Q_ 1 3) (Q_ 1 2) (ok _ _ (by omega) (by omega) (by omega)) (ok _ _ (by omega) (by omega) (by omega))
  rw [show qcmp (Q_ 1 3) (Q_ 1 2) = -1 by decide +kernel] at c1
  have f1 := FFormat_g _ _ _ (vG_q (ok (-3) 4 (by omega) (by omega) (by omega)))
  rw [show fmtQ (decide ((Q_ (-3) 4).num < 0)) (Q_ (-3) 4).num.natAbs (Q_ (-3) 4).den = ⟨#[45, 51, 47, 52]⟩ by decide +kernel] at f1
  have v1 := FValid_c (decide ((Q_ 6 (-4)).num < 0)) (limbs (Q_ 6 (-4)).num.natAbs) false (limbs (Q_ 6 (-4)).den) (wf_limbs _) (wf_limbs _)
  rw [vldF_t (ok 6 (-4) (by omega) (by omega) (by omega))] at v1
  repeat (first | refine seq_ ?_ | refine region_ ?_ | refine nil_ ?_ | refine stepY (y_assign rfl) rfl ?_)
  refine call_ Try.func29 rfl rfl (a1) rfl (by repeat (first | exact .refl _ | apply Les.cons | exact .nil)) rfl ?_
  skip
  refine call_ Try.func29 rfl rfl (a2) rfl (by repeat (first | exact .refl _ | apply Les.cons | exact .nil)) rfl ?_
  skip
  refine call_ Try.func23 rfl rfl (b1) rfl (by repeat (first | exact .refl _ | exact .tag _ _ | apply Le.ag | apply Les.cons | exact .nil)) rfl ?_
  repeat (first | refine seq_ ?_ | refine region_ ?_ | refine nil_ ?_ | refine stepY (y_move rfl) rfl ?_ | refine stepY (y_assign rfl) rfl ?_ | refine stepY (y_extract rfl rfl) rfl ?_ | refine stepE (e_alloc rfl rfl rfl) ?_ | refine stepE (e_store rfl rfl rfl rfl rfl rfl rfl) ?_)
  refine call_ Try.func29 rfl rfl (a3) rfl (by repeat (first | exact .refl _ | apply Les.cons | exact .nil)) rfl ?_
  skip
  refine call_ Try.func29 rfl rfl (a4) rfl (by repeat (first | exact .refl _ | apply Les.cons | exact .nil)) rfl ?_
  skip
  refine call_ Try.func19 rfl rfl (b2) rfl (by repeat (first | exact .refl _ | exact .tag _ _ | apply Le.ag | apply Les.cons | exact .nil)) rfl ?_
  repeat (first | refine seq_ ?_ | refine region_ ?_ | refine nil_ ?_ | refine stepY (y_move rfl) rfl ?_ | refine stepY (y_assign rfl) rfl ?_ | refine stepY (y_extract rfl rfl) rfl ?_ | refine stepE (e_alloc rfl rfl rfl) ?_ | refine stepE (e_store rfl rfl rfl rfl rfl rfl rfl) ?_)
  refine call_ Try.func29 rfl rfl (a5) rfl (by repeat (first | exact .refl _ | apply Les.cons | exact .nil)) rfl ?_
  skip
  refine call_ Try.func29 rfl rfl (a6) rfl (by repeat (first | exact .refl _ | apply Les.cons | exact .nil)) rfl ?_
  skip
  refine call_ Try.func25 rfl rfl (b3) rfl (by repeat (first | exact .refl _ | exact .tag _ _ | apply Le.ag | apply Les.cons | exact .nil)) rfl ?_
  repeat (first | refine seq_ ?_ | refine region_ ?_ | refine nil_ ?_ | refine stepY (y_move rfl) rfl ?_ | refine stepY (y_assign rfl) rfl ?_ | refine stepY (y_extract rfl rfl) rfl ?_ | refine stepE (e_alloc rfl rfl rfl) ?_ | refine stepE (e_store rfl rfl rfl rfl rfl rfl rfl) ?_)
  refine call_ Try.func29 rfl rfl (a7) rfl (by repeat (first | exact .refl _ | apply Les.cons | exact .nil)) rfl ?_
  skip
  refine call_ Try.func29 rfl rfl (a8) rfl (by repeat (first | exact .refl _ | apply Les.cons | exact .nil)) rfl ?_
  skip
  refine call_ Try.func27 rfl rfl (b4) rfl (by repeat (first | exact .refl _ | exact .tag _ _ | apply Le.ag | apply Les.cons | exact .nil)) rfl ?_
  repeat (first | refine seq_ ?_ | refine region_ ?_ | refine nil_ ?_ | refine stepY (y_move rfl) rfl ?_ | refine stepY (y_assign rfl) rfl ?_ | refine stepY (y_loadA rfl rfl rfl) rfl ?_ | refine stepY (y_extract rfl rfl) rfl ?_ | refine stepE (e_alloc rfl rfl rfl) ?_ | refine stepE (e_store rfl rfl rfl rfl rfl rfl rfl) ?_)
  refine call_ Try.func32 rfl rfl (i1) rfl (by repeat (first | exact .refl _ | exact .tag _ _ | apply Le.ag | apply Les.cons | exact .nil)) rfl ?_
  repeat (first | refine guard_t rfl rfl rfl ?_ | refine stepY (y_move rfl) rfl ?_ | refine stepY (y_loadA rfl rfl rfl) rfl ?_ | refine stepY (y_not rfl) rfl ?_)
  refine call_ Try.func32 rfl rfl (i1) rfl (by repeat (first | exact .refl _ | exact .tag _ _ | apply Le.ag | apply Les.cons | exact .nil)) rfl ?_
  repeat (first | refine guard_t rfl rfl rfl ?_ | refine stepY (y_move rfl) rfl ?_ | refine stepY (y_loadA rfl rfl rfl) rfl ?_ | refine stepY (y_not rfl) rfl ?_ | refine stepY (y_pick_f rfl rfl) rfl ?_)
  refine call_ Try.func32 rfl rfl (i2) rfl (by repeat (first | exact .refl _ | exact .tag _ _ | apply Le.ag | apply Les.cons | exact .nil)) rfl ?_
  repeat (first | refine guard_t rfl rfl rfl ?_ | refine stepY (y_move rfl) rfl ?_ | refine stepY (y_loadA rfl rfl rfl) rfl ?_ | refine stepY (y_not rfl) rfl ?_ | refine stepY (y_pick_f rfl rfl) rfl ?_)
  refine call_ Try.func32 rfl rfl (i3) rfl (by repeat (first | exact .refl _ | exact .tag _ _ | apply Le.ag | apply Les.cons | exact .nil)) rfl ?_
  repeat (first | refine seq_ ?_ | refine region_ ?_ | refine nil_ ?_ | refine skip_ ?_ | refine cond_f rfl ?_ | refine guard_t rfl rfl rfl ?_ | refine stepY (y_not rfl) rfl ?_ | refine stepY (y_pick_f rfl rfl) rfl ?_)
  refine call_ Try.func13 rfl rfl (z) rfl (by repeat (first | exact .refl _ | apply Les.cons | exact .nil)) rfl ?_
  repeat (first | refine seq_ ?_ | refine region_ ?_ | refine nil_ ?_ | refine stepY (y_move rfl) rfl ?_ | refine stepY (y_assign rfl) rfl ?_ | refine stepY (y_extract rfl rfl) rfl ?_ | refine stepE (e_alloc rfl rfl rfl) ?_ | refine stepE (e_store rfl rfl rfl rfl rfl rfl rfl) ?_)
  refine call_ Try.func33 rfl rfl (p1) rfl (by repeat (first | exact .refl _ | apply Les.cons | exact .nil)) rfl ?_
  repeat (first | refine seq_ ?_ | refine region_ ?_ | refine nil_ ?_ | refine stepY (y_move rfl) rfl ?_ | refine stepY (y_assign rfl) rfl ?_ | refine stepY (y_extract rfl rfl) rfl ?_ | refine stepE (e_alloc rfl rfl rfl) ?_ | refine stepE (e_store rfl rfl rfl rfl rfl rfl rfl) ?_)
  refine call_ Try.func33 rfl rfl (p2) rfl (by repeat (first | exact .refl _ | apply Les.cons | exact .nil)) rfl ?_
  repeat (first | refine seq_ ?_ | refine region_ ?_ | refine nil_ ?_ | refine stepY (y_move rfl) rfl ?_ | refine stepY (y_assign rfl) rfl ?_ | refine stepY (y_extract rfl rfl) rfl ?_ | refine stepE (e_alloc rfl rfl rfl) ?_ | refine stepE (e_store rfl rfl rfl rfl rfl rfl rfl) ?_)
  refine call_ Try.func29 rfl rfl (a2) rfl (by repeat (first | exact .refl _ | apply Les.cons | exact .nil)) rfl ?_
  skip
  refine call_ Try.func29 rfl rfl (a5) rfl (by repeat (first | exact .refl _ | apply Les.cons | exact .nil)) rfl ?_
  skip
  refine call_ Try.func20 rfl rfl (c1) rfl (by repeat (first | exact .refl _ | exact .tag _ _ | apply Le.ag | apply Les.cons | exact .nil)) rfl ?_
  repeat (first | refine seq_ ?_ | refine region_ ?_ | refine nil_ ?_ | refine guard_t rfl rfl rfl ?_ | refine stepY (y_move rfl) rfl ?_ | refine stepY (y_assign rfl) rfl ?_ | refine stepY (y_loadA rfl rfl rfl) rfl ?_ | refine stepY (y_extract rfl rfl) rfl ?_ | refine stepY (y_pick_t rfl rfl) rfl ?_ | refine stepY (y_cmpT rfl rfl rfl (by omega)) rfl ?_)
  refine call_ Try.func32 rfl rfl (i4) rfl (by repeat (first | exact .refl _ | exact .tag _ _ | apply Le.ag | apply Les.cons | exact .nil)) rfl ?_
  repeat (first | refine guard_t rfl rfl rfl ?_ | refine stepY (y_move rfl) rfl ?_ | refine stepY (y_pick_t rfl rfl) rfl ?_ | refine stepY (y_cmpT rfl rfl rfl (by omega)) rfl ?_)
  refine call_ Try.func29 rfl rfl (a6) rfl (by repeat (first | exact .refl _ | apply Les.cons | exact .nil)) rfl ?_
  repeat (refine guard_t rfl rfl rfl ?_)
  refine call_ Try.func34 rfl rfl (f1) rfl (by repeat (first | exact .refl _ | exact .tag _ _ | apply Le.ag | apply Les.cons | exact .nil)) rfl ?_
  repeat (first | refine guard_t rfl rfl rfl ?_ | refine stepY (y_move rfl) rfl ?_ | refine stepY (y_pick_t rfl rfl) rfl ?_ | refine stepY (y_eqs rfl rfl) rfl ?_)
  refine call_ Try.func29 rfl rfl (a9) rfl (by repeat (first | exact .refl _ | apply Les.cons | exact .nil)) rfl ?_
  repeat (refine guard_t rfl rfl rfl ?_)
  refine call_ Try.func15 rfl rfl (v1) rfl (by repeat (first | exact .refl _ | exact .tag _ _ | apply Le.ag | apply Les.cons | exact .nil)) rfl ?_
  repeat (first | refine nil_ ?_ | refine ret_ ?_ | refine stepY (y_assign rfl) rfl ?_ | refine stepY (y_pick_t rfl rfl) rfl ?_)
  ((apply fin_r); (repeat (first | exact .nil | exact .tmp rfl | apply ResL.cons)); (repeat (exact .refl _)))
end Go.Av

set_option maxHeartbeats 8000000
set_option exponentiation.threshold 100000
set_option maxRecDepth 100000
set_option linter.unusedVariables false
set_option linter.unusedSimpArgs false
namespace Go.Av
open Go Go.Proofs
/-! Answers of the package and of the reference side by side. -/
abbrev AnsF (p : Bool) (m d : Nat) (e : Int) : PV := .tp [.ag [Bo p, FM m, Bo false, FM d], E_ e]
abbrev AnsM (p : Bool) (m d : Nat) (e : Int) : PV := .tp [GF p m d, E_ e]
theorem res_ex (x : Rat) : ∃ p m d e, resQ x = AnsF p m d e ∧ resM x = AnsM p m d e := by
  by_cases h : okQ x
  · exact ⟨_, _, _, _, resQ_ok h, resM_ok h⟩
  · exact ⟨_, _, _, _, resQ_no h, resM_no h⟩
/-- What Pair says: two functions of the same arguments answer alike. -/
def Pair (f g : Nat) (args : List PV) : Prop := ∃ p m d e, Con Try.prog f args (AnsF p m d e) ∧ Con Try.prog g args (AnsM p m d e)
theorem Pair.res {f g : Nat} {args : List PV} (x : Rat) (h1 : Con Try.prog f args (resQ x)) (h2 : Con Try.prog g args (resM x)) : Pair f g args := by
  obtain ⟨p, m, d, e, e1, e2⟩ := res_ex x
  rw [e1] at h1
  rw [e2] at h2
  exact ⟨p, m, d, e, h1, h2⟩
theorem Pair.err {f g : Nat} {args : List PV} (e : Int) (h1 : Con Try.prog f args (.tp [ZF, E_ e])) (h2 : Con Try.prog g args (.tp [ZM, E_ e])) : Pair f g args := ⟨_, _, _, _, h1, h2⟩
theorem norm' {p : Bool} {l : List Int} (hl : wf l) (h : vldB p l = true) : ∃ m, l = limbs m ∧ vldB p (limbs m) = true := by
  have e := vld_limbs hl h
  exact ⟨val l, e, by rw [← e]; exact h⟩
theorem New_pair (p q : Bool) (l k : List Int) (hl : wf l) (hk : wf k) : Pair 11 12 [AV p l, AV q k] := by
  cases hv : vldB p l && vldB q k with
  | false => exact .err 1 (New_e p q l k hv) (RNew_e p q l k hv)
  | true =>
    rw [Bool.and_eq_true] at hv
    obtain ⟨m, rfl, hm⟩ := norm' hl hv.1
    obtain ⟨n, rfl, hn⟩ := norm' hk hv.2
    rcases Nat.eq_zero_or_pos n with h0 | h0
    · subst h0
      exact .err 12 (New_z p q (limbs m) hm hn) (RNew_z p q (limbs m) hm hn)
    · exact .res _ (New_s p q m n hm hn h0) (RNew_s p q m n hm hn h0)
theorem Of_pair (n d : Int) (hn : -9223372036854775808 ≤ n ∧ n ≤ 9223372036854775807) (hd : -9223372036854775808 ≤ d ∧ d ≤ 9223372036854775807) : Pair 13 14 [I n, I d] := by
  have h1 := Of_c n d hn hd
  have h2 := ROf_c n d hn hd
  unfold ofR at h1
  unfold ofM at h2
  by_cases h : d = 0
  · rw [if_pos h] at h1 h2
    exact .err 12 h1 h2
  · rw [if_neg h] at h1 h2
    exact .res _ h1 h2
end Go.Av

set_option maxRecDepth 100000
set_option linter.unusedVariables false
set_option linter.unusedSimpArgs false
/-! What a row says of an argument, as an abstract value. -/
namespace Go.Av
open Go Go.Proofs Go.ChangeShapes Go.WideShapes Go.ChangeAt Go.RowKit Go.Joins
section
variable {H : Type} {enc : TypeId × Value → H} {W : World} {base : Nat}
def Wide (k : IntKind) (l : List Int) : Prop := ∀ n ∈ l, (Lit.int k n).wf = true
theorem ints_rel {P : Program} {t e : TypeId} {k : IntKind} {v : Value} {fuel : Nat} {x : DataW H × List MemPlace} (ht : P.underlying t = some (.slice e)) (he : P.underlying e = some (.int k)) (hc : P.cellsOf e = 1) (hB : 0 < P.bytesOf e)
    (h : DataW.trod enc P W 0 (fun _ => true) true fuel t [v] = some x) (hb : ∀ n ∈ x.1.weights P t, n ≤ reachBytes) : ∃ l, Wide k l ∧ Rel W (fun _ b => b < W.heap.size ∧ True) (.si false k l) v := by
  rcases open_ints ht he hc h with ⟨hcs, hx⟩ | ⟨a, len, cap, zs, hcs, _, hl, hm, hz, hx, hcell, hw⟩
  · simp at hcs
    subst hcs
    refine ⟨[], by simp [Wide], ?_⟩
    simp only [Rel]
    exact ⟨none, 0, rfl, by simp, by simp [maxLen], by simp [lim], fun h => by simp at h⟩
  · simp at hcs
    subst hcs
    simp only [if_true] at hz
    have hlen : (zs.take len).length = len := by rw [List.length_take]; omega
    refine ⟨zs.take len, fun n hn => hw n (List.mem_of_mem_take hn), ?_⟩
    have hwt : cap * P.bytesOf e ≤ reachBytes := by
      refine hb _ ?_
      rw [hx]
      simp only [DataW.weights, ht, lits, List.length_map, List.length_take, List.length_drop, List.mem_cons]
      refine .inl ?_
      congr 1
      omega
    have hcap : cap ≤ reachBytes := Nat.le_trans (Nat.le_mul_of_pos_right _ hB) hwt
    have hrb : reachBytes = 140737488351232 := rfl
    simp only [Rel]
    refine ⟨some a, cap, by rw [hlen], by omega, hm, by simp only [lim]; omega, fun h0 => ?_⟩
    have hz0 : 0 < zs.length := by omega
    have h00 := hcell 0 hz0
    obtain ⟨b, o, s⟩ := a
    have hs : s = none := by
      cases s with
      | none => rfl
      | some q =>
        exfalso
        simp only [Addr.add, if_true, World.cell?] at h00
        split at h00 <;> simp at h00
    subst hs
    refine ⟨b, o, rfl, ⟨block_lt_of_cell (a := ⟨b, o, none⟩) (by simpa [Addr.add] using h00), trivial⟩, fun j u hj => ?_⟩
    have hj1 : j < (zs.take len).length := (List.getElem?_eq_some_iff.1 hj).1
    have hj2 : zs[j]? = some u := by rwa [List.getElem?_take_of_lt (by omega)] at hj
    have := hcell j (by omega)
    rw [Addr.add_lit] at this
    rw [this]
    simp [List.getD, hj2]
theorem wide_wf {l : List Int} (h : Wide .u32 l) : wf l := by
  intro x hx
  have := h x hx
  simp only [Lit.wf, Bool.and_eq_true, decide_eq_true_eq] at this
  have e1 : IntKind.min .u32 = 0 := rfl
  have e2 : IntKind.max .u32 = 4294967295 := rfl
  rw [e1, e2] at this
  omega
/-- An integer of the suite, as an argument: any sign, any limbs. -/
theorem arg_iv {v : Value} {d : DataW H} {p : List MemPlace} {ts : List TypeId} {ds : List (DataW H)} {j : Nat} (hsz : (DataW.weightsEach Try.prog ts ds).all (· ≤ reachBytes) = true) (ht : ts[j]? = some 24) (hd : ds[j]? = some d)
    (hval : Value.okWide Try.prog W .any base 24 v) (h : DataW.Trod enc Try.prog W 0 (fun _ => true) true 24 v d p) : ∃ q l, wf l ∧ Rel W (fun _ b => b < W.heap.size ∧ True) (AV q l) v := by
  obtain ⟨v0, v1, y0, y1, n, rfl, rfl, rfl, h0, h1⟩ := open_agg2 Try.underlying24 (by kernel_rfl) (by kernel_rfl) hval h
  obtain ⟨b, hb0, rfl⟩ := DataW.trod_bool Try.underlying4 h0
  have hall : ∀ m ∈ y1.1.weights Try.prog 22, m ≤ reachBytes := fun m hm => by
    have := List.all_eq_true.1 hsz m (DataW.weights_mem_each ht hd m (by simp [DataW.weights, DataW.weightsEach, Try.underlying24, hm]))
    simpa using this
  obtain ⟨l, hl, hr⟩ := ints_rel Try.underlying22 Try.underlying44 (by kernel_rfl) (by decide +kernel) h1 hall
  simp at hb0
  subst hb0
  refine ⟨b, l, wide_wf hl, ?_⟩
  simp only [Rel, Rels] at hr ⊢
  exact ⟨[.bool b, v1], rfl, _, _, rfl, rfl, _, _, rfl, hr, rfl⟩
theorem min_lo (k : IntKind) : k.min = loK k ∧ k.max = hiK k := by cases k <;> exact ⟨rfl, rfl⟩
theorem arg_num {P : Program} {t : TypeId} {k : IntKind} {v : Value} {d : DataW H} {p : List MemPlace} (hu : P.underlying t = some (.int k)) (hval : Value.okWide P W .any base t v) (h : DataW.Trod enc P W 0 (fun _ => true) true t v d p) :
    ∃ n, (loK k ≤ n ∧ n ≤ hiK k) ∧ Rel W (fun _ b => b < W.heap.size ∧ True) (.v (.int k n)) v := by
  obtain ⟨n, rfl, _, _, hw⟩ := open_int hu hval h
  simp only [Lit.wf, Bool.and_eq_true, decide_eq_true_eq] at hw
  rw [(min_lo k).1, (min_lo k).2] at hw
  exact ⟨n, hw, by simp only [Rel]⟩
theorem arg_str {v : Value} {d : DataW H} {p : List MemPlace} (hval : Value.okWide Try.prog W .any base 9 v) (h : DataW.Trod enc Try.prog W 0 (fun _ => true) true 9 v d p) :
    ∃ s, Rel W (fun _ b => b < W.heap.size ∧ True) (.v (.string s)) v := by
  obtain ⟨s, rfl, _⟩ := Go.ChangeMaps.open_string Try.underlying9 hval h
  exact ⟨s, by simp only [Rel]⟩
theorem arg_ints {v : Value} {d : DataW H} {p : List MemPlace} {ts : List TypeId} {ds : List (DataW H)} {j : Nat} (hsz : (DataW.weightsEach Try.prog ts ds).all (· ≤ reachBytes) = true) (ht : ts[j]? = some 103) (hd : ds[j]? = some d)
    (hval : Value.okWide Try.prog W .any base 103 v) (h : DataW.Trod enc Try.prog W 0 (fun _ => true) true 103 v d p) : ∃ l, Wide .i64 l ∧ Rel W (fun _ b => b < W.heap.size ∧ True) (.si false .i64 l) v := by
  obtain ⟨fuel, hf⟩ := h
  obtain ⟨a0, len0, cap0, rfl⟩ := okWide_slice Try.underlying103 hval
  have hall : ∀ m ∈ d.weights Try.prog 103, m ≤ reachBytes := fun m hm => by
    have := List.all_eq_true.1 hsz m (DataW.weights_mem_each ht hd m hm)
    simpa using this
  exact ints_rel Try.underlying103 Try.underlying3 (by kernel_rfl) (by decide +kernel) (by simpa [Value.cells] using hf) hall
end
end Go.Av

set_option maxRecDepth 100000
set_option linter.unusedVariables false
set_option linter.unusedSimpArgs false
/-! A fraction as an argument of a row. -/
namespace Go.Av
open Go Go.Proofs Go.ChangeShapes Go.WideShapes Go.ChangeAt Go.RowKit Go.Joins
section
variable {H : Type} {enc : TypeId × Value → H} {W : World} {base : Nat}
theorem arr4 (T : Array Value) (h : T.size = 4) : ∃ a b c d : Value, T = #[a, b, c, d] := by
  obtain ⟨l⟩ := T
  simp only [List.size_toArray] at h
  match l, h with
  | [a, b, c, d], _ => exact ⟨a, b, c, d, rfl⟩
theorem arg_fr {v : Value} {d : DataW H} {p : List MemPlace} {ts : List TypeId} {ds : List (DataW H)} {j : Nat} (hsz : (DataW.weightsEach Try.prog ts ds).all (· ≤ reachBytes) = true) (ht : ts[j]? = some 26) (hd : ds[j]? = some d)
    (hval : Value.okWide Try.prog W .any base 26 v) (h : DataW.Trod enc Try.prog W 0 (fun _ => true) true 26 v d p) : ∃ q l r k, wf l ∧ wf k ∧ Rel W (fun _ b => b < W.heap.size ∧ True) (AF q l r k) v := by
  obtain ⟨cs, rfl, h4⟩ := okWide_struct Try.underlying26 hval
  have hc4 : Try.prog.cellsOf 26 = 4 := by kernel_rfl
  have hc2 : Try.prog.cellsOf 24 = 2 := by kernel_rfl
  have hb1 : Try.prog.cellsOf 4 = 1 := by kernel_rfl
  have hs1 : Try.prog.cellsOf 22 = 1 := by kernel_rfl
  obtain ⟨c0, c1, c2, c3, rfl⟩ := arr4 cs (h4.trans hc4)
  obtain ⟨fuel, hf⟩ := h
  obtain ⟨y0, y1, n, hx, _, h0, h1⟩ := trod_struct2 Try.underlying26 hf
  simp only [Prod.mk.injEq] at hx
  obtain ⟨rfl, rfl⟩ := hx
  obtain ⟨a0, a1, n0, hx0, _, h00, h01⟩ := trod_struct2 Try.underlying24 h0
  obtain ⟨b0, b1, n1, hx1, _, h10, h11⟩ := trod_struct2 Try.underlying24 h1
  simp only [hb1, hs1, hc2, Value.cells, List.drop_zero, List.take_succ_cons, List.take_zero, List.drop_succ_cons] at h00 h01 h10 h11
  obtain ⟨q, hq, rfl⟩ := DataW.trod_bool Try.underlying4 h00
  obtain ⟨r, hr, rfl⟩ := DataW.trod_bool Try.underlying4 h10
  have e0 : y0.1 = .agg [.lit (.bool q), a1.1] := by rw [hx0]
  have e1 : y1.1 = .agg [.lit (.bool r), b1.1] := by rw [hx1]
  rw [e0, e1] at hd
  have hall1 : ∀ m ∈ a1.1.weights Try.prog 22, m ≤ reachBytes := fun m hm => by
    have := List.all_eq_true.1 hsz m (DataW.weights_mem_each ht hd m (by simp [DataW.weights, DataW.weightsEach, Try.underlying26, Try.underlying24, hm]))
    simpa using this
  have hall2 : ∀ m ∈ b1.1.weights Try.prog 22, m ≤ reachBytes := fun m hm => by
    have := List.all_eq_true.1 hsz m (DataW.weights_mem_each ht hd m (by simp [DataW.weights, DataW.weightsEach, Try.underlying26, Try.underlying24, hm]))
    simpa using this
  obtain ⟨l, hl, hrl⟩ := ints_rel Try.underlying22 Try.underlying44 (by kernel_rfl) (by decide +kernel) h01 hall1
  obtain ⟨k, hk, hrk⟩ := ints_rel Try.underlying22 Try.underlying44 (by kernel_rfl) (by decide +kernel) h11 hall2
  simp at hq hr
  subst hq hr
  refine ⟨q, l, r, k, wide_wf hl, wide_wf hk, ?_⟩
  simp only [Rel, Rels] at hrl hrk ⊢
  exact ⟨[.bool q, c1, .bool r, c3], rfl, _, _, rfl, rfl, _, _, rfl, hrl, _, _, rfl, rfl, _, _, rfl, hrk, rfl⟩
end
end Go.Av

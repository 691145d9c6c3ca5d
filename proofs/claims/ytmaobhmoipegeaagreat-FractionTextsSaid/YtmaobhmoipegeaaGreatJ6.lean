/- Contracts of functions that the laws on fractions reach, and the plain arithmetic behind them: no conditions beyond those in each statement. -/
import Derived.Test.YtmaobhmoipegeaaGreatJ5
import Derived.KernelRfl
import Derived.Test.YtmaobhmoipegeaaGreatJ3
import Derived.Test.YtmaobhmoipegeaaGreatJ1
import Derived.Test.YtmaobhmoipegeaaGreatRows
import Derived.WalkKit
import Derived.ProofKit
import Derived.OpenShut
import Derived.ShutString
import Derived.ChangeOld
import Derived.Below
import Derived.SizedLaws
import Derived.Lib.SmallJoins
import Derived.Carry
import Derived.Test.YtmaobhmoipegeaaGreatJ2
set_option maxHeartbeats 8000000
set_option exponentiation.threshold 100000
set_option maxRecDepth 100000
set_option linter.unusedVariables false
set_option linter.unusedSimpArgs false
namespace Go.Av
open Go Go.Proofs
/-! fractions: texts -/
def cutAt (s : ByteArray) : Nat := ((List.range s.size).find? fun i => s[i]! == 47).getD s.size
theorem cut_le (s : ByteArray) : cutAt s ≤ s.size := by
  unfold cutAt
  cases h : (List.range s.size).find? fun i => s[i]! == 47 with
  | none => simp
  | some i => have := List.mem_of_find?_eq_some h; simp at this ⊢; omega
theorem bt_bang {s : ByteArray} {i : Nat} (h : i < s.size) : bt s (i : Int) = (s[i]!.toNat : Int) := by
  unfold bt
  rw [dif_pos (by simpa using h), getElem!_pos s i h]
  simp
theorem u8_47 (x : UInt8) : (x == 47) = decide ((x.toNat : Int) = 47) := by
  by_cases h : x = 47
  · subst h; rfl
  · rw [beq_eq_false_iff_ne.2 h, decide_eq_false]
    intro h2
    exact h (UInt8.toNat_inj.1 (by have : x.toNat = 47 := by omega
                                   rw [this]; rfl))
theorem cut_first (s : ByteArray) : firstIdx s 47 = if cutAt s < s.size then (cutAt s : Int) else -1 := by
  unfold firstIdx cutAt
  cases h : (List.range s.size).find? fun i => s[i]! == 47 with
  | none => simp
  | some i => have := List.mem_of_find?_eq_some h; simp at this ⊢; omega
theorem cut_at {s : ByteArray} (h : cutAt s < s.size) : bt s (cutAt s) = 47 := by
  unfold cutAt at *
  cases h1 : (List.range s.size).find? fun i => s[i]! == 47 with
  | none => rw [h1] at h; simp at h
  | some i =>
    rw [h1] at h
    have := List.find?_some h1
    simp only [Option.getD_some] at h ⊢
    rw [u8_47, decide_eq_true_eq] at this
    rw [bt_bang h, this]
theorem cut_lo {s : ByteArray} {j : Nat} (h : j < cutAt s) : bt s j ≠ 47 := by
  have hj := Nat.lt_of_lt_of_le h (cut_le s)
  have hn : ¬ (s[j]! == 47) = true := by
    unfold cutAt at h
    cases h1 : (List.range s.size).find? fun i => s[i]! == 47 with
    | none =>
      have := List.find?_eq_none.1 h1 j (by simpa using hj)
      simpa using this
    | some i =>
      rw [h1] at h
      simp only [Option.getD_some] at h
      have := (List.find?_range_eq_some.1 h1).2.2 j h
      simpa using this
  rw [u8_47, decide_eq_true_eq] at hn
  rwa [bt_bang hj]
abbrev St (s : ByteArray) : PV := .v (.string s)
def topS (s : ByteArray) : ByteArray := if cutAt s < s.size then s.extract 0 (cutAt s) else s
def botS (s : ByteArray) : ByteArray := if cutAt s < s.size then s.extract (cutAt s + 1) s.size else ⟨#[]⟩
theorem IndexByte_c (s : ByteArray) : Con Tryz.prog 130 [St s, .v (.int .u8 47)] (I (firstIdx s 47)) := by
  refine con_of Tryz.func130 rfl rfl rfl rfl rfl ?_
  repeat (first | refine seq_ ?_ | refine region_ ?_ | refine nil_ ?_ | refine stepY (y_move rfl) rfl ?_ | refine stepY (y_assign rfl) rfl ?_)
  refine stepY (y_ixb Tryz.func134 rfl rfl (by kernel_rfl) (by kernel_rfl) rfl rfl) rfl ?_
  repeat (first | refine nil_ ?_ | refine ret_ ?_ | refine stepY (y_assign rfl) rfl ?_)
  ((apply fin_r); (repeat (first | exact .nil | exact .tmp rfl | apply ResL.cons)); (repeat (exact .refl _)))
theorem Index_c (s : ByteArray) : Con Tryz.prog 124 [St s, St ⟨#[47]⟩] (I (firstIdx s 47)) := by
  refine con_of Tryz.func124 rfl rfl rfl rfl rfl ?_
  have h0 : (ByteArray.mk #[47]).size = 1 := rfl
  have h1 : bt ⟨#[47]⟩ 0 = 47 := rfl
  by_cases h2 : (ByteArray.mk #[47]) = s
  · rw [show firstIdx s 47 = 0 by rw [← h2]; rfl]
    repeat (first | refine seq_ ?_ | refine region_ ?_ | refine nil_ ?_ | refine block_ ?_ | refine guard_t rfl rfl rfl ?_ | refine stepY (y_move rfl) rfl ?_ | refine stepY (y_assign rfl) rfl ?_ | refine stepY (y_len_str rfl) rfl ?_ | refine stepY (y_pick_f rfl rfl) rfl ?_ | (first | refine stepY (y_cmpF rfl rfl rfl (by omega)) rfl ?_ | refine stepY (y_eqs rfl rfl) rfl ?_))
    rw [decide_eq_true h2]
    repeat (first | refine seq_ ?_ | refine region_ ?_ | refine nil_ ?_ | refine ret_ ?_ | refine cond_t rfl ?_ | refine stepY (y_assign rfl) rfl ?_)
    ((apply fin_r); (repeat (first | exact .nil | exact .tmp rfl | apply ResL.cons)); (repeat (exact .refl _)))
  · repeat (first | refine seq_ ?_ | refine region_ ?_ | refine nil_ ?_ | refine block_ ?_ | refine guard_t rfl rfl rfl ?_ | refine stepY (y_move rfl) rfl ?_ | refine stepY (y_assign rfl) rfl ?_ | refine stepY (y_len_str rfl) rfl ?_ | refine stepY (y_pick_f rfl rfl) rfl ?_ | (first | refine stepY (y_cmpF rfl rfl rfl (by omega)) rfl ?_ | refine stepY (y_eqs rfl rfl) rfl ?_))
    rw [decide_eq_false h2]
    repeat (first | refine seq_ ?_ | refine region_ ?_ | refine nil_ ?_ | refine cond_t rfl ?_ | refine cond_f rfl ?_ | refine stepY (y_move rfl) rfl ?_ | refine stepY (y_assign rfl) rfl ?_ | refine stepY (y_index_str rfl rfl (by omega) (by omega)) rfl ?_ | refine stepY (y_cmpT rfl rfl rfl (by omega)) rfl ?_)
    rw [h1]
    refine call_ Tryz.func130 rfl rfl (IndexByte_c s) rfl (by repeat (first | exact .refl _ | apply Les.cons | exact .nil)) rfl ?_
    repeat (first | refine nil_ ?_ | refine ret_ ?_ | refine stepY (y_assign rfl) rfl ?_)
    ((apply fin_r); (repeat (first | exact .nil | exact .tmp rfl | apply ResL.cons)); (repeat (exact .refl _)))
theorem Cut_c (s : ByteArray) (hs : s.size ≤ 1000000000) : Con Tryz.prog 52 [St s, St ⟨#[47]⟩] (.tp [St (topS s), St (botS s), Bo (decide (cutAt s < s.size))]) := by
  have hl := cut_le s
  have hI := Index_c s
  have h0 : (ByteArray.mk #[47]).size = 1 := rfl
  have hc : Con Tryz.prog 94 [St s, St ⟨#[47]⟩] (.tp [St (topS s), St (botS s), Bo (decide (cutAt s < s.size))]) := by
    rw [cut_first] at hI
    by_cases h : cutAt s < s.size
    · rw [if_pos h] at hI
      rw [decide_eq_true h, show topS s = s.extract 0 ((cutAt s : Int)).toNat by unfold topS; rw [if_pos h]; simp, show botS s = s.extract ((cutAt s : Int) + 1).toNat s.size by unfold botS; rw [if_pos h]; congr 1]
      refine con_of Tryz.func94 rfl rfl rfl rfl rfl ?_
      repeat (first | refine seq_ ?_ | refine region_ ?_ | refine nil_ ?_ | refine stepY (y_move rfl) rfl ?_ | refine stepY (y_assign rfl) rfl ?_)
      refine call_ Tryz.func124 rfl rfl (hI) rfl (by repeat (first | exact .refl _ | apply Les.cons | exact .nil)) rfl ?_
      repeat (first | refine seq_ ?_ | refine region_ ?_ | refine nil_ ?_ | refine cond_t rfl ?_ | refine stepY (y_move rfl) rfl ?_ | refine stepY (y_assign rfl) rfl ?_ | refine stepY (y_cmpT rfl rfl rfl (by omega)) rfl ?_)
      refine draw_ [(0, true), (1, true), (2, true), (3, true), (4, true), (5, true), (6, true), (7, true), (8, true), (9, true), (10, true), (11, true)] 1000 [] mixed (by kernel_rfl) rfl ?_
      ((refine dY rfl (y_move rfl) rfl rfl rfl rfl ?_); refine dY rfl (y_move rfl) rfl rfl rfl rfl ?_; refine dY rfl (y_slice_str_h rfl rfl (by omega) (by omega)) rfl rfl rfl rfl ?_; refine dY rfl (y_move rfl) rfl rfl rfl rfl ?_; refine dY rfl (y_move rfl) rfl rfl rfl rfl ?_; refine dY rfl (y_move rfl) rfl rfl rfl rfl ?_; refine dY rfl (y_len_str rfl) rfl rfl rfl rfl ?_; refine dY rfl (y_binn rfl rfl rfl (by simp only [InK, loK, hiK]; omega)) rfl rfl rfl rfl ?_; refine dY rfl (y_slice_str_l rfl rfl (by omega) (by omega)) rfl rfl rfl rfl ?_; refine dY rfl (y_assign rfl) rfl rfl rfl rfl ?_; refine dY rfl (y_assign rfl) rfl rfl rfl rfl ?_; refine dY rfl (y_assign rfl) rfl rfl rfl rfl ?_; refine dEnd ?_)
      repeat (refine ret_ ?_)
      ((apply fin_r); (repeat (first | exact .nil | exact .tmp rfl | apply ResL.cons)); (repeat (exact .refl _)))
    · rw [if_neg h] at hI
      rw [decide_eq_false h, show topS s = s by unfold topS; rw [if_neg h], show botS s = ⟨#[]⟩ by unfold botS; rw [if_neg h]]
      refine con_of Tryz.func94 rfl rfl rfl rfl rfl ?_
      repeat (first | refine seq_ ?_ | refine region_ ?_ | refine nil_ ?_ | refine stepY (y_move rfl) rfl ?_ | refine stepY (y_assign rfl) rfl ?_)
      refine call_ Tryz.func124 rfl rfl (hI) rfl (by repeat (first | exact .refl _ | apply Les.cons | exact .nil)) rfl ?_
      repeat (first | refine seq_ ?_ | refine region_ ?_ | refine nil_ ?_ | refine skip_ ?_ | refine ret_ ?_ | refine cond_f rfl ?_ | refine stepY (y_move rfl) rfl ?_ | refine stepY (y_assign rfl) rfl ?_ | refine stepY (y_cmpF rfl rfl rfl (by omega)) rfl ?_)
      ((apply fin_r); (repeat (first | exact .nil | exact .tmp rfl | apply ResL.cons)); (repeat (exact .refl _)))
  refine con_of Tryz.func52 rfl rfl rfl rfl rfl ?_
  repeat (first | refine seq_ ?_ | refine region_ ?_ | refine nil_ ?_ | refine stepY (y_move rfl) rfl ?_ | refine stepY (y_assign rfl) rfl ?_)
  refine call_ Tryz.func94 rfl rfl (hc) rfl (by repeat (first | exact .refl _ | apply Les.cons | exact .nil)) rfl ?_
  repeat (first | refine nil_ ?_ | refine ret_ ?_ | refine stepY (y_assign rfl) rfl ?_ | refine stepY (y_extract rfl rfl) rfl ?_)
  ((apply fin_r); (repeat (first | exact .nil | exact .tmp rfl | apply ResL.cons)); (repeat (exact .refl _)))
theorem negS_ex (b : ByteArray) (h : 0 < b.size) : (b.extract 0 (1 : Int).toNat = ⟨#[45]⟩) ↔ bt b 0 = 45 := by
  rw [show bt b 0 = (b[0].toNat : Int) by unfold bt; rw [dif_pos (by simpa using h)]; rfl]
  obtain ⟨⟨l⟩⟩ := b
  cases l with
  | nil => simp [ByteArray.size] at h
  | cons x l =>
    constructor
    · intro e
      have := congrArg (fun z => z.data.toList) e
      simp [List.extract_eq_take_drop] at this
      subst this
      rfl
    · intro e
      have e2 : x.toNat = 45 := by
        have : ((ByteArray.mk ⟨x :: l⟩)[0] : UInt8) = x := rfl
        rw [this] at e
        omega
      have e3 : x = 45 := UInt8.toNat_inj.1 (by rw [e2]; rfl)
      subst e3
      apply ByteArray.ext
      apply Array.ext'
      simp [List.extract_eq_take_drop]
theorem HasPrefix_c (b : ByteArray) : Con Tryz.prog 55 [St b, St ⟨#[45]⟩] (Bo (negS b)) := by
  have h0 : (ByteArray.mk #[45]).size = 1 := rfl
  have hc : Con Tryz.prog 98 [St b, St ⟨#[45]⟩] (Bo (negS b)) := by
    refine con_of Tryz.func98 rfl rfl rfl rfl rfl ?_
    by_cases h : 0 < b.size
    · rw [show negS b = decide (b.extract 0 (((ByteArray.mk #[45]).size : Int)).toNat = ⟨#[45]⟩) by unfold negS; rw [decide_eq_true h, Bool.true_and]; exact decide_eq_decide.2 (negS_ex b h).symm]
      repeat (first | refine seq_ ?_ | refine region_ ?_ | refine nil_ ?_ | refine ret_ ?_ | refine guard_t rfl rfl rfl ?_ | refine stepY (y_move rfl) rfl ?_ | refine stepY (y_assign rfl) rfl ?_ | refine stepY (y_len_str rfl) rfl ?_ | refine stepY (y_pick_t rfl rfl) rfl ?_ | refine stepY (y_slice_str_h rfl rfl (by omega) (by omega)) rfl ?_ | refine stepY (y_eqs rfl rfl) rfl ?_ | refine stepY (y_cmpT rfl rfl rfl (by omega)) rfl ?_)
      ((apply fin_r); (repeat (first | exact .nil | exact .tmp rfl | apply ResL.cons)); (repeat (exact .refl _)))
    · rw [show negS b = false by unfold negS; rw [decide_eq_false h, Bool.false_and]]
      repeat (first | refine seq_ ?_ | refine region_ ?_ | refine nil_ ?_ | refine ret_ ?_ | refine guard_f rfl rfl rfl rfl ?_ | refine stepY (y_move rfl) rfl ?_ | refine stepY (y_assign rfl) rfl ?_ | refine stepY (y_len_str rfl) rfl ?_ | refine stepY (y_pick_f rfl rfl) rfl ?_ | refine stepY (y_cmpF rfl rfl rfl (by omega)) rfl ?_)
      ((apply fin_r); (repeat (first | exact .nil | exact .tmp rfl | apply ResL.cons)); (repeat (exact .refl _)))
  refine con_of Tryz.func55 rfl rfl rfl rfl rfl ?_
  repeat (first | refine seq_ ?_ | refine region_ ?_ | refine nil_ ?_ | refine stepY (y_move rfl) rfl ?_ | refine stepY (y_assign rfl) rfl ?_)
  refine call_ Tryz.func98 rfl rfl (hc) rfl (by repeat (first | exact .refl _ | apply Les.cons | exact .nil)) rfl ?_
  repeat (first | refine nil_ ?_ | refine ret_ ?_ | refine stepY (y_assign rfl) rfl ?_)
  ((apply fin_r); (repeat (first | exact .nil | exact .tmp rfl | apply ResL.cons)); (repeat (exact .refl _)))
def PR (s : ByteArray) : Option (Option (Bool × Nat)) := prT (negS s) (tS s)
theorem PR_ln {s : ByteArray} {g : Bool} {m : Nat} (h : PR s = some (some (g, m))) : ln (sgn g m).natAbs ≤ 512 := by
  unfold PR prT at h
  split at h
  · cases h
  · split at h
    · cases h
    · split at h
      · next h1 h2 h3 =>
        injection h with h
        injection h with h
        injection h with _ h
        rw [sgn_abs, ← h]
        exact nm_ln h3 (by omega)
      · cases h
/-- what Parse answers -/
def parF (s : ByteArray) : PV :=
  match PR (topS s) with
  | none => .tp [ZF, E_ 4]
  | some none => .tp [ZF, E_ 9]
  | some (some (g, m)) =>
    if cutAt s < s.size then
      if negS (botS s) = true then .tp [ZF, E_ 9] else
      match PR (botS s) with
      | none => .tp [ZF, E_ 4]
      | some none => .tp [ZF, E_ 9]
      | some (some (g', n)) => ofR (sgn g m) (sgn g' n)
    else ofR (sgn g m) 1
theorem FParse_c (s : ByteArray) (hs : s.size ≤ 1000000000) : Con Tryz.prog 17 [St s] (parF s) := by
  have hcut := Cut_c s hs
  have hp := Parse_c (topS s)
  have hq := Parse_c (botS s)
  have hx := HasPrefix_c (botS s)
  have hf := FromInt_c 1 (by omega)
  unfold parF
  rw [show prT (negS (topS s)) (tS (topS s)) = PR (topS s) from rfl] at hp
  rw [show prT (negS (botS s)) (tS (botS s)) = PR (botS s) from rfl] at hq
  refine con_of Tryz.func17 rfl rfl rfl rfl rfl ?_
  cases h1 : PR (topS s) with
  | none =>
    rw [h1] at hp
    unfold prV at hp
    repeat (first | refine seq_ ?_ | refine region_ ?_ | refine nil_ ?_ | refine stepY (y_move rfl) rfl ?_ | refine stepY (y_assign rfl) rfl ?_ | refine stepE (e_alloc rfl rfl rfl) ?_)
    refine call_ Tryz.func52 rfl rfl (hcut) rfl (by repeat (first | exact .refl _ | apply Les.cons | exact .nil)) rfl ?_
    repeat (first | refine seq_ ?_ | refine region_ ?_ | refine nil_ ?_ | refine stepY (y_move rfl) rfl ?_ | refine stepY (y_assign rfl) rfl ?_ | refine stepY (y_extract rfl rfl) rfl ?_)
    refine call_ Tryz.func53 rfl rfl (hp) rfl (by repeat (first | exact .refl _ | apply Les.cons | exact .nil)) rfl ?_
    repeat (first | refine seq_ ?_ | refine region_ ?_ | refine nil_ ?_ | refine ret_ ?_ | refine cond_t rfl ?_ | refine stepY (y_move rfl) rfl ?_ | refine stepY (y_assign rfl) rfl ?_ | refine stepY (y_extract rfl rfl) rfl ?_ | refine stepY (y_build rfl rfl rfl) rfl ?_ | refine stepY (y_cmpT rfl rfl rfl (by omega)) rfl ?_ | refine stepE (e_alloc rfl rfl rfl) ?_ | refine stepE (e_store rfl rfl rfl rfl rfl rfl rfl) ?_)
    ((apply fin_r); (repeat (first | exact .nil | exact .tmp rfl | exact .agg rfl rfl rfl | apply ResL.cons)); (repeat (first | exact .refl _ | exact .nil _ _ | apply Le.ag | apply Le.tp | apply Les.cons | exact .nil)))
  | some o =>
    cases o with
    | none =>
      rw [h1] at hp
      unfold prV at hp
      repeat (first | refine seq_ ?_ | refine region_ ?_ | refine nil_ ?_ | refine stepY (y_move rfl) rfl ?_ | refine stepY (y_assign rfl) rfl ?_ | refine stepE (e_alloc rfl rfl rfl) ?_)
      refine call_ Tryz.func52 rfl rfl (hcut) rfl (by repeat (first | exact .refl _ | apply Les.cons | exact .nil)) rfl ?_
      repeat (first | refine seq_ ?_ | refine region_ ?_ | refine nil_ ?_ | refine stepY (y_move rfl) rfl ?_ | refine stepY (y_assign rfl) rfl ?_ | refine stepY (y_extract rfl rfl) rfl ?_)
      refine call_ Tryz.func53 rfl rfl (hp) rfl (by repeat (first | exact .refl _ | apply Les.cons | exact .nil)) rfl ?_
      repeat (first | refine seq_ ?_ | refine region_ ?_ | refine nil_ ?_ | refine ret_ ?_ | refine cond_t rfl ?_ | refine stepY (y_move rfl) rfl ?_ | refine stepY (y_assign rfl) rfl ?_ | refine stepY (y_extract rfl rfl) rfl ?_ | refine stepY (y_build rfl rfl rfl) rfl ?_ | refine stepY (y_cmpT rfl rfl rfl (by omega)) rfl ?_ | refine stepE (e_alloc rfl rfl rfl) ?_ | refine stepE (e_store rfl rfl rfl rfl rfl rfl rfl) ?_)
      ((apply fin_r); (repeat (first | exact .nil | exact .tmp rfl | exact .agg rfl rfl rfl | apply ResL.cons)); (repeat (first | exact .refl _ | exact .nil _ _ | apply Le.ag | apply Le.tp | apply Les.cons | exact .nil)))
    | some a =>
      obtain ⟨g, m⟩ := a
      rw [h1] at hp
      unfold prV at hp
      have hl1 := PR_ln h1
      dsimp only
      by_cases hc : cutAt s < s.size
      · rw [if_pos hc]
        rw [decide_eq_true hc] at hcut
        cases hn : negS (botS s) with
        | true =>
          rw [if_pos rfl]
          rw [hn] at hx
          repeat (first | refine seq_ ?_ | refine region_ ?_ | refine nil_ ?_ | refine stepY (y_move rfl) rfl ?_ | refine stepY (y_assign rfl) rfl ?_ | refine stepE (e_alloc rfl rfl rfl) ?_)
          refine call_ Tryz.func52 rfl rfl (hcut) rfl (by repeat (first | exact .refl _ | apply Les.cons | exact .nil)) rfl ?_
          repeat (first | refine seq_ ?_ | refine region_ ?_ | refine nil_ ?_ | refine stepY (y_move rfl) rfl ?_ | refine stepY (y_assign rfl) rfl ?_ | refine stepY (y_extract rfl rfl) rfl ?_)
          refine call_ Tryz.func53 rfl rfl (hp) rfl (by repeat (first | exact .refl _ | apply Les.cons | exact .nil)) rfl ?_
          repeat (first | refine seq_ ?_ | refine region_ ?_ | refine nil_ ?_ | refine skip_ ?_ | refine cond_f rfl ?_ | refine stepY (y_move rfl) rfl ?_ | refine stepY (y_assign rfl) rfl ?_ | refine stepY (y_extract rfl rfl) rfl ?_ | refine stepY (y_not rfl) rfl ?_ | refine stepY (y_cmpF rfl rfl rfl (by omega)) rfl ?_ | refine stepE (e_alloc rfl rfl rfl) ?_ | refine stepE (e_store rfl rfl rfl rfl rfl rfl rfl) ?_)
          refine call_ Tryz.func55 rfl rfl (hx) rfl (by repeat (first | exact .refl _ | apply Les.cons | exact .nil)) rfl ?_
          repeat (first | refine seq_ ?_ | refine region_ ?_ | refine nil_ ?_ | refine ret_ ?_ | refine cond_t rfl ?_ | refine stepY (y_assign rfl) rfl ?_ | refine stepY (y_build rfl rfl rfl) rfl ?_ | refine stepE (e_store rfl rfl rfl rfl rfl rfl rfl) ?_)
          ((apply fin_r); (repeat (first | exact .nil | exact .tmp rfl | exact .agg rfl rfl rfl | apply ResL.cons)); (repeat (first | exact .refl _ | exact .nil _ _ | apply Le.ag | apply Le.tp | apply Les.cons | exact .nil)))
        | false =>
          rw [if_neg Bool.false_ne_true]
          rw [hn] at hx
          cases h2 : PR (botS s) with
          | none =>
            rw [h2] at hq
            unfold prV at hq
            repeat (first | refine seq_ ?_ | refine region_ ?_ | refine nil_ ?_ | refine stepY (y_move rfl) rfl ?_ | refine stepY (y_assign rfl) rfl ?_ | refine stepE (e_alloc rfl rfl rfl) ?_)
            refine call_ Tryz.func52 rfl rfl (hcut) rfl (by repeat (first | exact .refl _ | apply Les.cons | exact .nil)) rfl ?_
            repeat (first | refine seq_ ?_ | refine region_ ?_ | refine nil_ ?_ | refine stepY (y_move rfl) rfl ?_ | refine stepY (y_assign rfl) rfl ?_ | refine stepY (y_extract rfl rfl) rfl ?_)
            refine call_ Tryz.func53 rfl rfl (hp) rfl (by repeat (first | exact .refl _ | apply Les.cons | exact .nil)) rfl ?_
            repeat (first | refine seq_ ?_ | refine region_ ?_ | refine nil_ ?_ | refine skip_ ?_ | refine cond_f rfl ?_ | refine stepY (y_move rfl) rfl ?_ | refine stepY (y_assign rfl) rfl ?_ | refine stepY (y_extract rfl rfl) rfl ?_ | refine stepY (y_not rfl) rfl ?_ | refine stepY (y_cmpF rfl rfl rfl (by omega)) rfl ?_ | refine stepE (e_alloc rfl rfl rfl) ?_ | refine stepE (e_store rfl rfl rfl rfl rfl rfl rfl) ?_)
            refine call_ Tryz.func55 rfl rfl (hx) rfl (by repeat (first | exact .refl _ | apply Les.cons | exact .nil)) rfl ?_
            repeat (first | refine seq_ ?_ | refine region_ ?_ | refine nil_ ?_ | refine skip_ ?_ | refine cond_f rfl ?_ | refine stepY (y_move rfl) rfl ?_)
            refine call_ Tryz.func53 rfl rfl (hq) rfl (by repeat (first | exact .refl _ | apply Les.cons | exact .nil)) rfl ?_
            repeat (first | refine seq_ ?_ | refine region_ ?_ | refine nil_ ?_ | refine ret_ ?_ | refine cond_t rfl ?_ | refine stepY (y_move rfl) rfl ?_ | refine stepY (y_assign rfl) rfl ?_ | refine stepY (y_extract rfl rfl) rfl ?_ | refine stepY (y_build rfl rfl rfl) rfl ?_ | refine stepY (y_cmpT rfl rfl rfl (by omega)) rfl ?_ | refine stepE (e_alloc rfl rfl rfl) ?_ | refine stepE (e_store rfl rfl rfl rfl rfl rfl rfl) ?_)
            ((apply fin_r); (repeat (first | exact .nil | exact .tmp rfl | exact .agg rfl rfl rfl | apply ResL.cons)); (repeat (first | exact .refl _ | exact .nil _ _ | apply Le.ag | apply Le.tp | apply Les.cons | exact .nil)))
          | some o =>
            cases o with
            | none =>
              rw [h2] at hq
              unfold prV at hq
              repeat (first | refine seq_ ?_ | refine region_ ?_ | refine nil_ ?_ | refine stepY (y_move rfl) rfl ?_ | refine stepY (y_assign rfl) rfl ?_ | refine stepE (e_alloc rfl rfl rfl) ?_)
              refine call_ Tryz.func52 rfl rfl (hcut) rfl (by repeat (first | exact .refl _ | apply Les.cons | exact .nil)) rfl ?_
              repeat (first | refine seq_ ?_ | refine region_ ?_ | refine nil_ ?_ | refine stepY (y_move rfl) rfl ?_ | refine stepY (y_assign rfl) rfl ?_ | refine stepY (y_extract rfl rfl) rfl ?_)
              refine call_ Tryz.func53 rfl rfl (hp) rfl (by repeat (first | exact .refl _ | apply Les.cons | exact .nil)) rfl ?_
              repeat (first | refine seq_ ?_ | refine region_ ?_ | refine nil_ ?_ | refine skip_ ?_ | refine cond_f rfl ?_ | refine stepY (y_move rfl) rfl ?_ | refine stepY (y_assign rfl) rfl ?_ | refine stepY (y_extract rfl rfl) rfl ?_ | refine stepY (y_not rfl) rfl ?_ | refine stepY (y_cmpF rfl rfl rfl (by omega)) rfl ?_ | refine stepE (e_alloc rfl rfl rfl) ?_ | refine stepE (e_store rfl rfl rfl rfl rfl rfl rfl) ?_)
              refine call_ Tryz.func55 rfl rfl (hx) rfl (by repeat (first | exact .refl _ | apply Les.cons | exact .nil)) rfl ?_
              repeat (first | refine seq_ ?_ | refine region_ ?_ | refine nil_ ?_ | refine skip_ ?_ | refine cond_f rfl ?_ | refine stepY (y_move rfl) rfl ?_)
              refine call_ Tryz.func53 rfl rfl (hq) rfl (by repeat (first | exact .refl _ | apply Les.cons | exact .nil)) rfl ?_
              repeat (first | refine seq_ ?_ | refine region_ ?_ | refine nil_ ?_ | refine ret_ ?_ | refine cond_t rfl ?_ | refine stepY (y_move rfl) rfl ?_ | refine stepY (y_assign rfl) rfl ?_ | refine stepY (y_extract rfl rfl) rfl ?_ | refine stepY (y_build rfl rfl rfl) rfl ?_ | refine stepY (y_cmpT rfl rfl rfl (by omega)) rfl ?_ | refine stepE (e_alloc rfl rfl rfl) ?_ | refine stepE (e_store rfl rfl rfl rfl rfl rfl rfl) ?_)
              ((apply fin_r); (repeat (first | exact .nil | exact .tmp rfl | exact .agg rfl rfl rfl | apply ResL.cons)); (repeat (first | exact .refl _ | exact .nil _ _ | apply Le.ag | apply Le.tp | apply Les.cons | exact .nil)))
            | some a =>
              obtain ⟨g', n⟩ := a
              rw [h2] at hq
              unfold prV at hq
              have hN := New_i (sgn g m) (sgn g' n) hl1 (PR_ln h2)
              dsimp only
              refine ofR_cases (sgn g m) (sgn g' n) (P := fun z => Con _ _ _ z → Tr _ _ _ _ _ (Fin _ _ z)) (fun hN => ?_) (fun x hN => ?_) (fun hN => ?_) hN
              · repeat (first | refine seq_ ?_ | refine region_ ?_ | refine nil_ ?_ | refine stepY (y_move rfl) rfl ?_ | refine stepY (y_assign rfl) rfl ?_ | refine stepE (e_alloc rfl rfl rfl) ?_)
                refine call_ Tryz.func52 rfl rfl (hcut) rfl (by repeat (first | exact .refl _ | apply Les.cons | exact .nil)) rfl ?_
                repeat (first | refine seq_ ?_ | refine region_ ?_ | refine nil_ ?_ | refine stepY (y_move rfl) rfl ?_ | refine stepY (y_assign rfl) rfl ?_ | refine stepY (y_extract rfl rfl) rfl ?_)
                refine call_ Tryz.func53 rfl rfl (hp) rfl (by repeat (first | exact .refl _ | apply Les.cons | exact .nil)) rfl ?_
                repeat (first | refine seq_ ?_ | refine region_ ?_ | refine nil_ ?_ | refine skip_ ?_ | refine cond_f rfl ?_ | refine stepY (y_move rfl) rfl ?_ | refine stepY (y_assign rfl) rfl ?_ | refine stepY (y_extract rfl rfl) rfl ?_ | refine stepY (y_not rfl) rfl ?_ | refine stepY (y_cmpF rfl rfl rfl (by omega)) rfl ?_ | refine stepE (e_alloc rfl rfl rfl) ?_ | refine stepE (e_store rfl rfl rfl rfl rfl rfl rfl) ?_)
                refine call_ Tryz.func55 rfl rfl (hx) rfl (by repeat (first | exact .refl _ | apply Les.cons | exact .nil)) rfl ?_
                repeat (first | refine seq_ ?_ | refine region_ ?_ | refine nil_ ?_ | refine skip_ ?_ | refine cond_f rfl ?_ | refine stepY (y_move rfl) rfl ?_)
                refine call_ Tryz.func53 rfl rfl (hq) rfl (by repeat (first | exact .refl _ | apply Les.cons | exact .nil)) rfl ?_
                repeat (first | refine seq_ ?_ | refine region_ ?_ | refine nil_ ?_ | refine skip_ ?_ | refine cond_f rfl ?_ | refine stepY (y_move rfl) rfl ?_ | refine stepY (y_assign rfl) rfl ?_ | refine stepY (y_loadA rfl rfl rfl) rfl ?_ | refine stepY (y_extract rfl rfl) rfl ?_ | refine stepY (y_cmpF rfl rfl rfl (by omega)) rfl ?_ | refine stepE (e_alloc rfl rfl rfl) ?_ | refine stepE (e_store rfl rfl rfl rfl rfl rfl rfl) ?_)
                refine call_ Tryz.func38 rfl rfl (hN) rfl (by repeat (first | exact .refl _ | exact .tag _ _ | apply Le.ag | apply Les.cons | exact .nil)) rfl ?_
                repeat (first | refine nil_ ?_ | refine ret_ ?_ | refine stepY (y_assign rfl) rfl ?_ | refine stepY (y_extract rfl rfl) rfl ?_ | refine stepE (e_store rfl rfl rfl rfl rfl rfl rfl) ?_)
                ((apply fin_r); (repeat (first | exact .nil | exact .tmp rfl | exact .agg rfl rfl rfl | apply ResL.cons)); (repeat (exact .refl _)))
              · repeat (first | refine seq_ ?_ | refine region_ ?_ | refine nil_ ?_ | refine stepY (y_move rfl) rfl ?_ | refine stepY (y_assign rfl) rfl ?_ | refine stepE (e_alloc rfl rfl rfl) ?_)
                refine call_ Tryz.func52 rfl rfl (hcut) rfl (by repeat (first | exact .refl _ | apply Les.cons | exact .nil)) rfl ?_
                repeat (first | refine seq_ ?_ | refine region_ ?_ | refine nil_ ?_ | refine stepY (y_move rfl) rfl ?_ | refine stepY (y_assign rfl) rfl ?_ | refine stepY (y_extract rfl rfl) rfl ?_)
                refine call_ Tryz.func53 rfl rfl (hp) rfl (by repeat (first | exact .refl _ | apply Les.cons | exact .nil)) rfl ?_
                repeat (first | refine seq_ ?_ | refine region_ ?_ | refine nil_ ?_ | refine skip_ ?_ | refine cond_f rfl ?_ | refine stepY (y_move rfl) rfl ?_ | refine stepY (y_assign rfl) rfl ?_ | refine stepY (y_extract rfl rfl) rfl ?_ | refine stepY (y_not rfl) rfl ?_ | refine stepY (y_cmpF rfl rfl rfl (by omega)) rfl ?_ | refine stepE (e_alloc rfl rfl rfl) ?_ | refine stepE (e_store rfl rfl rfl rfl rfl rfl rfl) ?_)
                refine call_ Tryz.func55 rfl rfl (hx) rfl (by repeat (first | exact .refl _ | apply Les.cons | exact .nil)) rfl ?_
                repeat (first | refine seq_ ?_ | refine region_ ?_ | refine nil_ ?_ | refine skip_ ?_ | refine cond_f rfl ?_ | refine stepY (y_move rfl) rfl ?_)
                refine call_ Tryz.func53 rfl rfl (hq) rfl (by repeat (first | exact .refl _ | apply Les.cons | exact .nil)) rfl ?_
                repeat (first | refine seq_ ?_ | refine region_ ?_ | refine nil_ ?_ | refine skip_ ?_ | refine cond_f rfl ?_ | refine stepY (y_move rfl) rfl ?_ | refine stepY (y_assign rfl) rfl ?_ | refine stepY (y_loadA rfl rfl rfl) rfl ?_ | refine stepY (y_extract rfl rfl) rfl ?_ | refine stepY (y_cmpF rfl rfl rfl (by omega)) rfl ?_ | refine stepE (e_alloc rfl rfl rfl) ?_ | refine stepE (e_store rfl rfl rfl rfl rfl rfl rfl) ?_)
                refine call_ Tryz.func38 rfl rfl (hN) rfl (by repeat (first | exact .refl _ | exact .tag _ _ | apply Le.ag | apply Les.cons | exact .nil)) rfl ?_
                repeat (first | refine nil_ ?_ | refine ret_ ?_ | refine stepY (y_assign rfl) rfl ?_ | refine stepY (y_extract rfl rfl) rfl ?_ | refine stepE (e_store rfl rfl rfl rfl rfl rfl rfl) ?_)
                ((apply fin_r); (repeat (first | exact .nil | exact .tmp rfl | exact .agg rfl rfl rfl | apply ResL.cons)); (repeat (exact .refl _)))
              · repeat (first | refine seq_ ?_ | refine region_ ?_ | refine nil_ ?_ | refine stepY (y_move rfl) rfl ?_ | refine stepY (y_assign rfl) rfl ?_ | refine stepE (e_alloc rfl rfl rfl) ?_)
                refine call_ Tryz.func52 rfl rfl (hcut) rfl (by repeat (first | exact .refl _ | apply Les.cons | exact .nil)) rfl ?_
                repeat (first | refine seq_ ?_ | refine region_ ?_ | refine nil_ ?_ | refine stepY (y_move rfl) rfl ?_ | refine stepY (y_assign rfl) rfl ?_ | refine stepY (y_extract rfl rfl) rfl ?_)
                refine call_ Tryz.func53 rfl rfl (hp) rfl (by repeat (first | exact .refl _ | apply Les.cons | exact .nil)) rfl ?_
                repeat (first | refine seq_ ?_ | refine region_ ?_ | refine nil_ ?_ | refine skip_ ?_ | refine cond_f rfl ?_ | refine stepY (y_move rfl) rfl ?_ | refine stepY (y_assign rfl) rfl ?_ | refine stepY (y_extract rfl rfl) rfl ?_ | refine stepY (y_not rfl) rfl ?_ | refine stepY (y_cmpF rfl rfl rfl (by omega)) rfl ?_ | refine stepE (e_alloc rfl rfl rfl) ?_ | refine stepE (e_store rfl rfl rfl rfl rfl rfl rfl) ?_)
                refine call_ Tryz.func55 rfl rfl (hx) rfl (by repeat (first | exact .refl _ | apply Les.cons | exact .nil)) rfl ?_
                repeat (first | refine seq_ ?_ | refine region_ ?_ | refine nil_ ?_ | refine skip_ ?_ | refine cond_f rfl ?_ | refine stepY (y_move rfl) rfl ?_)
                refine call_ Tryz.func53 rfl rfl (hq) rfl (by repeat (first | exact .refl _ | apply Les.cons | exact .nil)) rfl ?_
                repeat (first | refine seq_ ?_ | refine region_ ?_ | refine nil_ ?_ | refine skip_ ?_ | refine cond_f rfl ?_ | refine stepY (y_move rfl) rfl ?_ | refine stepY (y_assign rfl) rfl ?_ | refine stepY (y_loadA rfl rfl rfl) rfl ?_ | refine stepY (y_extract rfl rfl) rfl ?_ | refine stepY (y_cmpF rfl rfl rfl (by omega)) rfl ?_ | refine stepE (e_alloc rfl rfl rfl) ?_ | refine stepE (e_store rfl rfl rfl rfl rfl rfl rfl) ?_)
                refine call_ Tryz.func38 rfl rfl (hN) rfl (by repeat (first | exact .refl _ | exact .tag _ _ | apply Le.ag | apply Les.cons | exact .nil)) rfl ?_
                repeat (first | refine nil_ ?_ | refine ret_ ?_ | refine stepY (y_assign rfl) rfl ?_ | refine stepY (y_extract rfl rfl) rfl ?_ | refine stepE (e_store rfl rfl rfl rfl rfl rfl rfl) ?_)
                ((apply fin_r); (repeat (first | exact .nil | exact .tmp rfl | exact .agg rfl rfl rfl | apply ResL.cons)); (repeat (exact .refl _)))
      · rw [if_neg hc]
        rw [decide_eq_false hc] at hcut
        have hN := New_i (sgn g m) 1 hl1 (by decide)
        refine ofR_cases (sgn g m) 1 (P := fun z => Con _ _ _ z → Tr _ _ _ _ _ (Fin _ _ z)) (fun hN => ?_) (fun x hN => ?_) (fun hN => ?_) hN
        · repeat (first | refine seq_ ?_ | refine region_ ?_ | refine nil_ ?_ | refine stepY (y_move rfl) rfl ?_ | refine stepY (y_assign rfl) rfl ?_ | refine stepE (e_alloc rfl rfl rfl) ?_)
          refine call_ Tryz.func52 rfl rfl (hcut) rfl (by repeat (first | exact .refl _ | apply Les.cons | exact .nil)) rfl ?_
          repeat (first | refine seq_ ?_ | refine region_ ?_ | refine nil_ ?_ | refine stepY (y_move rfl) rfl ?_ | refine stepY (y_assign rfl) rfl ?_ | refine stepY (y_extract rfl rfl) rfl ?_)
          refine call_ Tryz.func53 rfl rfl (hp) rfl (by repeat (first | exact .refl _ | apply Les.cons | exact .nil)) rfl ?_
          repeat (first | refine seq_ ?_ | refine region_ ?_ | refine nil_ ?_ | refine skip_ ?_ | refine cond_t rfl ?_ | refine cond_f rfl ?_ | refine stepY (y_move rfl) rfl ?_ | refine stepY (y_assign rfl) rfl ?_ | refine stepY (y_extract rfl rfl) rfl ?_ | refine stepY (y_not rfl) rfl ?_ | refine stepY (y_cmpF rfl rfl rfl (by omega)) rfl ?_ | refine stepE (e_alloc rfl rfl rfl) ?_ | refine stepE (e_store rfl rfl rfl rfl rfl rfl rfl) ?_)
          refine draw_ [(0, true), (1, false), (2, false), (3, true), (4, true), (5, false), (6, true)] 1000 [7] mixed (by kernel_rfl) rfl ?_
          ((refine dY rfl (y_loadA rfl rfl rfl) rfl rfl rfl rfl ?_))
          refine dC rfl Tryz.func54 rfl rfl (hf) rfl (by repeat (first | exact .refl _ | apply Les.cons | exact .nil)) rfl rfl ?_
          skip
          refine dC rfl Tryz.func38 rfl rfl (hN) rfl (by repeat (first | exact .refl _ | exact .tag _ _ | apply Le.ag | apply Les.cons | exact .nil)) rfl rfl ?_
          ((refine dY rfl (y_extract rfl rfl) rfl rfl rfl rfl ?_); refine dY rfl (y_extract rfl rfl) rfl rfl rfl rfl ?_; (refine dE rfl (e_store rfl rfl rfl rfl rfl rfl rfl) rfl rfl ?_); refine dY rfl (y_assign rfl) rfl rfl rfl rfl ?_; refine dEnd ?_)
          repeat (refine ret_ ?_)
          ((apply fin_r); (repeat (first | exact .nil | exact .tmp rfl | exact .agg rfl rfl rfl | apply ResL.cons)); (repeat (exact .refl _)))
        · repeat (first | refine seq_ ?_ | refine region_ ?_ | refine nil_ ?_ | refine stepY (y_move rfl) rfl ?_ | refine stepY (y_assign rfl) rfl ?_ | refine stepE (e_alloc rfl rfl rfl) ?_)
          refine call_ Tryz.func52 rfl rfl (hcut) rfl (by repeat (first | exact .refl _ | apply Les.cons | exact .nil)) rfl ?_
          repeat (first | refine seq_ ?_ | refine region_ ?_ | refine nil_ ?_ | refine stepY (y_move rfl) rfl ?_ | refine stepY (y_assign rfl) rfl ?_ | refine stepY (y_extract rfl rfl) rfl ?_)
          refine call_ Tryz.func53 rfl rfl (hp) rfl (by repeat (first | exact .refl _ | apply Les.cons | exact .nil)) rfl ?_
          repeat (first | refine seq_ ?_ | refine region_ ?_ | refine nil_ ?_ | refine skip_ ?_ | refine cond_t rfl ?_ | refine cond_f rfl ?_ | refine stepY (y_move rfl) rfl ?_ | refine stepY (y_assign rfl) rfl ?_ | refine stepY (y_extract rfl rfl) rfl ?_ | refine stepY (y_not rfl) rfl ?_ | refine stepY (y_cmpF rfl rfl rfl (by omega)) rfl ?_ | refine stepE (e_alloc rfl rfl rfl) ?_ | refine stepE (e_store rfl rfl rfl rfl rfl rfl rfl) ?_)
          refine draw_ [(0, true), (1, false), (2, false), (3, true), (4, true), (5, false), (6, true)] 1000 [7] mixed (by kernel_rfl) rfl ?_
          ((refine dY rfl (y_loadA rfl rfl rfl) rfl rfl rfl rfl ?_))
          refine dC rfl Tryz.func54 rfl rfl (hf) rfl (by repeat (first | exact .refl _ | apply Les.cons | exact .nil)) rfl rfl ?_
          skip
          refine dC rfl Tryz.func38 rfl rfl (hN) rfl (by repeat (first | exact .refl _ | exact .tag _ _ | apply Le.ag | apply Les.cons | exact .nil)) rfl rfl ?_
          ((refine dY rfl (y_extract rfl rfl) rfl rfl rfl rfl ?_); refine dY rfl (y_extract rfl rfl) rfl rfl rfl rfl ?_; (refine dE rfl (e_store rfl rfl rfl rfl rfl rfl rfl) rfl rfl ?_); refine dY rfl (y_assign rfl) rfl rfl rfl rfl ?_; refine dEnd ?_)
          repeat (refine ret_ ?_)
          ((apply fin_r); (repeat (first | exact .nil | exact .tmp rfl | exact .agg rfl rfl rfl | apply ResL.cons)); (repeat (exact .refl _)))
        · repeat (first | refine seq_ ?_ | refine region_ ?_ | refine nil_ ?_ | refine stepY (y_move rfl) rfl ?_ | refine stepY (y_assign rfl) rfl ?_ | refine stepE (e_alloc rfl rfl rfl) ?_)
          refine call_ Tryz.func52 rfl rfl (hcut) rfl (by repeat (first | exact .refl _ | apply Les.cons | exact .nil)) rfl ?_
          repeat (first | refine seq_ ?_ | refine region_ ?_ | refine nil_ ?_ | refine stepY (y_move rfl) rfl ?_ | refine stepY (y_assign rfl) rfl ?_ | refine stepY (y_extract rfl rfl) rfl ?_)
          refine call_ Tryz.func53 rfl rfl (hp) rfl (by repeat (first | exact .refl _ | apply Les.cons | exact .nil)) rfl ?_
          repeat (first | refine seq_ ?_ | refine region_ ?_ | refine nil_ ?_ | refine skip_ ?_ | refine cond_t rfl ?_ | refine cond_f rfl ?_ | refine stepY (y_move rfl) rfl ?_ | refine stepY (y_assign rfl) rfl ?_ | refine stepY (y_extract rfl rfl) rfl ?_ | refine stepY (y_not rfl) rfl ?_ | refine stepY (y_cmpF rfl rfl rfl (by omega)) rfl ?_ | refine stepE (e_alloc rfl rfl rfl) ?_ | refine stepE (e_store rfl rfl rfl rfl rfl rfl rfl) ?_)
          refine draw_ [(0, true), (1, false), (2, false), (3, true), (4, true), (5, false), (6, true)] 1000 [7] mixed (by kernel_rfl) rfl ?_
          ((refine dY rfl (y_loadA rfl rfl rfl) rfl rfl rfl rfl ?_))
          refine dC rfl Tryz.func54 rfl rfl (hf) rfl (by repeat (first | exact .refl _ | apply Les.cons | exact .nil)) rfl rfl ?_
          skip
          refine dC rfl Tryz.func38 rfl rfl (hN) rfl (by repeat (first | exact .refl _ | exact .tag _ _ | apply Le.ag | apply Les.cons | exact .nil)) rfl rfl ?_
          ((refine dY rfl (y_extract rfl rfl) rfl rfl rfl rfl ?_); refine dY rfl (y_extract rfl rfl) rfl rfl rfl rfl ?_; (refine dE rfl (e_store rfl rfl rfl rfl rfl rfl rfl) rfl rfl ?_); refine dY rfl (y_assign rfl) rfl rfl rfl rfl ?_; refine dEnd ?_)
          repeat (refine ret_ ?_)
          ((apply fin_r); (repeat (first | exact .nil | exact .tmp rfl | exact .agg rfl rfl rfl | apply ResL.cons)); (repeat (exact .refl _)))
end Go.Av

set_option maxHeartbeats 8000000
set_option exponentiation.threshold 100000
set_option maxRecDepth 100000
set_option linter.unusedVariables false
set_option linter.unusedSimpArgs false
namespace Go.Av
open Go Go.Proofs
/-! the chapter's examples hold -/
theorem exPar1 : parF ⟨#[49, 47, 45, 50]⟩ = .tp [ZF, E_ 9] := by
  unfold parF
  rw [show PR (topS ⟨#[49, 47, 45, 50]⟩) = some (some (false, 1)) by decide +kernel]
  dsimp only
  rw [if_pos (by decide +kernel), if_pos (by decide +kernel)]
theorem exPar2 : parF ⟨#[54, 47, 52]⟩ = .tp [FQ (Q_ 3 2), E_ 0] := by
  unfold parF
  rw [show PR (topS ⟨#[54, 47, 52]⟩) = some (some (false, 6)) by decide +kernel]
  dsimp only
  rw [if_pos (by decide +kernel), if_neg (by decide +kernel), show PR (botS ⟨#[54, 47, 52]⟩) = some (some (false, 4)) by decide +kernel]
  dsimp only
  unfold ofR
  rw [if_neg (by decide +kernel), show Rat.divInt (sgn false 6) (sgn false 4) = Q_ 3 2 by decide +kernel, resQ_ok (by decide +kernel)]
theorem exampleHolds_c : Con Tryz.prog 10 [] (Bo true) := by
  refine con_of Tryz.func10 rfl rfl rfl rfl rfl ?_
  have a1 := of_c 1 6 (by omega) (by omega) (by omega)
  have a2 := of_c 1 3 (by omega) (by omega) (by omega)
  have a3 := of_c 2 3 (by omega) (by omega) (by omega)
  have a4 := of_c 3 4 (by omega) (by omega) (by omega)
  have a5 := of_c 1 2 (by omega) (by omega) (by omega)
  have a6 := of_c (-3) 4 (by omega) (by omega) (by omega)
  have a7 := of_c 31 10 (by omega) (by omega) (by omega)
  have a8 := of_c 16 5 (by omega) (by omega) (by omega)
  have a9 := of_c 6 (-4) (by omega) (by omega) (by omega)
  have ok : ∀ n d : Int, (-100 ≤ n ∧ n ≤ 100) → (-100 ≤ d ∧ d ≤ 100) → d ≠ 0 → okQ (Q_ n d) := fun n d h1 h2 h3 => okQ_div n d (by omega) (by omega) h3
  have b1 := FAdd_q (Q_ 1 6) (Q_ 1 3) (ok _ _ (by omega) (by omega) (by omega)) (ok _ _ (by omega) (by omega) (by omega))
  rw [show Q_ 1 6 + Q_ 1 3 = Q_ 1 2 by decide +kernel, resQ_ok (ok _ _ (by omega) (by omega) (by omega))] at b1
  have b2 := FMul_q (Q_ 2 3) (Q_ 3 4) (ok _ _ (by omega) (by omega) (by omega)) (ok _ _ (by omega) (by omega) (by omega))
  rw [show Q_ 2 3 * Q_ 3 4 = Q_ 1 2 by decide +kernel, resQ_ok (ok _ _ (by omega) (by omega) (by omega))] at b2
  have b3 := FDiv_q (Q_ 1 2) (Q_ (-3) 4) (ok _ _ (by omega) (by omega) (by omega)) (ok _ _ (by omega) (by omega) (by omega)) (by decide +kernel)
  rw [show Q_ 1 2 / Q_ (-3) 4 = Q_ (-2) 3 by decide +kernel, resQ_ok (ok _ _ (by omega) (by omega) (by omega))] at b3
  have b4 := Simplest_q (Q_ 31 10) (Q_ 16 5) (ok _ _ (by omega) (by omega) (by omega)) (ok _ _ (by omega) (by omega) (by omega)) (by decide +kernel)
  rw [show smp (Q_ 31 10) (Q_ 16 5) = Q_ 16 5 by decide +kernel] at b4
  have i1 := is_c 1 2 (by omega) (by omega) (by omega)
  have i2 := is_c (-2) 3 (by omega) (by omega) (by omega)
  have i3 := is_c 16 5 (by omega) (by omega) (by omega)
  have i4 := is_c 3 2 (by omega) (by omega) (by omega)
  have z := Of_c 1 0 (by omega) (by omega)
  unfold ofR at z
  rw [if_pos rfl] at z
  have p1 := FParse_c ⟨#[49, 47, 45, 50]⟩ (by decide)
  rw [exPar1] at p1
  have p2 := FParse_c ⟨#[54, 47, 52]⟩ (by decide)
  rw [exPar2] at p2
  have c1 := FCmp_q (Q_ 1 3) (Q_ 1 2) (ok _ _ (by omega) (by omega) (by omega)) (ok _ _ (by omega) (by omega) (by omega))
  rw [show qcmp (Q_ 1 3) (Q_ 1 2) = -1 by decide +kernel] at c1
  have f1 := FFormat_g _ _ _ (vG_q (ok (-3) 4 (by omega) (by omega) (by omega)))
  rw [show fmtQ (decide ((Q_ (-3) 4).num < 0)) (Q_ (-3) 4).num.natAbs (Q_ (-3) 4).den = ⟨#[45, 51, 47, 52]⟩ by decide +kernel] at f1
  have v1 := FValid_c (decide ((Q_ 6 (-4)).num < 0)) (limbs (Q_ 6 (-4)).num.natAbs) false (limbs (Q_ 6 (-4)).den) (wf_limbs _) (wf_limbs _)
  rw [vldF_t (ok 6 (-4) (by omega) (by omega) (by omega))] at v1
  repeat (first | refine seq_ ?_ | refine region_ ?_ | refine nil_ ?_ | refine stepY (y_assign rfl) rfl ?_)
  refine call_ Tryz.func37 rfl rfl (a1) rfl (by repeat (first | exact .refl _ | apply Les.cons | exact .nil)) rfl ?_
  skip
  refine call_ Tryz.func37 rfl rfl (a2) rfl (by repeat (first | exact .refl _ | apply Les.cons | exact .nil)) rfl ?_
  skip
  refine call_ Tryz.func24 rfl rfl (b1) rfl (by repeat (first | exact .refl _ | exact .tag _ _ | apply Le.ag | apply Les.cons | exact .nil)) rfl ?_
  repeat (first | refine seq_ ?_ | refine region_ ?_ | refine nil_ ?_ | refine stepY (y_move rfl) rfl ?_ | refine stepY (y_assign rfl) rfl ?_ | refine stepY (y_extract rfl rfl) rfl ?_ | refine stepE (e_alloc rfl rfl rfl) ?_ | refine stepE (e_store rfl rfl rfl rfl rfl rfl rfl) ?_)
  refine call_ Tryz.func37 rfl rfl (a3) rfl (by repeat (first | exact .refl _ | apply Les.cons | exact .nil)) rfl ?_
  skip
  refine call_ Tryz.func37 rfl rfl (a4) rfl (by repeat (first | exact .refl _ | apply Les.cons | exact .nil)) rfl ?_
  skip
  refine call_ Tryz.func11 rfl rfl (b2) rfl (by repeat (first | exact .refl _ | exact .tag _ _ | apply Le.ag | apply Les.cons | exact .nil)) rfl ?_
  repeat (first | refine seq_ ?_ | refine region_ ?_ | refine nil_ ?_ | refine stepY (y_move rfl) rfl ?_ | refine stepY (y_assign rfl) rfl ?_ | refine stepY (y_extract rfl rfl) rfl ?_ | refine stepE (e_alloc rfl rfl rfl) ?_ | refine stepE (e_store rfl rfl rfl rfl rfl rfl rfl) ?_)
  refine call_ Tryz.func37 rfl rfl (a5) rfl (by repeat (first | exact .refl _ | apply Les.cons | exact .nil)) rfl ?_
  skip
  refine call_ Tryz.func37 rfl rfl (a6) rfl (by repeat (first | exact .refl _ | apply Les.cons | exact .nil)) rfl ?_
  skip
  refine call_ Tryz.func13 rfl rfl (b3) rfl (by repeat (first | exact .refl _ | exact .tag _ _ | apply Le.ag | apply Les.cons | exact .nil)) rfl ?_
  repeat (first | refine seq_ ?_ | refine region_ ?_ | refine nil_ ?_ | refine stepY (y_move rfl) rfl ?_ | refine stepY (y_assign rfl) rfl ?_ | refine stepY (y_extract rfl rfl) rfl ?_ | refine stepE (e_alloc rfl rfl rfl) ?_ | refine stepE (e_store rfl rfl rfl rfl rfl rfl rfl) ?_)
  refine call_ Tryz.func37 rfl rfl (a7) rfl (by repeat (first | exact .refl _ | apply Les.cons | exact .nil)) rfl ?_
  skip
  refine call_ Tryz.func37 rfl rfl (a8) rfl (by repeat (first | exact .refl _ | apply Les.cons | exact .nil)) rfl ?_
  skip
  refine call_ Tryz.func22 rfl rfl (b4) rfl (by repeat (first | exact .refl _ | exact .tag _ _ | apply Le.ag | apply Les.cons | exact .nil)) rfl ?_
  repeat (first | refine seq_ ?_ | refine region_ ?_ | refine nil_ ?_ | refine stepY (y_move rfl) rfl ?_ | refine stepY (y_assign rfl) rfl ?_ | refine stepY (y_loadA rfl rfl rfl) rfl ?_ | refine stepY (y_extract rfl rfl) rfl ?_ | refine stepE (e_alloc rfl rfl rfl) ?_ | refine stepE (e_store rfl rfl rfl rfl rfl rfl rfl) ?_)
  refine call_ Tryz.func41 rfl rfl (i1) rfl (by repeat (first | exact .refl _ | exact .tag _ _ | apply Le.ag | apply Les.cons | exact .nil)) rfl ?_
  repeat (first | refine guard_t rfl rfl rfl ?_ | refine stepY (y_move rfl) rfl ?_ | refine stepY (y_loadA rfl rfl rfl) rfl ?_ | refine stepY (y_not rfl) rfl ?_)
  refine call_ Tryz.func41 rfl rfl (i1) rfl (by repeat (first | exact .refl _ | exact .tag _ _ | apply Le.ag | apply Les.cons | exact .nil)) rfl ?_
  repeat (first | refine guard_t rfl rfl rfl ?_ | refine stepY (y_move rfl) rfl ?_ | refine stepY (y_loadA rfl rfl rfl) rfl ?_ | refine stepY (y_not rfl) rfl ?_ | refine stepY (y_pick_f rfl rfl) rfl ?_)
  refine call_ Tryz.func41 rfl rfl (i2) rfl (by repeat (first | exact .refl _ | exact .tag _ _ | apply Le.ag | apply Les.cons | exact .nil)) rfl ?_
  repeat (first | refine guard_t rfl rfl rfl ?_ | refine stepY (y_move rfl) rfl ?_ | refine stepY (y_loadA rfl rfl rfl) rfl ?_ | refine stepY (y_not rfl) rfl ?_ | refine stepY (y_pick_f rfl rfl) rfl ?_)
  refine call_ Tryz.func41 rfl rfl (i3) rfl (by repeat (first | exact .refl _ | exact .tag _ _ | apply Le.ag | apply Les.cons | exact .nil)) rfl ?_
  repeat (first | refine seq_ ?_ | refine region_ ?_ | refine nil_ ?_ | refine skip_ ?_ | refine cond_f rfl ?_ | refine guard_t rfl rfl rfl ?_ | refine stepY (y_not rfl) rfl ?_ | refine stepY (y_pick_f rfl rfl) rfl ?_)
  refine call_ Tryz.func42 rfl rfl (z) rfl (by repeat (first | exact .refl _ | apply Les.cons | exact .nil)) rfl ?_
  repeat (first | refine seq_ ?_ | refine region_ ?_ | refine nil_ ?_ | refine stepY (y_move rfl) rfl ?_ | refine stepY (y_assign rfl) rfl ?_ | refine stepY (y_extract rfl rfl) rfl ?_ | refine stepE (e_alloc rfl rfl rfl) ?_ | refine stepE (e_store rfl rfl rfl rfl rfl rfl rfl) ?_)
  refine call_ Tryz.func17 rfl rfl (p1) rfl (by repeat (first | exact .refl _ | apply Les.cons | exact .nil)) rfl ?_
  repeat (first | refine seq_ ?_ | refine region_ ?_ | refine nil_ ?_ | refine stepY (y_move rfl) rfl ?_ | refine stepY (y_assign rfl) rfl ?_ | refine stepY (y_extract rfl rfl) rfl ?_ | refine stepE (e_alloc rfl rfl rfl) ?_ | refine stepE (e_store rfl rfl rfl rfl rfl rfl rfl) ?_)
  refine call_ Tryz.func17 rfl rfl (p2) rfl (by repeat (first | exact .refl _ | apply Les.cons | exact .nil)) rfl ?_
  repeat (first | refine seq_ ?_ | refine region_ ?_ | refine nil_ ?_ | refine stepY (y_move rfl) rfl ?_ | refine stepY (y_assign rfl) rfl ?_ | refine stepY (y_extract rfl rfl) rfl ?_ | refine stepE (e_alloc rfl rfl rfl) ?_ | refine stepE (e_store rfl rfl rfl rfl rfl rfl rfl) ?_)
  refine call_ Tryz.func37 rfl rfl (a2) rfl (by repeat (first | exact .refl _ | apply Les.cons | exact .nil)) rfl ?_
  skip
  refine call_ Tryz.func37 rfl rfl (a5) rfl (by repeat (first | exact .refl _ | apply Les.cons | exact .nil)) rfl ?_
  skip
  refine call_ Tryz.func28 rfl rfl (c1) rfl (by repeat (first | exact .refl _ | exact .tag _ _ | apply Le.ag | apply Les.cons | exact .nil)) rfl ?_
  repeat (first | refine seq_ ?_ | refine region_ ?_ | refine nil_ ?_ | refine guard_t rfl rfl rfl ?_ | refine stepY (y_move rfl) rfl ?_ | refine stepY (y_assign rfl) rfl ?_ | refine stepY (y_loadA rfl rfl rfl) rfl ?_ | refine stepY (y_extract rfl rfl) rfl ?_ | refine stepY (y_pick_t rfl rfl) rfl ?_ | refine stepY (y_cmpT rfl rfl rfl (by omega)) rfl ?_)
  refine call_ Tryz.func41 rfl rfl (i4) rfl (by repeat (first | exact .refl _ | exact .tag _ _ | apply Le.ag | apply Les.cons | exact .nil)) rfl ?_
  repeat (first | refine guard_t rfl rfl rfl ?_ | refine stepY (y_move rfl) rfl ?_ | refine stepY (y_pick_t rfl rfl) rfl ?_ | refine stepY (y_cmpT rfl rfl rfl (by omega)) rfl ?_)
  refine call_ Tryz.func37 rfl rfl (a6) rfl (by repeat (first | exact .refl _ | apply Les.cons | exact .nil)) rfl ?_
  repeat (refine guard_t rfl rfl rfl ?_)
  refine call_ Tryz.func16 rfl rfl (f1) rfl (by repeat (first | exact .refl _ | exact .tag _ _ | apply Le.ag | apply Les.cons | exact .nil)) rfl ?_
  repeat (first | refine guard_t rfl rfl rfl ?_ | refine stepY (y_move rfl) rfl ?_ | refine stepY (y_pick_t rfl rfl) rfl ?_ | refine stepY (y_eqs rfl rfl) rfl ?_)
  refine call_ Tryz.func37 rfl rfl (a9) rfl (by repeat (first | exact .refl _ | apply Les.cons | exact .nil)) rfl ?_
  repeat (refine guard_t rfl rfl rfl ?_)
  refine call_ Tryz.func43 rfl rfl (v1) rfl (by repeat (first | exact .refl _ | exact .tag _ _ | apply Le.ag | apply Les.cons | exact .nil)) rfl ?_
  repeat (first | refine nil_ ?_ | refine ret_ ?_ | refine stepY (y_assign rfl) rfl ?_ | refine stepY (y_pick_t rfl rfl) rfl ?_)
  ((apply fin_r); (repeat (first | exact .nil | exact .tmp rfl | apply ResL.cons)); (repeat (exact .refl _)))
end Go.Av

set_option maxHeartbeats 8000000
set_option exponentiation.threshold 100000
set_option maxRecDepth 100000
set_option linter.unusedVariables false
set_option linter.unusedSimpArgs false
namespace Go.Av
open Go Go.Proofs
/-! Answers of the package and of the reference side by side. -/
abbrev AnsF (p : Bool) (m d : Nat) (e : Int) : PV := .tp [.ag [Bo p, FM m, Bo false, FM d], E_ e]
abbrev AnsM (p : Bool) (m d : Nat) (e : Int) : PV := .tp [GF p m d, E_ e]
theorem res_ex (x : Rat) : ∃ p m d e, resQ x = AnsF p m d e ∧ resM x = AnsM p m d e := by
  by_cases h : okQ x
  · exact ⟨_, _, _, _, resQ_ok h, resM_ok h⟩
  · exact ⟨_, _, _, _, resQ_no h, resM_no h⟩
/-- What Pair says: two functions of the same arguments answer alike. -/
def Pair (f g : Nat) (args : List PV) : Prop := ∃ p m d e, Con Tryz.prog f args (AnsF p m d e) ∧ Con Tryz.prog g args (AnsM p m d e)
theorem Pair.res {f g : Nat} {args : List PV} (x : Rat) (h1 : Con Tryz.prog f args (resQ x)) (h2 : Con Tryz.prog g args (resM x)) : Pair f g args := by
  obtain ⟨p, m, d, e, e1, e2⟩ := res_ex x
  rw [e1] at h1
  rw [e2] at h2
  exact ⟨p, m, d, e, h1, h2⟩
theorem Pair.err {f g : Nat} {args : List PV} (e : Int) (h1 : Con Tryz.prog f args (.tp [ZF, E_ e])) (h2 : Con Tryz.prog g args (.tp [ZM, E_ e])) : Pair f g args := ⟨_, _, _, _, h1, h2⟩
theorem norm' {p : Bool} {l : List Int} (hl : wf l) (h : vldB p l = true) : ∃ m, l = limbs m ∧ vldB p (limbs m) = true := by
  have e := vld_limbs hl h
  exact ⟨val l, e, by rw [← e]; exact h⟩
theorem New_pair (p q : Bool) (l k : List Int) (hl : wf l) (hk : wf k) : Pair 38 57 [AV p l, AV q k] := by
  cases hv : vldB p l && vldB q k with
  | false => exact .err 1 (New_e p q l k hv) (RNew_e p q l k hv)
  | true =>
    rw [Bool.and_eq_true] at hv
    obtain ⟨m, rfl, hm⟩ := norm' hl hv.1
    obtain ⟨n, rfl, hn⟩ := norm' hk hv.2
    rcases Nat.eq_zero_or_pos n with h0 | h0
    · subst h0
      exact .err 12 (New_z p q (limbs m) hm hn) (RNew_z p q (limbs m) hm hn)
    · exact .res _ (New_s p q m n hm hn h0) (RNew_s p q m n hm hn h0)
theorem Of_pair (n d : Int) (hn : -9223372036854775808 ≤ n ∧ n ≤ 9223372036854775807) (hd : -9223372036854775808 ≤ d ∧ d ≤ 9223372036854775807) : Pair 42 82 [I n, I d] := by
  have h1 := Of_c n d hn hd
  have h2 := ROf_c n d hn hd
  unfold ofR at h1
  unfold ofM at h2
  by_cases h : d = 0
  · rw [if_pos h] at h1 h2
    exact .err 12 h1 h2
  · rw [if_neg h] at h1 h2
    exact .res _ h1 h2
end Go.Av

set_option maxRecDepth 100000
set_option linter.unusedVariables false
set_option linter.unusedSimpArgs false
/-! What a row says of an argument, as an abstract value. -/
namespace Go.Av
open Go Go.Proofs Go.ChangeShapes Go.WideShapes Go.ChangeAt Go.RowKit Go.Joins
section
variable {H : Type} {enc : TypeId × Value → H} {W : World} {base : Nat}
def Wide (k : IntKind) (l : List Int) : Prop := ∀ n ∈ l, (Lit.int k n).wf = true
theorem ints_rel {P : Program} {t e : TypeId} {k : IntKind} {v : Value} {fuel : Nat} {x : DataW H × List MemPlace} (ht : P.underlying t = some (.slice e)) (he : P.underlying e = some (.int k)) (hc : P.cellsOf e = 1) (hB : 0 < P.bytesOf e)
    (h : DataW.trod enc P W 0 (fun _ => true) true fuel t [v] = some x) (hb : ∀ n ∈ x.1.weights P t, n ≤ reachBytes) : ∃ l, Wide k l ∧ Rel W (fun _ b => b < W.heap.size ∧ True) (.si false k l) v := by
  rcases open_ints ht he hc h with ⟨hcs, hx⟩ | ⟨a, len, cap, zs, hcs, _, hl, hm, hz, hx, hcell, hw⟩
  · simp at hcs
    subst hcs
    refine ⟨[], by simp [Wide], ?_⟩
    simp only [Rel]
    exact ⟨none, 0, rfl, by simp, by simp [maxLen], by simp [lim], fun h => by simp at h⟩
  · simp at hcs
    subst hcs
    simp only [if_true] at hz
    have hlen : (zs.take len).length = len := by rw [List.length_take]; omega
    refine ⟨zs.take len, fun n hn => hw n (List.mem_of_mem_take hn), ?_⟩
    have hwt : cap * P.bytesOf e ≤ reachBytes := by
      refine hb _ ?_
      rw [hx]
      simp only [DataW.weights, ht, lits, List.length_map, List.length_take, List.length_drop, List.mem_cons]
      refine .inl ?_
      congr 1
      omega
    have hcap : cap ≤ reachBytes := Nat.le_trans (Nat.le_mul_of_pos_right _ hB) hwt
    have hrb : reachBytes = 140737488351232 := rfl
    simp only [Rel]
    refine ⟨some a, cap, by rw [hlen], by omega, hm, by simp only [lim]; omega, fun h0 => ?_⟩
    have hz0 : 0 < zs.length := by omega
    have h00 := hcell 0 hz0
    obtain ⟨b, o, s⟩ := a
    have hs : s = none := by
      cases s with
      | none => rfl
      | some q =>
        exfalso
        simp only [Addr.add, if_true, World.cell?] at h00
        split at h00 <;> simp at h00
    subst hs
    refine ⟨b, o, rfl, ⟨block_lt_of_cell (a := ⟨b, o, none⟩) (by simpa [Addr.add] using h00), trivial⟩, fun j u hj => ?_⟩
    have hj1 : j < (zs.take len).length := (List.getElem?_eq_some_iff.1 hj).1
    have hj2 : zs[j]? = some u := by rwa [List.getElem?_take_of_lt (by omega)] at hj
    have := hcell j (by omega)
    rw [Addr.add_lit] at this
    rw [this]
    simp [List.getD, hj2]
theorem wide_wf {l : List Int} (h : Wide .u32 l) : wf l := by
  intro x hx
  have := h x hx
  simp only [Lit.wf, Bool.and_eq_true, decide_eq_true_eq] at this
  have e1 : IntKind.min .u32 = 0 := rfl
  have e2 : IntKind.max .u32 = 4294967295 := rfl
  rw [e1, e2] at this
  omega
/-- An integer of the suite, as an argument: any sign, any limbs. -/
theorem arg_iv {v : Value} {d : DataW H} {p : List MemPlace} {ts : List TypeId} {ds : List (DataW H)} {j : Nat} (hsz : (DataW.weightsEach Tryz.prog ts ds).all (· ≤ reachBytes) = true) (ht : ts[j]? = some 24) (hd : ds[j]? = some d)
    (hval : Value.okWide Tryz.prog W .any base 24 v) (h : DataW.Trod enc Tryz.prog W 0 (fun _ => true) true 24 v d p) : ∃ q l, wf l ∧ Rel W (fun _ b => b < W.heap.size ∧ True) (AV q l) v := by
  obtain ⟨v0, v1, y0, y1, n, rfl, rfl, rfl, h0, h1⟩ := open_agg2 Tryz.underlying24 (by kernel_rfl) (by kernel_rfl) hval h
  obtain ⟨b, hb0, rfl⟩ := DataW.trod_bool Tryz.underlying4 h0
  have hall : ∀ m ∈ y1.1.weights Tryz.prog 22, m ≤ reachBytes := fun m hm => by
    have := List.all_eq_true.1 hsz m (DataW.weights_mem_each ht hd m (by simp [DataW.weights, DataW.weightsEach, Tryz.underlying24, hm]))
    simpa using this
  obtain ⟨l, hl, hr⟩ := ints_rel Tryz.underlying22 Tryz.underlying71 (by kernel_rfl) (by decide +kernel) h1 hall
  simp at hb0
  subst hb0
  refine ⟨b, l, wide_wf hl, ?_⟩
  simp only [Rel, Rels] at hr ⊢
  exact ⟨[.bool b, v1], rfl, _, _, rfl, rfl, _, _, rfl, hr, rfl⟩
theorem min_lo (k : IntKind) : k.min = loK k ∧ k.max = hiK k := by cases k <;> exact ⟨rfl, rfl⟩
theorem arg_num {P : Program} {t : TypeId} {k : IntKind} {v : Value} {d : DataW H} {p : List MemPlace} (hu : P.underlying t = some (.int k)) (hval : Value.okWide P W .any base t v) (h : DataW.Trod enc P W 0 (fun _ => true) true t v d p) :
    ∃ n, (loK k ≤ n ∧ n ≤ hiK k) ∧ Rel W (fun _ b => b < W.heap.size ∧ True) (.v (.int k n)) v := by
  obtain ⟨n, rfl, _, _, hw⟩ := open_int hu hval h
  simp only [Lit.wf, Bool.and_eq_true, decide_eq_true_eq] at hw
  rw [(min_lo k).1, (min_lo k).2] at hw
  exact ⟨n, hw, by simp only [Rel]⟩
theorem arg_str {v : Value} {d : DataW H} {p : List MemPlace} (hval : Value.okWide Tryz.prog W .any base 9 v) (h : DataW.Trod enc Tryz.prog W 0 (fun _ => true) true 9 v d p) :
    ∃ s, Rel W (fun _ b => b < W.heap.size ∧ True) (.v (.string s)) v := by
  obtain ⟨s, rfl, _⟩ := Go.ChangeMaps.open_string Tryz.underlying9 hval h
  exact ⟨s, by simp only [Rel]⟩
theorem arg_ints {v : Value} {d : DataW H} {p : List MemPlace} {ts : List TypeId} {ds : List (DataW H)} {j : Nat} (hsz : (DataW.weightsEach Tryz.prog ts ds).all (· ≤ reachBytes) = true) (ht : ts[j]? = some 87) (hd : ds[j]? = some d)
    (hval : Value.okWide Tryz.prog W .any base 87 v) (h : DataW.Trod enc Tryz.prog W 0 (fun _ => true) true 87 v d p) : ∃ l, Wide .i64 l ∧ Rel W (fun _ b => b < W.heap.size ∧ True) (.si false .i64 l) v := by
  obtain ⟨fuel, hf⟩ := h
  obtain ⟨a0, len0, cap0, rfl⟩ := okWide_slice Tryz.underlying87 hval
  have hall : ∀ m ∈ d.weights Tryz.prog 87, m ≤ reachBytes := fun m hm => by
    have := List.all_eq_true.1 hsz m (DataW.weights_mem_each ht hd m hm)
    simpa using this
  exact ints_rel Tryz.underlying87 Tryz.underlying3 (by kernel_rfl) (by decide +kernel) (by simpa [Value.cells] using hf) hall
end
end Go.Av

set_option maxRecDepth 100000
set_option linter.unusedVariables false
set_option linter.unusedSimpArgs false
/-! A fraction as an argument of a row. -/
namespace Go.Av
open Go Go.Proofs Go.ChangeShapes Go.WideShapes Go.ChangeAt Go.RowKit Go.Joins
section
variable {H : Type} {enc : TypeId × Value → H} {W : World} {base : Nat}
theorem arr4 (T : Array Value) (h : T.size = 4) : ∃ a b c d : Value, T = #[a, b, c, d] := by
  obtain ⟨l⟩ := T
  simp only [List.size_toArray] at h
  match l, h with
  | [a, b, c, d], _ => exact ⟨a, b, c, d, rfl⟩
theorem arg_fr {v : Value} {d : DataW H} {p : List MemPlace} {ts : List TypeId} {ds : List (DataW H)} {j : Nat} (hsz : (DataW.weightsEach Tryz.prog ts ds).all (· ≤ reachBytes) = true) (ht : ts[j]? = some 26) (hd : ds[j]? = some d)
    (hval : Value.okWide Tryz.prog W .any base 26 v) (h : DataW.Trod enc Tryz.prog W 0 (fun _ => true) true 26 v d p) : ∃ q l r k, wf l ∧ wf k ∧ Rel W (fun _ b => b < W.heap.size ∧ True) (AF q l r k) v := by
  obtain ⟨cs, rfl, h4⟩ := okWide_struct Tryz.underlying26 hval
  have hc4 : Tryz.prog.cellsOf 26 = 4 := by kernel_rfl
  have hc2 : Tryz.prog.cellsOf 24 = 2 := by kernel_rfl
  have hb1 : Tryz.prog.cellsOf 4 = 1 := by kernel_rfl
  have hs1 : Tryz.prog.cellsOf 22 = 1 := by kernel_rfl
  obtain ⟨c0, c1, c2, c3, rfl⟩ := arr4 cs (h4.trans hc4)
  obtain ⟨fuel, hf⟩ := h
  obtain ⟨y0, y1, n, hx, _, h0, h1⟩ := trod_struct2 Tryz.underlying26 hf
  simp only [Prod.mk.injEq] at hx
  obtain ⟨rfl, rfl⟩ := hx
  obtain ⟨a0, a1, n0, hx0, _, h00, h01⟩ := trod_struct2 Tryz.underlying24 h0
  obtain ⟨b0, b1, n1, hx1, _, h10, h11⟩ := trod_struct2 Tryz.underlying24 h1
  simp only [hb1, hs1, hc2, Value.cells, List.drop_zero, List.take_succ_cons, List.take_zero, List.drop_succ_cons] at h00 h01 h10 h11
  obtain ⟨q, hq, rfl⟩ := DataW.trod_bool Tryz.underlying4 h00
  obtain ⟨r, hr, rfl⟩ := DataW.trod_bool Tryz.underlying4 h10
  have e0 : y0.1 = .agg [.lit (.bool q), a1.1] := by rw [hx0]
  have e1 : y1.1 = .agg [.lit (.bool r), b1.1] := by rw [hx1]
  rw [e0, e1] at hd
  have hall1 : ∀ m ∈ a1.1.weights Tryz.prog 22, m ≤ reachBytes := fun m hm => by
    have := List.all_eq_true.1 hsz m (DataW.weights_mem_each ht hd m (by simp [DataW.weights, DataW.weightsEach, Tryz.underlying26, Tryz.underlying24, hm]))
    simpa using this
  have hall2 : ∀ m ∈ b1.1.weights Tryz.prog 22, m ≤ reachBytes := fun m hm => by
    have := List.all_eq_true.1 hsz m (DataW.weights_mem_each ht hd m (by simp [DataW.weights, DataW.weightsEach, Tryz.underlying26, Tryz.underlying24, hm]))
    simpa using this
  obtain ⟨l, hl, hrl⟩ := ints_rel Tryz.underlying22 Tryz.underlying71 (by kernel_rfl) (by decide +kernel) h01 hall1
  obtain ⟨k, hk, hrk⟩ := ints_rel Tryz.underlying22 Tryz.underlying71 (by kernel_rfl) (by decide +kernel) h11 hall2
  simp at hq hr
  subst hq hr
  refine ⟨q, l, r, k, wide_wf hl, wide_wf hk, ?_⟩
  simp only [Rel, Rels] at hrl hrk ⊢
  exact ⟨[.bool q, c1, .bool r, c3], rfl, _, _, rfl, rfl, _, _, rfl, hrl, _, _, rfl, rfl, _, _, rfl, hrk, rfl⟩
end
end Go.Av

set_option maxHeartbeats 8000000
set_option exponentiation.threshold 100000
set_option maxRecDepth 100000
set_option linter.unusedVariables false
set_option linter.unusedSimpArgs false
namespace Go.Av
open Go Go.Proofs
/-! The reference of the fractions: times -/
theorem times3_c (a b : Nat) (hla : ln a < 2147483640) (hlb : ln b < 2147483640) : Con Tryz.prog 49 [M a, M b] (M (a * b)) := by
  refine con_of Tryz.func49 rfl rfl rfl rfl rfl ?_
  have la : ((limbs a).length : Int) = ln a := by rw [limbs_length]
  have lb : ((limbs b).length : Int) = ln b := by rw [limbs_length]
  repeat (first | refine seq_ ?_ | refine region_ ?_ | refine nil_ ?_ | refine block_ ?_ | refine stepY (y_assign rfl) rfl ?_)
  refine nil_C (i := 5) 71 .u32 rfl rfl rfl ?_
  refine loop_ (α := Nat) (fun k => ([(0, .p (M a)), (1, .p (M b)), (5, .vec 5), (6, .p (I k))], [(5, .vi 71 .u32 (List.replicate k 0))])) (fun k => k ≤ ln a + ln b) (fun k => ln a + ln b - k) 0 (Nat.zero_le _) ?_ ?_ ?_
  · (repeat (first | exact sub_nil | refine sub_cons rfl ?_))
  · (repeat (first | exact subH_nil | refine subH_cons rfl ?_))
  intro k hk
  have hlr : (List.replicate k (0 : Int)).length = k := List.length_replicate
  by_cases hlt : k < ln a + ln b
  · repeat (first | refine seq_ ?_ | refine region_ ?_ | refine nil_ ?_ | refine skip_ ?_ | refine block_ ?_ | refine cond_t rfl ?_ | refine stepY (y_move rfl) rfl ?_ | refine stepY (y_len_si rfl) rfl ?_ | refine stepY (y_binn rfl rfl rfl (by simp only [InK, loK, hiK]; omega)) rfl ?_ | refine stepY (y_cmpT rfl rfl rfl (by omega)) rfl ?_ | refine stepE (e_bs_vi (k := .u32) rfl rfl rfl rfl rfl) ?_)
    refine stepE (e_app_vi rfl rfl rfl (src_vi rfl rfl) (by simp only [List.length_cons, List.length_nil]; omega) rfl rfl) ?_
    rw [← List.replicate_succ']
    repeat (first | refine region_ ?_ | refine nil_ ?_ | refine stepY (y_move rfl) rfl ?_ | refine stepY (y_assign rfl) rfl ?_ | refine stepY (y_binn rfl rfl rfl (by simp only [InK, loK, hiK]; omega)) rfl ?_)
    refine ⟨k + 1, by omega, by omega, ?_, ?_⟩ <;> (repeat (first | exact sub_nil | exact subH_nil | refine sub_cons rfl ?_ | refine subH_cons rfl ?_))
  obtain rfl : k = ln a + ln b := by omega
  repeat (first | refine seq_ ?_ | refine region_ ?_ | refine nil_ ?_ | refine exit_ ?_ | refine block_ ?_ | refine cond_f rfl ?_ | refine stepY (y_move rfl) rfl ?_ | refine stepY (y_assign rfl) rfl ?_ | refine stepY (y_len_si rfl) rfl ?_ | refine stepY (y_binn rfl rfl rfl (by simp only [InK, loK, hiK]; omega)) rfl ?_ | refine stepY (y_cmpF rfl rfl rfl (by omega)) rfl ?_)
  refine loop_ (α := Nat × List Int) (fun y => ([(0, .p (M a)), (1, .p (M b)), (5, .vec 5), (7, .p (I y.1))], [(5, .vi 71 .u32 y.2)])) (fun y => y.1 ≤ ln b ∧ wf y.2 ∧ y.2.length = ln a + ln b ∧ val y.2 = (b % B ^ y.1) * a) (fun y => ln b - y.1) (0, List.replicate (ln a + ln b) 0) ⟨Nat.zero_le _, wf_zero _, by simp, by simp [val_zero, Nat.mod_one]⟩ ?_ ?_ ?_
  · (repeat (first | exact sub_nil | refine sub_cons rfl ?_))
  · (repeat (first | exact subH_nil | refine subH_cons rfl ?_))
  intro ⟨i, o⟩ ⟨hi, hw, hlo, hv⟩
  dsimp only at hi hw hlo hv ⊢
  by_cases hlt : i < ln b
  · have rb : rd (limbs b) (i : Int) = ((dg b i : Nat) : Int) := rd_limbs b (by omega)
    have rb2 := dg_bd b i
    repeat (first | refine seq_ ?_ | refine region_ ?_ | refine nil_ ?_ | refine skip_ ?_ | refine block_ ?_ | refine cond_t rfl ?_ | refine stepY (y_move rfl) rfl ?_ | refine stepY (y_assign rfl) rfl ?_ | refine stepY (y_len_si rfl) rfl ?_ | refine stepY (y_cmpT rfl rfl rfl (by omega)) rfl ?_)
    refine loop_ (α := Nat × Nat × List Int) (fun y => ([(0, .p (M a)), (1, .p (M b)), (5, .vec 5), (7, .p (I i)), (8, .p (UU y.2.1)), (9, .p (I y.1))], [(5, .vi 71 .u32 y.2.2)])) (fun y => y.1 ≤ ln a ∧ PS b a (ln a + ln b) i y.1 y.2.2 y.2.1 (ln a)) (fun y => ln a - y.1) (0, 0, o) ⟨Nat.zero_le _, PS.first hw hlo hv (lt_ln a)⟩ ?_ ?_ ?_
    · (repeat (first | exact sub_nil | refine sub_cons rfl ?_))
    · (repeat (first | exact subH_nil | refine subH_cons rfl ?_))
    intro ⟨k, c, q⟩ ⟨hk, hp⟩
    dsimp only at hk hp ⊢
    have hlq := hp.l
    by_cases hkl : k < ln a
    · have hs := hp.step (s := dg b i * dg a k + (q.getD (i + k) 0).toNat + c) hkl (by omega) rfl
      have hlim := hp.lim (by omega)
      have rk : rd (limbs a) (k : Int) = ((dg a k : Nat) : Int) := rd_limbs a (by omega)
      have rk' := dg_bd a k
      have hc := hp.c
      have hrd : rd q ((k : Int) + i) = q.getD (i + k) 0 := by unfold rd; rw [show ((k : Int) + i).toNat = i + k by omega]
      have hm0 : 0 ≤ rd (limbs b) i ∧ rd (limbs b) i < 4294967296 := by rw [rb]; exact rb2
      have hm1 : rd (limbs a) k * rd (limbs b) i = ((dg b i * dg a k : Nat) : Int) := by rw [rb, rk, Int.mul_comm]; simp
      have hm2 : 0 ≤ rd (limbs a) k ∧ rd (limbs a) k < 4294967296 := by rw [rk]; exact rk'
      have hm3 : 0 ≤ rd q ((k : Int) + i) ∧ rd q ((k : Int) + i) < 4294967296 := by rw [hrd]; exact hlim.2
      generalize hP : dg b i * dg a k = p at *
      repeat (first | refine seq_ ?_ | refine region_ ?_ | refine nil_ ?_ | refine skip_ ?_ | refine block_ ?_ | refine cond_t rfl ?_ | refine stepY (y_move rfl) rfl ?_ | refine stepY (y_len_si rfl) rfl ?_ | refine stepY (y_cmpT rfl rfl rfl (by omega)) rfl ?_)
      refine draw_ [(0, true), (1, true), (2, true), (3, true), (4, true), (5, true), (6, true), (7, true), (8, true), (9, true), (10, true), (11, true), (12, true), (13, true), (14, true), (15, true), (16, true), (17, true), (18, true), (19, true), (20, true), (21, true)] 1000 [5] mixed (by kernel_rfl) rfl ?_
      ((refine dY rfl (y_move rfl) rfl rfl rfl rfl ?_); refine dY rfl (y_move rfl) rfl rfl rfl rfl ?_; refine dY rfl (y_move rfl) rfl rfl rfl rfl ?_; refine dY rfl (y_index_si rfl rfl (by omega) (by omega)) rfl rfl rfl rfl ?_; refine dY rfl (y_load_rc1 rfl rfl) rfl rfl rfl rfl ?_; refine dY rfl (y_convn rfl (by simp only [InK, loK, hiK]; omega)) rfl rfl rfl rfl ?_; refine dY rfl (y_move rfl) rfl rfl rfl rfl ?_; refine dY rfl (y_move rfl) rfl rfl rfl rfl ?_; refine dY rfl (y_index_si rfl rfl (by omega) (by omega)) rfl rfl rfl rfl ?_; refine dY rfl (y_load_rc1 rfl rfl) rfl rfl rfl rfl ?_; refine dY rfl (y_convn rfl (by simp only [InK, loK, hiK]; omega)) rfl rfl rfl rfl ?_; refine dY rfl (y_binn rfl rfl rfl (by simp only [InK, loK, hiK]; omega)) rfl rfl rfl rfl ?_; refine dY rfl (y_binn rfl rfl rfl (by simp only [InK, loK, hiK]; omega)) rfl rfl rfl rfl ?_; refine dY rfl (y_move rfl) rfl rfl rfl rfl ?_; refine dY rfl (y_move rfl) rfl rfl rfl rfl ?_; refine dY rfl (y_move rfl) rfl rfl rfl rfl ?_; refine dY rfl (y_binn rfl rfl rfl (by simp only [InK, loK, hiK]; omega)) rfl rfl rfl rfl ?_; refine dY rfl (y_index_vi rfl rfl rfl (by omega) (by omega)) rfl rfl rfl rfl ?_; refine dY rfl (y_load_vi rfl rfl (by omega) (by omega)) rfl rfl rfl rfl ?_; refine dY rfl (y_convn rfl (by simp only [InK, loK, hiK]; omega)) rfl rfl rfl rfl ?_; refine dY rfl (y_binn rfl rfl rfl (by simp only [InK, loK, hiK]; omega)) rfl rfl rfl rfl ?_; refine dY rfl (y_assign rfl) rfl rfl rfl rfl ?_; refine dEnd ?_)
      have e1 : ((c : Int) + rd (limbs a) k * rd (limbs b) i + rd q ((k : Int) + i)) = ((p + (q.getD (i + k) 0).toNat + c : Nat) : Int) := by rw [hm1, hrd]; omega
      rw [e1]
      have hlim1 := hlim.1
      repeat (first | refine seq_ ?_ | refine region_ ?_ | refine nil_ ?_ | refine stepY (y_move rfl) rfl ?_ | refine stepY (y_assign rfl) rfl ?_ | refine stepY (y_convn rfl (by simp only [InK, loK, hiK]; omega)) rfl ?_ | refine stepY (y_index_vi rfl rfl rfl (by omega) (by omega)) rfl ?_ | refine stepY (y_binn rfl rfl rfl (by simp only [InK, loK, hiK]; omega)) rfl ?_ | refine stepY (y_quop rfl rfl (by omega) (by omega) (by simp only [InK, loK, hiK]; omega)) rfl ?_ | refine stepY (y_remp rfl rfl (by omega) (by omega)) rfl ?_ | refine stepE (e_store_vi rfl rfl rfl (by omega) (by omega)) ?_)
      rw [show ((k : Int) + i).toNat = i + k by omega]
      refine ⟨(k + 1, (p + (q.getD (i + k) 0).toNat + c) / B, q.set (i + k) (((p + (q.getD (i + k) 0).toNat + c) % B : Nat) : Int)), ⟨by omega, hs⟩, by dsimp only; omega, ?_, ?_⟩ <;> (repeat (first | exact sub_nil | exact subH_nil | refine sub_cons rfl ?_ | refine subH_cons rfl ?_))
    · obtain rfl : k = ln a := by omega
      have hl := hp.last (lt_ln a) (by omega)
      have hc := hp.c
      unfold B at hc
      repeat (first | refine seq_ ?_ | refine region_ ?_ | refine nil_ ?_ | refine exit_ ?_ | refine cond_f rfl ?_ | refine stepY (y_move rfl) rfl ?_ | refine stepY (y_assign rfl) rfl ?_ | refine stepY (y_len_si rfl) rfl ?_ | refine stepY (y_convn rfl (by simp only [InK, loK, hiK]; omega)) rfl ?_ | refine stepY (y_index_vi rfl rfl rfl (by omega) (by omega)) rfl ?_ | refine stepY (y_binn rfl rfl rfl (by simp only [InK, loK, hiK]; omega)) rfl ?_ | refine stepY (y_cmpF rfl rfl rfl (by omega)) rfl ?_ | refine stepE (e_store_vi rfl rfl rfl (by omega) (by omega)) ?_)
      rw [show (((limbs a).length : Int) + (i : Int)).toNat = i + ln a by rw [la]; omega]
      refine ⟨(i + 1, q.set (i + ln a) (c : Int)), ⟨by omega, hl⟩, by dsimp only; omega, ?_, ?_⟩ <;> (repeat (first | exact sub_nil | exact subH_nil | refine sub_cons rfl ?_ | refine subH_cons rfl ?_))
  · obtain rfl : i = ln b := by omega
    rw [Nat.mod_eq_of_lt (lt_ln b)] at hv
    have ht := trim3_c o hw (by omega)
    rw [hv, Nat.mul_comm] at ht
    repeat (first | refine seq_ ?_ | refine region_ ?_ | refine nil_ ?_ | refine exit_ ?_ | refine cond_f rfl ?_ | refine stepY (y_move rfl) rfl ?_ | refine stepY (y_len_si rfl) rfl ?_ | refine stepY (y_cmpF rfl rfl rfl (by omega)) rfl ?_)
    refine seal_L (i := 73) (h := 5) rfl rfl rfl rfl ?_
    refine call_ Tryz.func91 rfl rfl (ht) rfl (by repeat (first | exact .tag _ _ | apply Les.cons | exact .nil)) rfl ?_
    repeat (first | refine nil_ ?_ | refine ret_ ?_ | refine stepY (y_assign rfl) rfl ?_)
    ((apply fin_r); (repeat (first | exact .nil | exact .tmp rfl | apply ResL.cons)); (repeat (exact .refl _)))
end Go.Av

set_option maxHeartbeats 8000000
set_option exponentiation.threshold 100000
set_option maxRecDepth 100000
set_option linter.unusedVariables false
set_option linter.unusedSimpArgs false
namespace Go.Av
open Go Go.Proofs
/-! The reference of the fractions: the four operations, Cmp, Floor, Round -/
theorem RFAdd_e (p p' : Bool) (l l' : List Int) (q q' : Bool) (k k' : List Int) (hl : wf l) (hk : wf k) (hl' : wf l') (hk' : wf k') (h : (vldF p l q k && vldF p' l' q' k') = false) : Con Tryz.prog 25 [AF p l q k, AF p' l' q' k'] (.tp [ZM, E_ 1]) := by
  refine con_of Tryz.func25 rfl rfl rfl rfl rfl ?_
  have hv := RFValid_c p l q k hl hk
  have hv2 := RFValid_c p' l' q' k' hl' hk'
  cases h1 : vldF p l q k with
  | false =>
    rw [h1] at hv
    repeat (first | refine seq_ ?_ | refine region_ ?_ | refine nil_ ?_ | refine stepY (y_assign rfl) rfl ?_ | refine stepY (y_loadA rfl rfl rfl) rfl ?_ | refine stepE (e_box rfl rfl rfl rfl rfl rfl) ?_ | refine stepE (e_alloc rfl rfl rfl) ?_)
    refine call_ Tryz.func20 rfl rfl (hv) rfl (by repeat (first | exact .refl _ | apply Les.cons | exact .nil)) rfl ?_
    repeat (first | refine seq_ ?_ | refine region_ ?_ | refine nil_ ?_ | refine ret_ ?_ | refine cond_t rfl ?_ | refine guard_f rfl rfl rfl rfl ?_ | refine stepY (y_move rfl) rfl ?_ | refine stepY (y_assign rfl) rfl ?_ | refine stepY (y_not rfl) rfl ?_ | refine stepY (y_pick_t rfl rfl) rfl ?_ | refine stepY (y_build rfl rfl rfl) rfl ?_ | refine stepE (e_store rfl rfl rfl rfl rfl rfl rfl) ?_)
    ((apply fin_r); (repeat (first | exact .nil | exact .tmp rfl | exact .agg rfl rfl rfl | apply ResL.cons)); (repeat (first | exact .refl _ | exact .nil _ _ | apply Le.ag | apply Le.tp | apply Les.cons | exact .nil)))
  | true =>
    rw [h1, Bool.true_and] at h
    rw [h1] at hv
    rw [h] at hv2
    repeat (first | refine seq_ ?_ | refine region_ ?_ | refine nil_ ?_ | refine stepY (y_assign rfl) rfl ?_ | refine stepY (y_loadA rfl rfl rfl) rfl ?_ | refine stepE (e_box rfl rfl rfl rfl rfl rfl) ?_ | refine stepE (e_alloc rfl rfl rfl) ?_)
    refine call_ Tryz.func20 rfl rfl (hv) rfl (by repeat (first | exact .refl _ | apply Les.cons | exact .nil)) rfl ?_
    repeat (first | refine guard_t rfl rfl rfl ?_ | refine stepY (y_move rfl) rfl ?_ | refine stepY (y_loadA rfl rfl rfl) rfl ?_ | refine stepY (y_not rfl) rfl ?_)
    refine call_ Tryz.func20 rfl rfl (hv2) rfl (by repeat (first | exact .refl _ | apply Les.cons | exact .nil)) rfl ?_
    repeat (first | refine seq_ ?_ | refine region_ ?_ | refine nil_ ?_ | refine ret_ ?_ | refine cond_t rfl ?_ | refine guard_t rfl rfl rfl ?_ | refine stepY (y_assign rfl) rfl ?_ | refine stepY (y_not rfl) rfl ?_ | refine stepY (y_pick_f rfl rfl) rfl ?_ | refine stepY (y_build rfl rfl rfl) rfl ?_ | refine stepE (e_store rfl rfl rfl rfl rfl rfl rfl) ?_)
    ((apply fin_r); (repeat (first | exact .nil | exact .tmp rfl | exact .agg rfl rfl rfl | apply ResL.cons)); (repeat (first | exact .refl _ | exact .nil _ _ | apply Le.ag | apply Le.tp | apply Les.cons | exact .nil)))
theorem RFSub_e (p p' : Bool) (l l' : List Int) (q q' : Bool) (k k' : List Int) (hl : wf l) (hk : wf k) (hl' : wf l') (hk' : wf k') (h : (vldF p l q k && vldF p' l' q' k') = false) : Con Tryz.prog 27 [AF p l q k, AF p' l' q' k'] (.tp [ZM, E_ 1]) := by
  refine con_of Tryz.func27 rfl rfl rfl rfl rfl ?_
  have hv := RFValid_c p l q k hl hk
  have hv2 := RFValid_c p' l' q' k' hl' hk'
  cases h1 : vldF p l q k with
  | false =>
    rw [h1] at hv
    repeat (first | refine seq_ ?_ | refine region_ ?_ | refine nil_ ?_ | refine stepY (y_assign rfl) rfl ?_ | refine stepY (y_loadA rfl rfl rfl) rfl ?_ | refine stepE (e_box rfl rfl rfl rfl rfl rfl) ?_ | refine stepE (e_alloc rfl rfl rfl) ?_)
    refine call_ Tryz.func20 rfl rfl (hv) rfl (by repeat (first | exact .refl _ | apply Les.cons | exact .nil)) rfl ?_
    repeat (first | refine seq_ ?_ | refine region_ ?_ | refine nil_ ?_ | refine ret_ ?_ | refine cond_t rfl ?_ | refine guard_f rfl rfl rfl rfl ?_ | refine stepY (y_move rfl) rfl ?_ | refine stepY (y_assign rfl) rfl ?_ | refine stepY (y_not rfl) rfl ?_ | refine stepY (y_pick_t rfl rfl) rfl ?_ | refine stepY (y_build rfl rfl rfl) rfl ?_ | refine stepE (e_store rfl rfl rfl rfl rfl rfl rfl) ?_)
    ((apply fin_r); (repeat (first | exact .nil | exact .tmp rfl | exact .agg rfl rfl rfl | apply ResL.cons)); (repeat (first | exact .refl _ | exact .nil _ _ | apply Le.ag | apply Le.tp | apply Les.cons | exact .nil)))
  | true =>
    rw [h1, Bool.true_and] at h
    rw [h1] at hv
    rw [h] at hv2
    repeat (first | refine seq_ ?_ | refine region_ ?_ | refine nil_ ?_ | refine stepY (y_assign rfl) rfl ?_ | refine stepY (y_loadA rfl rfl rfl) rfl ?_ | refine stepE (e_box rfl rfl rfl rfl rfl rfl) ?_ | refine stepE (e_alloc rfl rfl rfl) ?_)
    refine call_ Tryz.func20 rfl rfl (hv) rfl (by repeat (first | exact .refl _ | apply Les.cons | exact .nil)) rfl ?_
    repeat (first | refine guard_t rfl rfl rfl ?_ | refine stepY (y_move rfl) rfl ?_ | refine stepY (y_loadA rfl rfl rfl) rfl ?_ | refine stepY (y_not rfl) rfl ?_)
    refine call_ Tryz.func20 rfl rfl (hv2) rfl (by repeat (first | exact .refl _ | apply Les.cons | exact .nil)) rfl ?_
    repeat (first | refine seq_ ?_ | refine region_ ?_ | refine nil_ ?_ | refine ret_ ?_ | refine cond_t rfl ?_ | refine guard_t rfl rfl rfl ?_ | refine stepY (y_assign rfl) rfl ?_ | refine stepY (y_not rfl) rfl ?_ | refine stepY (y_pick_f rfl rfl) rfl ?_ | refine stepY (y_build rfl rfl rfl) rfl ?_ | refine stepE (e_store rfl rfl rfl rfl rfl rfl rfl) ?_)
    ((apply fin_r); (repeat (first | exact .nil | exact .tmp rfl | exact .agg rfl rfl rfl | apply ResL.cons)); (repeat (first | exact .refl _ | exact .nil _ _ | apply Le.ag | apply Le.tp | apply Les.cons | exact .nil)))
theorem RFMul_e (p p' : Bool) (l l' : List Int) (q q' : Bool) (k k' : List Int) (hl : wf l) (hk : wf k) (hl' : wf l') (hk' : wf k') (h : (vldF p l q k && vldF p' l' q' k') = false) : Con Tryz.prog 12 [AF p l q k, AF p' l' q' k'] (.tp [ZM, E_ 1]) := by
  refine con_of Tryz.func12 rfl rfl rfl rfl rfl ?_
  have hv := RFValid_c p l q k hl hk
  have hv2 := RFValid_c p' l' q' k' hl' hk'
  cases h1 : vldF p l q k with
  | false =>
    rw [h1] at hv
    repeat (first | refine seq_ ?_ | refine region_ ?_ | refine nil_ ?_ | refine stepY (y_assign rfl) rfl ?_ | refine stepY (y_loadA rfl rfl rfl) rfl ?_ | refine stepE (e_box rfl rfl rfl rfl rfl rfl) ?_ | refine stepE (e_alloc rfl rfl rfl) ?_)
    refine call_ Tryz.func20 rfl rfl (hv) rfl (by repeat (first | exact .refl _ | apply Les.cons | exact .nil)) rfl ?_
    repeat (first | refine seq_ ?_ | refine region_ ?_ | refine nil_ ?_ | refine ret_ ?_ | refine cond_t rfl ?_ | refine guard_f rfl rfl rfl rfl ?_ | refine stepY (y_move rfl) rfl ?_ | refine stepY (y_assign rfl) rfl ?_ | refine stepY (y_not rfl) rfl ?_ | refine stepY (y_pick_t rfl rfl) rfl ?_ | refine stepY (y_build rfl rfl rfl) rfl ?_ | refine stepE (e_store rfl rfl rfl rfl rfl rfl rfl) ?_)
    ((apply fin_r); (repeat (first | exact .nil | exact .tmp rfl | exact .agg rfl rfl rfl | apply ResL.cons)); (repeat (first | exact .refl _ | exact .nil _ _ | apply Le.ag | apply Le.tp | apply Les.cons | exact .nil)))
  | true =>
    rw [h1, Bool.true_and] at h
    rw [h1] at hv
    rw [h] at hv2
    repeat (first | refine seq_ ?_ | refine region_ ?_ | refine nil_ ?_ | refine stepY (y_assign rfl) rfl ?_ | refine stepY (y_loadA rfl rfl rfl) rfl ?_ | refine stepE (e_box rfl rfl rfl rfl rfl rfl) ?_ | refine stepE (e_alloc rfl rfl rfl) ?_)
    refine call_ Tryz.func20 rfl rfl (hv) rfl (by repeat (first | exact .refl _ | apply Les.cons | exact .nil)) rfl ?_
    repeat (first | refine guard_t rfl rfl rfl ?_ | refine stepY (y_move rfl) rfl ?_ | refine stepY (y_loadA rfl rfl rfl) rfl ?_ | refine stepY (y_not rfl) rfl ?_)
    refine call_ Tryz.func20 rfl rfl (hv2) rfl (by repeat (first | exact .refl _ | apply Les.cons | exact .nil)) rfl ?_
    repeat (first | refine seq_ ?_ | refine region_ ?_ | refine nil_ ?_ | refine ret_ ?_ | refine cond_t rfl ?_ | refine guard_t rfl rfl rfl ?_ | refine stepY (y_assign rfl) rfl ?_ | refine stepY (y_not rfl) rfl ?_ | refine stepY (y_pick_f rfl rfl) rfl ?_ | refine stepY (y_build rfl rfl rfl) rfl ?_ | refine stepE (e_store rfl rfl rfl rfl rfl rfl rfl) ?_)
    ((apply fin_r); (repeat (first | exact .nil | exact .tmp rfl | exact .agg rfl rfl rfl | apply ResL.cons)); (repeat (first | exact .refl _ | exact .nil _ _ | apply Le.ag | apply Le.tp | apply Les.cons | exact .nil)))
theorem RFDiv_e (p p' : Bool) (l l' : List Int) (q q' : Bool) (k k' : List Int) (hl : wf l) (hk : wf k) (hl' : wf l') (hk' : wf k') (h : (vldF p l q k && vldF p' l' q' k') = false) : Con Tryz.prog 14 [AF p l q k, AF p' l' q' k'] (.tp [ZM, E_ 1]) := by
  refine con_of Tryz.func14 rfl rfl rfl rfl rfl ?_
  have hv := RFValid_c p l q k hl hk
  have hv2 := RFValid_c p' l' q' k' hl' hk'
  cases h1 : vldF p l q k with
  | false =>
    rw [h1] at hv
    repeat (first | refine seq_ ?_ | refine region_ ?_ | refine nil_ ?_ | refine stepY (y_assign rfl) rfl ?_ | refine stepY (y_loadA rfl rfl rfl) rfl ?_ | refine stepE (e_box rfl rfl rfl rfl rfl rfl) ?_ | refine stepE (e_alloc rfl rfl rfl) ?_)
    refine call_ Tryz.func20 rfl rfl (hv) rfl (by repeat (first | exact .refl _ | apply Les.cons | exact .nil)) rfl ?_
    repeat (first | refine seq_ ?_ | refine region_ ?_ | refine nil_ ?_ | refine ret_ ?_ | refine cond_t rfl ?_ | refine guard_f rfl rfl rfl rfl ?_ | refine stepY (y_move rfl) rfl ?_ | refine stepY (y_assign rfl) rfl ?_ | refine stepY (y_not rfl) rfl ?_ | refine stepY (y_pick_t rfl rfl) rfl ?_ | refine stepY (y_build rfl rfl rfl) rfl ?_ | refine stepE (e_store rfl rfl rfl rfl rfl rfl rfl) ?_)
    ((apply fin_r); (repeat (first | exact .nil | exact .tmp rfl | exact .agg rfl rfl rfl | apply ResL.cons)); (repeat (first | exact .refl _ | exact .nil _ _ | apply Le.ag | apply Le.tp | apply Les.cons | exact .nil)))
  | true =>
    rw [h1, Bool.true_and] at h
    rw [h1] at hv
    rw [h] at hv2
    repeat (first | refine seq_ ?_ | refine region_ ?_ | refine nil_ ?_ | refine stepY (y_assign rfl) rfl ?_ | refine stepY (y_loadA rfl rfl rfl) rfl ?_ | refine stepE (e_box rfl rfl rfl rfl rfl rfl) ?_ | refine stepE (e_alloc rfl rfl rfl) ?_)
    refine call_ Tryz.func20 rfl rfl (hv) rfl (by repeat (first | exact .refl _ | apply Les.cons | exact .nil)) rfl ?_
    repeat (first | refine guard_t rfl rfl rfl ?_ | refine stepY (y_move rfl) rfl ?_ | refine stepY (y_loadA rfl rfl rfl) rfl ?_ | refine stepY (y_not rfl) rfl ?_)
    refine call_ Tryz.func20 rfl rfl (hv2) rfl (by repeat (first | exact .refl _ | apply Les.cons | exact .nil)) rfl ?_
    repeat (first | refine seq_ ?_ | refine region_ ?_ | refine nil_ ?_ | refine ret_ ?_ | refine cond_t rfl ?_ | refine guard_t rfl rfl rfl ?_ | refine stepY (y_assign rfl) rfl ?_ | refine stepY (y_not rfl) rfl ?_ | refine stepY (y_pick_f rfl rfl) rfl ?_ | refine stepY (y_build rfl rfl rfl) rfl ?_ | refine stepE (e_store rfl rfl rfl rfl rfl rfl rfl) ?_)
    ((apply fin_r); (repeat (first | exact .nil | exact .tmp rfl | exact .agg rfl rfl rfl | apply ResL.cons)); (repeat (first | exact .refl _ | exact .nil _ _ | apply Le.ag | apply Le.tp | apply Les.cons | exact .nil)))
theorem RFCmp_e (p p' : Bool) (l l' : List Int) (q q' : Bool) (k k' : List Int) (hl : wf l) (hk : wf k) (hl' : wf l') (hk' : wf k') (h : (vldF p l q k && vldF p' l' q' k') = false) : Con Tryz.prog 29 [AF p l q k, AF p' l' q' k'] (.tp [I 0, E_ 1]) := by
  refine con_of Tryz.func29 rfl rfl rfl rfl rfl ?_
  have hv := RFValid_c p l q k hl hk
  have hv2 := RFValid_c p' l' q' k' hl' hk'
  cases h1 : vldF p l q k with
  | false =>
    rw [h1] at hv
    repeat (first | refine seq_ ?_ | refine region_ ?_ | refine nil_ ?_ | refine stepY (y_assign rfl) rfl ?_ | refine stepY (y_loadA rfl rfl rfl) rfl ?_ | refine stepE (e_box rfl rfl rfl rfl rfl rfl) ?_)
    refine call_ Tryz.func20 rfl rfl (hv) rfl (by repeat (first | exact .refl _ | apply Les.cons | exact .nil)) rfl ?_
    repeat (first | refine seq_ ?_ | refine region_ ?_ | refine nil_ ?_ | refine ret_ ?_ | refine cond_t rfl ?_ | refine guard_f rfl rfl rfl rfl ?_ | refine stepY (y_move rfl) rfl ?_ | refine stepY (y_assign rfl) rfl ?_ | refine stepY (y_not rfl) rfl ?_ | refine stepY (y_pick_t rfl rfl) rfl ?_)
    ((apply fin_r); (repeat (first | exact .nil | exact .tmp rfl | apply ResL.cons)); (repeat (exact .refl _)))
  | true =>
    rw [h1, Bool.true_and] at h
    rw [h1] at hv
    rw [h] at hv2
    repeat (first | refine seq_ ?_ | refine region_ ?_ | refine nil_ ?_ | refine stepY (y_assign rfl) rfl ?_ | refine stepY (y_loadA rfl rfl rfl) rfl ?_ | refine stepE (e_box rfl rfl rfl rfl rfl rfl) ?_)
    refine call_ Tryz.func20 rfl rfl (hv) rfl (by repeat (first | exact .refl _ | apply Les.cons | exact .nil)) rfl ?_
    repeat (first | refine guard_t rfl rfl rfl ?_ | refine stepY (y_move rfl) rfl ?_ | refine stepY (y_loadA rfl rfl rfl) rfl ?_ | refine stepY (y_not rfl) rfl ?_)
    refine call_ Tryz.func20 rfl rfl (hv2) rfl (by repeat (first | exact .refl _ | apply Les.cons | exact .nil)) rfl ?_
    repeat (first | refine seq_ ?_ | refine region_ ?_ | refine nil_ ?_ | refine ret_ ?_ | refine cond_t rfl ?_ | refine guard_t rfl rfl rfl ?_ | refine stepY (y_assign rfl) rfl ?_ | refine stepY (y_not rfl) rfl ?_ | refine stepY (y_pick_f rfl rfl) rfl ?_)
    ((apply fin_r); (repeat (first | exact .nil | exact .tmp rfl | apply ResL.cons)); (repeat (exact .refl _)))
theorem RFv_t {p : Bool} {m d : Nat} (h : vG p m d) : Con Tryz.prog 20 [GF p m d] (Bo true) := by
  have hv := RFValid_c p (limbs m) false (limbs d) (wf_limbs _) (wf_limbs _)
  unfold vG at h
  rwa [h] at hv
theorem bne_dec (p q : Bool) : decide (p ≠ q) = (p != q) := by cases p <;> cases q <;> rfl
theorem RFMul_g (p p' : Bool) (m m' d d' : Nat) (h : vG p m d) (h' : vG p' m' d') : Con Tryz.prog 12 [GF p m d, GF p' m' d'] (resM (mkRat (sgn p m) d * mkRat (sgn p' m') d')) := by
  have hv := RFv_t h
  have hv2 := RFv_t h'
  obtain ⟨b1, b2, b3, b4, b5, b6⟩ := vG_bd h
  obtain ⟨c1, c2, c3, c4, c5, c6⟩ := vG_bd h'
  have ht1 := times3_c m m' (by omega) (by omega)
  have ht2 := times3_c d d' (by omega) (by omega)
  have hr := made3_c (p != p') (m * m') (d * d') (Nat.mul_pos b3 c3) (by have := ln_mul b1 c1; omega) (by have := ln_mul b2 c2; omega)
  rw [sgn_mul, ← Rat.mkRat_mul_mkRat, ← bne_dec] at hr
  generalize mkRat (sgn p m) d * mkRat (sgn p' m') d' = x at *
  by_cases hok : okQ x
  · rw [resM_ok hok] at *
    refine con_of Tryz.func12 rfl rfl rfl rfl rfl ?_
    repeat (first | refine seq_ ?_ | refine region_ ?_ | refine nil_ ?_ | refine stepY (y_assign rfl) rfl ?_ | refine stepY (y_loadA rfl rfl rfl) rfl ?_ | refine stepE (e_box rfl rfl rfl rfl rfl rfl) ?_ | refine stepE (e_alloc rfl rfl rfl) ?_)
    refine call_ Tryz.func20 rfl rfl (hv) rfl (by repeat (first | exact .refl _ | apply Les.cons | exact .nil)) rfl ?_
    repeat (first | refine guard_t rfl rfl rfl ?_ | refine stepY (y_move rfl) rfl ?_ | refine stepY (y_loadA rfl rfl rfl) rfl ?_ | refine stepY (y_not rfl) rfl ?_)
    refine call_ Tryz.func20 rfl rfl (hv2) rfl (by repeat (first | exact .refl _ | apply Les.cons | exact .nil)) rfl ?_
    repeat (first | refine seq_ ?_ | refine nil_ ?_ | refine skip_ ?_ | refine cond_f rfl ?_ | refine guard_t rfl rfl rfl ?_ | refine stepY (y_not rfl) rfl ?_ | refine stepY (y_pick_f rfl rfl) rfl ?_)
    refine draw_ [(0, true), (1, true), (2, true), (3, true), (4, true), (5, true), (6, true), (7, true), (8, true), (9, true), (10, true), (11, true), (12, true), (14, true), (15, true), (16, true), (17, true), (18, true), (19, true), (13, false), (20, false), (21, false), (22, true), (23, true), (24, false), (25, true)] 1000 [2, 3] mixed (by kernel_rfl) rfl ?_
    ((refine dY rfl (y_fieldAddr rfl) rfl rfl rfl rfl ?_); refine dY rfl (y_fieldAddr rfl) rfl rfl rfl rfl ?_; refine dY rfl (y_load1 rfl rfl rfl) rfl rfl rfl rfl ?_; refine dY rfl (y_fieldAddr rfl) rfl rfl rfl rfl ?_; refine dY rfl (y_fieldAddr rfl) rfl rfl rfl rfl ?_; refine dY rfl (y_load1 rfl rfl rfl) rfl rfl rfl rfl ?_; refine dY rfl (y_neb rfl rfl) rfl rfl rfl rfl ?_; refine dY rfl (y_fieldAddr rfl) rfl rfl rfl rfl ?_; refine dY rfl (y_fieldAddr rfl) rfl rfl rfl rfl ?_; refine dY rfl (y_load1 rfl rfl rfl) rfl rfl rfl rfl ?_; refine dY rfl (y_fieldAddr rfl) rfl rfl rfl rfl ?_; refine dY rfl (y_fieldAddr rfl) rfl rfl rfl rfl ?_; refine dY rfl (y_load1 rfl rfl rfl) rfl rfl rfl rfl ?_; refine dY rfl (y_fieldAddr rfl) rfl rfl rfl rfl ?_; refine dY rfl (y_fieldAddr rfl) rfl rfl rfl rfl ?_; refine dY rfl (y_load1 rfl rfl rfl) rfl rfl rfl rfl ?_; refine dY rfl (y_fieldAddr rfl) rfl rfl rfl rfl ?_; refine dY rfl (y_fieldAddr rfl) rfl rfl rfl rfl ?_; refine dY rfl (y_load1 rfl rfl rfl) rfl rfl rfl rfl ?_)
    refine dC rfl Tryz.func49 rfl rfl (ht1) rfl (by repeat (first | exact .refl _ | apply Les.cons | exact .nil)) rfl rfl ?_
    skip
    refine dC rfl Tryz.func49 rfl rfl (ht2) rfl (by repeat (first | exact .refl _ | apply Les.cons | exact .nil)) rfl rfl ?_
    skip
    refine dC rfl Tryz.func48 rfl rfl (hr) rfl (by repeat (first | exact .refl _ | apply Les.cons | exact .nil)) rfl rfl ?_
    ((refine dY rfl (y_extract rfl rfl) rfl rfl rfl rfl ?_); refine dY rfl (y_extract rfl rfl) rfl rfl rfl rfl ?_; (refine dE rfl (e_store rfl rfl rfl rfl rfl rfl rfl) rfl rfl ?_); refine dY rfl (y_assign rfl) rfl rfl rfl rfl ?_; refine dEnd ?_)
    repeat (refine ret_ ?_)
    ((apply fin_r); (repeat (first | exact .nil | exact .tmp rfl | exact .agg rfl rfl rfl | apply ResL.cons)); (repeat (exact .refl _)))
  · rw [resM_no hok] at *
    refine con_of Tryz.func12 rfl rfl rfl rfl rfl ?_
    repeat (first | refine seq_ ?_ | refine region_ ?_ | refine nil_ ?_ | refine stepY (y_assign rfl) rfl ?_ | refine stepY (y_loadA rfl rfl rfl) rfl ?_ | refine stepE (e_box rfl rfl rfl rfl rfl rfl) ?_ | refine stepE (e_alloc rfl rfl rfl) ?_)
    refine call_ Tryz.func20 rfl rfl (hv) rfl (by repeat (first | exact .refl _ | apply Les.cons | exact .nil)) rfl ?_
    repeat (first | refine guard_t rfl rfl rfl ?_ | refine stepY (y_move rfl) rfl ?_ | refine stepY (y_loadA rfl rfl rfl) rfl ?_ | refine stepY (y_not rfl) rfl ?_)
    refine call_ Tryz.func20 rfl rfl (hv2) rfl (by repeat (first | exact .refl _ | apply Les.cons | exact .nil)) rfl ?_
    repeat (first | refine seq_ ?_ | refine nil_ ?_ | refine skip_ ?_ | refine cond_f rfl ?_ | refine guard_t rfl rfl rfl ?_ | refine stepY (y_not rfl) rfl ?_ | refine stepY (y_pick_f rfl rfl) rfl ?_)
    refine draw_ [(0, true), (1, true), (2, true), (3, true), (4, true), (5, true), (6, true), (7, true), (8, true), (9, true), (10, true), (11, true), (12, true), (14, true), (15, true), (16, true), (17, true), (18, true), (19, true), (13, false), (20, false), (21, false), (22, true), (23, true), (24, false), (25, true)] 1000 [2, 3] mixed (by kernel_rfl) rfl ?_
    ((refine dY rfl (y_fieldAddr rfl) rfl rfl rfl rfl ?_); refine dY rfl (y_fieldAddr rfl) rfl rfl rfl rfl ?_; refine dY rfl (y_load1 rfl rfl rfl) rfl rfl rfl rfl ?_; refine dY rfl (y_fieldAddr rfl) rfl rfl rfl rfl ?_; refine dY rfl (y_fieldAddr rfl) rfl rfl rfl rfl ?_; refine dY rfl (y_load1 rfl rfl rfl) rfl rfl rfl rfl ?_; refine dY rfl (y_neb rfl rfl) rfl rfl rfl rfl ?_; refine dY rfl (y_fieldAddr rfl) rfl rfl rfl rfl ?_; refine dY rfl (y_fieldAddr rfl) rfl rfl rfl rfl ?_; refine dY rfl (y_load1 rfl rfl rfl) rfl rfl rfl rfl ?_; refine dY rfl (y_fieldAddr rfl) rfl rfl rfl rfl ?_; refine dY rfl (y_fieldAddr rfl) rfl rfl rfl rfl ?_; refine dY rfl (y_load1 rfl rfl rfl) rfl rfl rfl rfl ?_; refine dY rfl (y_fieldAddr rfl) rfl rfl rfl rfl ?_; refine dY rfl (y_fieldAddr rfl) rfl rfl rfl rfl ?_; refine dY rfl (y_load1 rfl rfl rfl) rfl rfl rfl rfl ?_; refine dY rfl (y_fieldAddr rfl) rfl rfl rfl rfl ?_; refine dY rfl (y_fieldAddr rfl) rfl rfl rfl rfl ?_; refine dY rfl (y_load1 rfl rfl rfl) rfl rfl rfl rfl ?_)
    refine dC rfl Tryz.func49 rfl rfl (ht1) rfl (by repeat (first | exact .refl _ | apply Les.cons | exact .nil)) rfl rfl ?_
    skip
    refine dC rfl Tryz.func49 rfl rfl (ht2) rfl (by repeat (first | exact .refl _ | apply Les.cons | exact .nil)) rfl rfl ?_
    skip
    refine dC rfl Tryz.func48 rfl rfl (hr) rfl (by repeat (first | exact .refl _ | apply Les.cons | exact .nil)) rfl rfl ?_
    ((refine dY rfl (y_extract rfl rfl) rfl rfl rfl rfl ?_); refine dY rfl (y_extract rfl rfl) rfl rfl rfl rfl ?_; (refine dE rfl (e_store rfl rfl rfl rfl rfl rfl rfl) rfl rfl ?_); refine dY rfl (y_assign rfl) rfl rfl rfl rfl ?_; refine dEnd ?_)
    repeat (refine ret_ ?_)
    ((apply fin_r); (repeat (first | exact .nil | exact .tmp rfl | exact .agg rfl rfl rfl | apply ResL.cons)); (repeat (exact .refl _)))
theorem RFDiv_z (p p' : Bool) (m d d' : Nat) (h : vG p m d) (h' : vG p' 0 d') : Con Tryz.prog 14 [GF p m d, GF p' 0 d'] (.tp [ZM, E_ 12]) := by
  have hv := RFv_t h
  have hv2 := RFv_t h'
  obtain ⟨b1, b2, b3, b4, b5, b6⟩ := vG_bd h
  obtain ⟨c1, c2, c3, c4, c5, c6⟩ := vG_bd h'
  have h0 : ((limbs 0).length : Int) = 0 := rfl
  refine con_of Tryz.func14 rfl rfl rfl rfl rfl ?_
  repeat (first | refine seq_ ?_ | refine region_ ?_ | refine nil_ ?_ | refine stepY (y_assign rfl) rfl ?_ | refine stepY (y_loadA rfl rfl rfl) rfl ?_ | refine stepE (e_box rfl rfl rfl rfl rfl rfl) ?_ | refine stepE (e_alloc rfl rfl rfl) ?_)
  refine call_ Tryz.func20 rfl rfl (hv) rfl (by repeat (first | exact .refl _ | apply Les.cons | exact .nil)) rfl ?_
  repeat (first | refine guard_t rfl rfl rfl ?_ | refine stepY (y_move rfl) rfl ?_ | refine stepY (y_loadA rfl rfl rfl) rfl ?_ | refine stepY (y_not rfl) rfl ?_)
  refine call_ Tryz.func20 rfl rfl (hv2) rfl (by repeat (first | exact .refl _ | apply Les.cons | exact .nil)) rfl ?_
  repeat (first | refine seq_ ?_ | refine region_ ?_ | refine nil_ ?_ | refine skip_ ?_ | refine ret_ ?_ | refine cond_t rfl ?_ | refine cond_f rfl ?_ | refine guard_t rfl rfl rfl ?_ | refine stepY (y_assign rfl) rfl ?_ | refine stepY (y_load1 rfl rfl rfl) rfl ?_ | refine stepY (y_fieldAddr rfl) rfl ?_ | refine stepY (y_len_si rfl) rfl ?_ | refine stepY (y_not rfl) rfl ?_ | refine stepY (y_pick_f rfl rfl) rfl ?_ | refine stepY (y_build rfl rfl rfl) rfl ?_ | refine stepY (y_cmpT rfl rfl rfl (by omega)) rfl ?_ | refine stepE (e_store rfl rfl rfl rfl rfl rfl rfl) ?_)
  ((apply fin_r); (repeat (first | exact .nil | exact .tmp rfl | exact .agg rfl rfl rfl | apply ResL.cons)); (repeat (first | exact .refl _ | exact .nil _ _ | apply Le.ag | apply Le.tp | apply Les.cons | exact .nil)))
theorem RFDiv_g (p p' : Bool) (m m' d d' : Nat) (h : vG p m d) (h' : vG p' m' d') (hm : 0 < m') : Con Tryz.prog 14 [GF p m d, GF p' m' d'] (resM (mkRat (sgn p m) d / mkRat (sgn p' m') d')) := by
  have hv := RFv_t h
  have hv2 := RFv_t h'
  obtain ⟨b1, b2, b3, b4, b5, b6⟩ := vG_bd h
  obtain ⟨c1, c2, c3, c4, c5, c6⟩ := vG_bd h'
  have ht1 := times3_c m d' (by omega) (by omega)
  have ht2 := times3_c d m' (by omega) (by omega)
  have hr := made3_c (p != p') (m * d') (d * m') (Nat.mul_pos b3 hm) (by have := ln_mul b1 c2; omega) (by have := ln_mul b2 c1; omega)
  rw [div_rat p p' m m' d d' b3 c3 hm, ← bne_dec] at hr
  have h0 : ((limbs m').length : Int) = ln m' := by rw [limbs_length]
  have h1 := ln_pos.2 hm
  generalize mkRat (sgn p m) d / mkRat (sgn p' m') d' = x at *
  by_cases hok : okQ x
  · rw [resM_ok hok] at *
    refine con_of Tryz.func14 rfl rfl rfl rfl rfl ?_
    repeat (first | refine seq_ ?_ | refine region_ ?_ | refine nil_ ?_ | refine stepY (y_assign rfl) rfl ?_ | refine stepY (y_loadA rfl rfl rfl) rfl ?_ | refine stepE (e_box rfl rfl rfl rfl rfl rfl) ?_ | refine stepE (e_alloc rfl rfl rfl) ?_)
    refine call_ Tryz.func20 rfl rfl (hv) rfl (by repeat (first | exact .refl _ | apply Les.cons | exact .nil)) rfl ?_
    repeat (first | refine guard_t rfl rfl rfl ?_ | refine stepY (y_move rfl) rfl ?_ | refine stepY (y_loadA rfl rfl rfl) rfl ?_ | refine stepY (y_not rfl) rfl ?_)
    refine call_ Tryz.func20 rfl rfl (hv2) rfl (by repeat (first | exact .refl _ | apply Les.cons | exact .nil)) rfl ?_
    repeat (first | refine seq_ ?_ | refine region_ ?_ | refine nil_ ?_ | refine skip_ ?_ | refine cond_f rfl ?_ | refine guard_t rfl rfl rfl ?_ | refine stepY (y_load1 rfl rfl rfl) rfl ?_ | refine stepY (y_fieldAddr rfl) rfl ?_ | refine stepY (y_len_si rfl) rfl ?_ | refine stepY (y_not rfl) rfl ?_ | refine stepY (y_pick_f rfl rfl) rfl ?_ | refine stepY (y_cmpF rfl rfl rfl (by omega)) rfl ?_)
    refine draw_ [(0, true), (1, true), (2, true), (3, true), (4, true), (5, true), (6, true), (7, true), (8, true), (9, true), (10, true), (11, true), (12, true), (14, true), (15, true), (16, true), (17, true), (18, true), (19, true), (13, false), (20, false), (21, false), (22, true), (23, true), (24, false), (25, true)] 1000 [2, 3] mixed (by kernel_rfl) rfl ?_
    ((refine dY rfl (y_fieldAddr rfl) rfl rfl rfl rfl ?_); refine dY rfl (y_fieldAddr rfl) rfl rfl rfl rfl ?_; refine dY rfl (y_load1 rfl rfl rfl) rfl rfl rfl rfl ?_; refine dY rfl (y_fieldAddr rfl) rfl rfl rfl rfl ?_; refine dY rfl (y_fieldAddr rfl) rfl rfl rfl rfl ?_; refine dY rfl (y_load1 rfl rfl rfl) rfl rfl rfl rfl ?_; refine dY rfl (y_neb rfl rfl) rfl rfl rfl rfl ?_; refine dY rfl (y_fieldAddr rfl) rfl rfl rfl rfl ?_; refine dY rfl (y_fieldAddr rfl) rfl rfl rfl rfl ?_; refine dY rfl (y_load1 rfl rfl rfl) rfl rfl rfl rfl ?_; refine dY rfl (y_fieldAddr rfl) rfl rfl rfl rfl ?_; refine dY rfl (y_fieldAddr rfl) rfl rfl rfl rfl ?_; refine dY rfl (y_load1 rfl rfl rfl) rfl rfl rfl rfl ?_; refine dY rfl (y_fieldAddr rfl) rfl rfl rfl rfl ?_; refine dY rfl (y_fieldAddr rfl) rfl rfl rfl rfl ?_; refine dY rfl (y_load1 rfl rfl rfl) rfl rfl rfl rfl ?_; refine dY rfl (y_fieldAddr rfl) rfl rfl rfl rfl ?_; refine dY rfl (y_fieldAddr rfl) rfl rfl rfl rfl ?_; refine dY rfl (y_load1 rfl rfl rfl) rfl rfl rfl rfl ?_)
    refine dC rfl Tryz.func49 rfl rfl (ht1) rfl (by repeat (first | exact .refl _ | apply Les.cons | exact .nil)) rfl rfl ?_
    skip
    refine dC rfl Tryz.func49 rfl rfl (ht2) rfl (by repeat (first | exact .refl _ | apply Les.cons | exact .nil)) rfl rfl ?_
    skip
    refine dC rfl Tryz.func48 rfl rfl (hr) rfl (by repeat (first | exact .refl _ | apply Les.cons | exact .nil)) rfl rfl ?_
    ((refine dY rfl (y_extract rfl rfl) rfl rfl rfl rfl ?_); refine dY rfl (y_extract rfl rfl) rfl rfl rfl rfl ?_; (refine dE rfl (e_store rfl rfl rfl rfl rfl rfl rfl) rfl rfl ?_); refine dY rfl (y_assign rfl) rfl rfl rfl rfl ?_; refine dEnd ?_)
    repeat (refine ret_ ?_)
    ((apply fin_r); (repeat (first | exact .nil | exact .tmp rfl | exact .agg rfl rfl rfl | apply ResL.cons)); (repeat (exact .refl _)))
  · rw [resM_no hok] at *
    refine con_of Tryz.func14 rfl rfl rfl rfl rfl ?_
    repeat (first | refine seq_ ?_ | refine region_ ?_ | refine nil_ ?_ | refine stepY (y_assign rfl) rfl ?_ | refine stepY (y_loadA rfl rfl rfl) rfl ?_ | refine stepE (e_box rfl rfl rfl rfl rfl rfl) ?_ | refine stepE (e_alloc rfl rfl rfl) ?_)
    refine call_ Tryz.func20 rfl rfl (hv) rfl (by repeat (first | exact .refl _ | apply Les.cons | exact .nil)) rfl ?_
    repeat (first | refine guard_t rfl rfl rfl ?_ | refine stepY (y_move rfl) rfl ?_ | refine stepY (y_loadA rfl rfl rfl) rfl ?_ | refine stepY (y_not rfl) rfl ?_)
    refine call_ Tryz.func20 rfl rfl (hv2) rfl (by repeat (first | exact .refl _ | apply Les.cons | exact .nil)) rfl ?_
    repeat (first | refine seq_ ?_ | refine region_ ?_ | refine nil_ ?_ | refine skip_ ?_ | refine cond_f rfl ?_ | refine guard_t rfl rfl rfl ?_ | refine stepY (y_load1 rfl rfl rfl) rfl ?_ | refine stepY (y_fieldAddr rfl) rfl ?_ | refine stepY (y_len_si rfl) rfl ?_ | refine stepY (y_not rfl) rfl ?_ | refine stepY (y_pick_f rfl rfl) rfl ?_ | refine stepY (y_cmpF rfl rfl rfl (by omega)) rfl ?_)
    refine draw_ [(0, true), (1, true), (2, true), (3, true), (4, true), (5, true), (6, true), (7, true), (8, true), (9, true), (10, true), (11, true), (12, true), (14, true), (15, true), (16, true), (17, true), (18, true), (19, true), (13, false), (20, false), (21, false), (22, true), (23, true), (24, false), (25, true)] 1000 [2, 3] mixed (by kernel_rfl) rfl ?_
    ((refine dY rfl (y_fieldAddr rfl) rfl rfl rfl rfl ?_); refine dY rfl (y_fieldAddr rfl) rfl rfl rfl rfl ?_; refine dY rfl (y_load1 rfl rfl rfl) rfl rfl rfl rfl ?_; refine dY rfl (y_fieldAddr rfl) rfl rfl rfl rfl ?_; refine dY rfl (y_fieldAddr rfl) rfl rfl rfl rfl ?_; refine dY rfl (y_load1 rfl rfl rfl) rfl rfl rfl rfl ?_; refine dY rfl (y_neb rfl rfl) rfl rfl rfl rfl ?_; refine dY rfl (y_fieldAddr rfl) rfl rfl rfl rfl ?_; refine dY rfl (y_fieldAddr rfl) rfl rfl rfl rfl ?_; refine dY rfl (y_load1 rfl rfl rfl) rfl rfl rfl rfl ?_; refine dY rfl (y_fieldAddr rfl) rfl rfl rfl rfl ?_; refine dY rfl (y_fieldAddr rfl) rfl rfl rfl rfl ?_; refine dY rfl (y_load1 rfl rfl rfl) rfl rfl rfl rfl ?_; refine dY rfl (y_fieldAddr rfl) rfl rfl rfl rfl ?_; refine dY rfl (y_fieldAddr rfl) rfl rfl rfl rfl ?_; refine dY rfl (y_load1 rfl rfl rfl) rfl rfl rfl rfl ?_; refine dY rfl (y_fieldAddr rfl) rfl rfl rfl rfl ?_; refine dY rfl (y_fieldAddr rfl) rfl rfl rfl rfl ?_; refine dY rfl (y_load1 rfl rfl rfl) rfl rfl rfl rfl ?_)
    refine dC rfl Tryz.func49 rfl rfl (ht1) rfl (by repeat (first | exact .refl _ | apply Les.cons | exact .nil)) rfl rfl ?_
    skip
    refine dC rfl Tryz.func49 rfl rfl (ht2) rfl (by repeat (first | exact .refl _ | apply Les.cons | exact .nil)) rfl rfl ?_
    skip
    refine dC rfl Tryz.func48 rfl rfl (hr) rfl (by repeat (first | exact .refl _ | apply Les.cons | exact .nil)) rfl rfl ?_
    ((refine dY rfl (y_extract rfl rfl) rfl rfl rfl rfl ?_); refine dY rfl (y_extract rfl rfl) rfl rfl rfl rfl ?_; (refine dE rfl (e_store rfl rfl rfl rfl rfl rfl rfl) rfl rfl ?_); refine dY rfl (y_assign rfl) rfl rfl rfl rfl ?_; refine dEnd ?_)
    repeat (refine ret_ ?_)
    ((apply fin_r); (repeat (first | exact .nil | exact .tmp rfl | exact .agg rfl rfl rfl | apply ResL.cons)); (repeat (exact .refl _)))
theorem added3_c (p p' s : Bool) (m m' d d' : Nat) (h : vG p m d) (h' : vG p' m' d') : Con Tryz.prog 70 [GF p m d, GF p' m' d', Bo s] (.tp [Bo (addN p (p' != s) (m * d') (m' * d)), M (addA p (p' != s) (m * d') (m' * d))]) := by
  have hv := RFv_t h
  have hv2 := RFv_t h'
  obtain ⟨b1, b2, b3, b4, b5, b6⟩ := vG_bd h
  obtain ⟨c1, c2, c3, c4, c5, c6⟩ := vG_bd h'
  have ht1 := times3_c m d' (by omega) (by omega)
  have ht2 := times3_c m' d (by omega) (by omega)
  have e1 := ln_mul b1 c2
  have e2 := ln_mul c1 b2
  have hs := sum3_c p (p' != s) (m * d') (m' * d) (by omega) (by omega)
  rw [← bne_dec] at *
  refine con_of Tryz.func70 rfl rfl rfl rfl rfl ?_
  repeat (first | refine seq_ ?_ | refine region_ ?_ | refine nil_ ?_ | refine stepY (y_assign rfl) rfl ?_ | refine stepE (e_box rfl rfl rfl rfl rfl rfl) ?_)
  refine draw_ [(0, true), (1, true), (2, true), (3, true), (4, true), (5, true), (6, true), (7, true), (8, true), (10, true), (11, true), (12, true), (13, true), (14, true), (15, true), (16, true), (17, true), (18, true), (19, true), (20, true), (9, false), (21, false), (22, false), (23, true), (24, true), (25, true), (26, true)] 1000 [3, 4] mixed (by kernel_rfl) rfl ?_
  ((refine dY rfl (y_fieldAddr rfl) rfl rfl rfl rfl ?_); refine dY rfl (y_fieldAddr rfl) rfl rfl rfl rfl ?_; refine dY rfl (y_load1 rfl rfl rfl) rfl rfl rfl rfl ?_; refine dY rfl (y_fieldAddr rfl) rfl rfl rfl rfl ?_; refine dY rfl (y_fieldAddr rfl) rfl rfl rfl rfl ?_; refine dY rfl (y_load1 rfl rfl rfl) rfl rfl rfl rfl ?_; refine dY rfl (y_fieldAddr rfl) rfl rfl rfl rfl ?_; refine dY rfl (y_fieldAddr rfl) rfl rfl rfl rfl ?_; refine dY rfl (y_load1 rfl rfl rfl) rfl rfl rfl rfl ?_; refine dY rfl (y_fieldAddr rfl) rfl rfl rfl rfl ?_; refine dY rfl (y_fieldAddr rfl) rfl rfl rfl rfl ?_; refine dY rfl (y_load1 rfl rfl rfl) rfl rfl rfl rfl ?_; refine dY rfl (y_move rfl) rfl rfl rfl rfl ?_; refine dY rfl (y_neb rfl rfl) rfl rfl rfl rfl ?_; refine dY rfl (y_fieldAddr rfl) rfl rfl rfl rfl ?_; refine dY rfl (y_fieldAddr rfl) rfl rfl rfl rfl ?_; refine dY rfl (y_load1 rfl rfl rfl) rfl rfl rfl rfl ?_; refine dY rfl (y_fieldAddr rfl) rfl rfl rfl rfl ?_; refine dY rfl (y_fieldAddr rfl) rfl rfl rfl rfl ?_; refine dY rfl (y_load1 rfl rfl rfl) rfl rfl rfl rfl ?_)
  refine dC rfl Tryz.func49 rfl rfl (ht1) rfl (by repeat (first | exact .refl _ | apply Les.cons | exact .nil)) rfl rfl ?_
  skip
  refine dC rfl Tryz.func49 rfl rfl (ht2) rfl (by repeat (first | exact .refl _ | apply Les.cons | exact .nil)) rfl rfl ?_
  skip
  refine dC rfl Tryz.func78 rfl rfl (hs) rfl (by repeat (first | exact .refl _ | apply Les.cons | exact .nil)) rfl rfl ?_
  ((refine dY rfl (y_extract rfl rfl) rfl rfl rfl rfl ?_); refine dY rfl (y_extract rfl rfl) rfl rfl rfl rfl ?_; refine dY rfl (y_assign rfl) rfl rfl rfl rfl ?_; refine dY rfl (y_assign rfl) rfl rfl rfl rfl ?_; refine dEnd ?_)
  repeat (refine ret_ ?_)
  ((apply fin_r); (repeat (first | exact .nil | exact .tmp rfl | apply ResL.cons)); (repeat (exact .refl _)))
theorem RFAdd_g (p p' : Bool) (m m' d d' : Nat) (h : vG p m d) (h' : vG p' m' d') : Con Tryz.prog 25 [GF p m d, GF p' m' d'] (resM (mkRat (sgn p m) d + mkRat (sgn p' m') d')) := by
  have hv := RFv_t h
  have hv2 := RFv_t h'
  obtain ⟨b1, b2, b3, b4, b5, b6⟩ := vG_bd h
  obtain ⟨c1, c2, c3, c4, c5, c6⟩ := vG_bd h'
  have ht3 := times3_c d d' (by omega) (by omega)
  have e1 := ln_mul b1 c2
  have e2 := ln_mul c1 b2
  have e3 := ln_mul b2 c2
  have ha := added3_c p p' false m m' d d' h h'
  rw [Bool.bne_false] at ha
  have e4 := ln_addA (p := p) (q := p') e1 e2
  have hr := made3_c (addN p p' (m * d') (m' * d)) (addA p p' (m * d') (m' * d)) (d * d') (Nat.mul_pos b3 c3) (by omega) (by omega)
  rw [addA_val, sgn_mulr, sgn_mulr, ← Rat.mkRat_add_mkRat _ _ (by omega) (by omega)] at hr
  generalize mkRat (sgn p m) d + mkRat (sgn p' m') d' = x at *
  by_cases hok : okQ x
  · rw [resM_ok hok] at *
    refine con_of Tryz.func25 rfl rfl rfl rfl rfl ?_
    repeat (first | refine seq_ ?_ | refine region_ ?_ | refine nil_ ?_ | refine stepY (y_assign rfl) rfl ?_ | refine stepY (y_loadA rfl rfl rfl) rfl ?_ | refine stepE (e_box rfl rfl rfl rfl rfl rfl) ?_ | refine stepE (e_alloc rfl rfl rfl) ?_)
    refine call_ Tryz.func20 rfl rfl (hv) rfl (by repeat (first | exact .refl _ | apply Les.cons | exact .nil)) rfl ?_
    repeat (first | refine guard_t rfl rfl rfl ?_ | refine stepY (y_move rfl) rfl ?_ | refine stepY (y_loadA rfl rfl rfl) rfl ?_ | refine stepY (y_not rfl) rfl ?_)
    refine call_ Tryz.func20 rfl rfl (hv2) rfl (by repeat (first | exact .refl _ | apply Les.cons | exact .nil)) rfl ?_
    repeat (first | refine seq_ ?_ | refine region_ ?_ | refine nil_ ?_ | refine skip_ ?_ | refine cond_f rfl ?_ | refine guard_t rfl rfl rfl ?_ | refine stepY (y_loadA rfl rfl rfl) rfl ?_ | refine stepY (y_not rfl) rfl ?_ | refine stepY (y_pick_f rfl rfl) rfl ?_)
    refine call_ Tryz.func70 rfl rfl (ha) rfl (by repeat (first | exact .refl _ | apply Les.cons | exact .nil)) rfl ?_
    repeat (first | refine seq_ ?_ | refine region_ ?_ | refine nil_ ?_ | refine stepY (y_move rfl) rfl ?_ | refine stepY (y_assign rfl) rfl ?_ | refine stepY (y_load1 rfl rfl rfl) rfl ?_ | refine stepY (y_fieldAddr rfl) rfl ?_ | refine stepY (y_extract rfl rfl) rfl ?_)
    refine call_ Tryz.func49 rfl rfl (ht3) rfl (by repeat (first | exact .refl _ | apply Les.cons | exact .nil)) rfl ?_
    skip
    refine call_ Tryz.func48 rfl rfl (hr) rfl (by repeat (first | exact .refl _ | apply Les.cons | exact .nil)) rfl ?_
    repeat (first | refine nil_ ?_ | refine ret_ ?_ | refine stepY (y_assign rfl) rfl ?_ | refine stepY (y_extract rfl rfl) rfl ?_ | refine stepE (e_store rfl rfl rfl rfl rfl rfl rfl) ?_)
    ((apply fin_r); (repeat (first | exact .nil | exact .tmp rfl | exact .agg rfl rfl rfl | apply ResL.cons)); (repeat (exact .refl _)))
  · rw [resM_no hok] at *
    refine con_of Tryz.func25 rfl rfl rfl rfl rfl ?_
    repeat (first | refine seq_ ?_ | refine region_ ?_ | refine nil_ ?_ | refine stepY (y_assign rfl) rfl ?_ | refine stepY (y_loadA rfl rfl rfl) rfl ?_ | refine stepE (e_box rfl rfl rfl rfl rfl rfl) ?_ | refine stepE (e_alloc rfl rfl rfl) ?_)
    refine call_ Tryz.func20 rfl rfl (hv) rfl (by repeat (first | exact .refl _ | apply Les.cons | exact .nil)) rfl ?_
    repeat (first | refine guard_t rfl rfl rfl ?_ | refine stepY (y_move rfl) rfl ?_ | refine stepY (y_loadA rfl rfl rfl) rfl ?_ | refine stepY (y_not rfl) rfl ?_)
    refine call_ Tryz.func20 rfl rfl (hv2) rfl (by repeat (first | exact .refl _ | apply Les.cons | exact .nil)) rfl ?_
    repeat (first | refine seq_ ?_ | refine region_ ?_ | refine nil_ ?_ | refine skip_ ?_ | refine cond_f rfl ?_ | refine guard_t rfl rfl rfl ?_ | refine stepY (y_loadA rfl rfl rfl) rfl ?_ | refine stepY (y_not rfl) rfl ?_ | refine stepY (y_pick_f rfl rfl) rfl ?_)
    refine call_ Tryz.func70 rfl rfl (ha) rfl (by repeat (first | exact .refl _ | apply Les.cons | exact .nil)) rfl ?_
    repeat (first | refine seq_ ?_ | refine region_ ?_ | refine nil_ ?_ | refine stepY (y_move rfl) rfl ?_ | refine stepY (y_assign rfl) rfl ?_ | refine stepY (y_load1 rfl rfl rfl) rfl ?_ | refine stepY (y_fieldAddr rfl) rfl ?_ | refine stepY (y_extract rfl rfl) rfl ?_)
    refine call_ Tryz.func49 rfl rfl (ht3) rfl (by repeat (first | exact .refl _ | apply Les.cons | exact .nil)) rfl ?_
    skip
    refine call_ Tryz.func48 rfl rfl (hr) rfl (by repeat (first | exact .refl _ | apply Les.cons | exact .nil)) rfl ?_
    repeat (first | refine nil_ ?_ | refine ret_ ?_ | refine stepY (y_assign rfl) rfl ?_ | refine stepY (y_extract rfl rfl) rfl ?_ | refine stepE (e_store rfl rfl rfl rfl rfl rfl rfl) ?_)
    ((apply fin_r); (repeat (first | exact .nil | exact .tmp rfl | exact .agg rfl rfl rfl | apply ResL.cons)); (repeat (exact .refl _)))
theorem RFSub_g (p p' : Bool) (m m' d d' : Nat) (h : vG p m d) (h' : vG p' m' d') : Con Tryz.prog 27 [GF p m d, GF p' m' d'] (resM (mkRat (sgn p m) d - mkRat (sgn p' m') d')) := by
  have hv := RFv_t h
  have hv2 := RFv_t h'
  obtain ⟨b1, b2, b3, b4, b5, b6⟩ := vG_bd h
  obtain ⟨c1, c2, c3, c4, c5, c6⟩ := vG_bd h'
  have ht3 := times3_c d d' (by omega) (by omega)
  have e1 := ln_mul b1 c2
  have e2 := ln_mul c1 b2
  have e3 := ln_mul b2 c2
  have ha := added3_c p p' true m m' d d' h h'
  rw [Bool.bne_true] at ha
  have e4 := ln_addA (p := p) (q := !p') e1 e2
  have hr := made3_c (addN p (!p') (m * d') (m' * d)) (addA p (!p') (m * d') (m' * d)) (d * d') (Nat.mul_pos b3 c3) (by omega) (by omega)
  rw [addA_val, sgn_mulr, sgn_mulr, ← Rat.mkRat_add_mkRat _ _ (by omega) (by omega), sgn_not, ← Rat.neg_mkRat, ← Rat.sub_eq_add_neg] at hr
  generalize mkRat (sgn p m) d - mkRat (sgn p' m') d' = x at *
  by_cases hok : okQ x
  · rw [resM_ok hok] at *
    refine con_of Tryz.func27 rfl rfl rfl rfl rfl ?_
    repeat (first | refine seq_ ?_ | refine region_ ?_ | refine nil_ ?_ | refine stepY (y_assign rfl) rfl ?_ | refine stepY (y_loadA rfl rfl rfl) rfl ?_ | refine stepE (e_box rfl rfl rfl rfl rfl rfl) ?_ | refine stepE (e_alloc rfl rfl rfl) ?_)
    refine call_ Tryz.func20 rfl rfl (hv) rfl (by repeat (first | exact .refl _ | apply Les.cons | exact .nil)) rfl ?_
    repeat (first | refine guard_t rfl rfl rfl ?_ | refine stepY (y_move rfl) rfl ?_ | refine stepY (y_loadA rfl rfl rfl) rfl ?_ | refine stepY (y_not rfl) rfl ?_)
    refine call_ Tryz.func20 rfl rfl (hv2) rfl (by repeat (first | exact .refl _ | apply Les.cons | exact .nil)) rfl ?_
    repeat (first | refine seq_ ?_ | refine region_ ?_ | refine nil_ ?_ | refine skip_ ?_ | refine cond_f rfl ?_ | refine guard_t rfl rfl rfl ?_ | refine stepY (y_loadA rfl rfl rfl) rfl ?_ | refine stepY (y_not rfl) rfl ?_ | refine stepY (y_pick_f rfl rfl) rfl ?_)
    refine call_ Tryz.func70 rfl rfl (ha) rfl (by repeat (first | exact .refl _ | apply Les.cons | exact .nil)) rfl ?_
    repeat (first | refine seq_ ?_ | refine region_ ?_ | refine nil_ ?_ | refine stepY (y_move rfl) rfl ?_ | refine stepY (y_assign rfl) rfl ?_ | refine stepY (y_load1 rfl rfl rfl) rfl ?_ | refine stepY (y_fieldAddr rfl) rfl ?_ | refine stepY (y_extract rfl rfl) rfl ?_)
    refine call_ Tryz.func49 rfl rfl (ht3) rfl (by repeat (first | exact .refl _ | apply Les.cons | exact .nil)) rfl ?_
    skip
    refine call_ Tryz.func48 rfl rfl (hr) rfl (by repeat (first | exact .refl _ | apply Les.cons | exact .nil)) rfl ?_
    repeat (first | refine nil_ ?_ | refine ret_ ?_ | refine stepY (y_assign rfl) rfl ?_ | refine stepY (y_extract rfl rfl) rfl ?_ | refine stepE (e_store rfl rfl rfl rfl rfl rfl rfl) ?_)
    ((apply fin_r); (repeat (first | exact .nil | exact .tmp rfl | exact .agg rfl rfl rfl | apply ResL.cons)); (repeat (exact .refl _)))
  · rw [resM_no hok] at *
    refine con_of Tryz.func27 rfl rfl rfl rfl rfl ?_
    repeat (first | refine seq_ ?_ | refine region_ ?_ | refine nil_ ?_ | refine stepY (y_assign rfl) rfl ?_ | refine stepY (y_loadA rfl rfl rfl) rfl ?_ | refine stepE (e_box rfl rfl rfl rfl rfl rfl) ?_ | refine stepE (e_alloc rfl rfl rfl) ?_)
    refine call_ Tryz.func20 rfl rfl (hv) rfl (by repeat (first | exact .refl _ | apply Les.cons | exact .nil)) rfl ?_
    repeat (first | refine guard_t rfl rfl rfl ?_ | refine stepY (y_move rfl) rfl ?_ | refine stepY (y_loadA rfl rfl rfl) rfl ?_ | refine stepY (y_not rfl) rfl ?_)
    refine call_ Tryz.func20 rfl rfl (hv2) rfl (by repeat (first | exact .refl _ | apply Les.cons | exact .nil)) rfl ?_
    repeat (first | refine seq_ ?_ | refine region_ ?_ | refine nil_ ?_ | refine skip_ ?_ | refine cond_f rfl ?_ | refine guard_t rfl rfl rfl ?_ | refine stepY (y_loadA rfl rfl rfl) rfl ?_ | refine stepY (y_not rfl) rfl ?_ | refine stepY (y_pick_f rfl rfl) rfl ?_)
    refine call_ Tryz.func70 rfl rfl (ha) rfl (by repeat (first | exact .refl _ | apply Les.cons | exact .nil)) rfl ?_
    repeat (first | refine seq_ ?_ | refine region_ ?_ | refine nil_ ?_ | refine stepY (y_move rfl) rfl ?_ | refine stepY (y_assign rfl) rfl ?_ | refine stepY (y_load1 rfl rfl rfl) rfl ?_ | refine stepY (y_fieldAddr rfl) rfl ?_ | refine stepY (y_extract rfl rfl) rfl ?_)
    refine call_ Tryz.func49 rfl rfl (ht3) rfl (by repeat (first | exact .refl _ | apply Les.cons | exact .nil)) rfl ?_
    skip
    refine call_ Tryz.func48 rfl rfl (hr) rfl (by repeat (first | exact .refl _ | apply Les.cons | exact .nil)) rfl ?_
    repeat (first | refine nil_ ?_ | refine ret_ ?_ | refine stepY (y_assign rfl) rfl ?_ | refine stepY (y_extract rfl rfl) rfl ?_ | refine stepE (e_store rfl rfl rfl rfl rfl rfl rfl) ?_)
    ((apply fin_r); (repeat (first | exact .nil | exact .tmp rfl | exact .agg rfl rfl rfl | apply ResL.cons)); (repeat (exact .refl _)))
theorem RFCmp_g (p p' : Bool) (m m' d d' : Nat) (h : vG p m d) (h' : vG p' m' d') : Con Tryz.prog 29 [GF p m d, GF p' m' d'] (.tp [I (isg (sgn p m * d' - sgn p' m' * d)), E_ 0]) := by
  have hv := RFv_t h
  have hv2 := RFv_t h'
  obtain ⟨b1, b2, b3, b4, b5, b6⟩ := vG_bd h
  obtain ⟨c1, c2, c3, c4, c5, c6⟩ := vG_bd h'
  have ha := added3_c p p' true m m' d d' h h'
  rw [Bool.bne_true] at ha
  have hz := addA_val p (!p') (m * d') (m' * d)
  rw [sgn_mulr, sgn_not, sgn_mulr, ← Int.sub_eq_add_neg] at hz
  rw [← hz]
  generalize addN p (!p') (m * d') (m' * d) = N at *
  generalize addA p (!p') (m * d') (m' * d) = A at *
  have hlA : ((limbs A).length : Int) = ln A := by rw [limbs_length]
  by_cases h0 : A = 0
  · subst h0
    rw [show isg (sgn N 0) = 0 by rw [sgn_zero]; rfl]
    have : ln 0 = 0 := rfl
    refine con_of Tryz.func29 rfl rfl rfl rfl rfl ?_
    repeat (first | refine seq_ ?_ | refine region_ ?_ | refine nil_ ?_ | refine stepY (y_assign rfl) rfl ?_ | refine stepY (y_loadA rfl rfl rfl) rfl ?_ | refine stepE (e_box rfl rfl rfl rfl rfl rfl) ?_)
    refine call_ Tryz.func20 rfl rfl (hv) rfl (by repeat (first | exact .refl _ | apply Les.cons | exact .nil)) rfl ?_
    repeat (first | refine guard_t rfl rfl rfl ?_ | refine stepY (y_move rfl) rfl ?_ | refine stepY (y_loadA rfl rfl rfl) rfl ?_ | refine stepY (y_not rfl) rfl ?_)
    refine call_ Tryz.func20 rfl rfl (hv2) rfl (by repeat (first | exact .refl _ | apply Les.cons | exact .nil)) rfl ?_
    repeat (first | refine seq_ ?_ | refine region_ ?_ | refine nil_ ?_ | refine skip_ ?_ | refine cond_f rfl ?_ | refine guard_t rfl rfl rfl ?_ | refine stepY (y_loadA rfl rfl rfl) rfl ?_ | refine stepY (y_not rfl) rfl ?_ | refine stepY (y_pick_f rfl rfl) rfl ?_)
    refine call_ Tryz.func70 rfl rfl (ha) rfl (by repeat (first | exact .refl _ | apply Les.cons | exact .nil)) rfl ?_
    repeat (first | refine seq_ ?_ | refine region_ ?_ | refine nil_ ?_ | refine ret_ ?_ | refine cond_t rfl ?_ | refine stepY (y_move rfl) rfl ?_ | refine stepY (y_assign rfl) rfl ?_ | refine stepY (y_extract rfl rfl) rfl ?_ | refine stepY (y_len_si rfl) rfl ?_ | refine stepY (y_cmpT rfl rfl rfl (by omega)) rfl ?_)
    ((apply fin_r); (repeat (first | exact .nil | exact .tmp rfl | apply ResL.cons)); (repeat (exact .refl _)))
  · have hA := ln_pos.2 (Nat.pos_of_ne_zero h0)
    cases N
    · rw [show isg (sgn false A) = 1 by unfold isg sgn; rw [if_neg (by simp), if_pos (by simp; omega)]]
      refine con_of Tryz.func29 rfl rfl rfl rfl rfl ?_
      repeat (first | refine seq_ ?_ | refine region_ ?_ | refine nil_ ?_ | refine stepY (y_assign rfl) rfl ?_ | refine stepY (y_loadA rfl rfl rfl) rfl ?_ | refine stepE (e_box rfl rfl rfl rfl rfl rfl) ?_)
      refine call_ Tryz.func20 rfl rfl (hv) rfl (by repeat (first | exact .refl _ | apply Les.cons | exact .nil)) rfl ?_
      repeat (first | refine guard_t rfl rfl rfl ?_ | refine stepY (y_move rfl) rfl ?_ | refine stepY (y_loadA rfl rfl rfl) rfl ?_ | refine stepY (y_not rfl) rfl ?_)
      refine call_ Tryz.func20 rfl rfl (hv2) rfl (by repeat (first | exact .refl _ | apply Les.cons | exact .nil)) rfl ?_
      repeat (first | refine seq_ ?_ | refine region_ ?_ | refine nil_ ?_ | refine skip_ ?_ | refine cond_f rfl ?_ | refine guard_t rfl rfl rfl ?_ | refine stepY (y_loadA rfl rfl rfl) rfl ?_ | refine stepY (y_not rfl) rfl ?_ | refine stepY (y_pick_f rfl rfl) rfl ?_)
      refine call_ Tryz.func70 rfl rfl (ha) rfl (by repeat (first | exact .refl _ | apply Les.cons | exact .nil)) rfl ?_
      repeat (first | refine seq_ ?_ | refine region_ ?_ | refine nil_ ?_ | refine skip_ ?_ | refine ret_ ?_ | refine cond_f rfl ?_ | refine stepY (y_move rfl) rfl ?_ | refine stepY (y_assign rfl) rfl ?_ | refine stepY (y_extract rfl rfl) rfl ?_ | refine stepY (y_len_si rfl) rfl ?_ | refine stepY (y_cmpF rfl rfl rfl (by omega)) rfl ?_)
      ((apply fin_r); (repeat (first | exact .nil | exact .tmp rfl | apply ResL.cons)); (repeat (exact .refl _)))
    · rw [show isg (sgn true A) = -1 by unfold isg sgn; rw [if_pos (by simp; omega)]]
      refine con_of Tryz.func29 rfl rfl rfl rfl rfl ?_
      repeat (first | refine seq_ ?_ | refine region_ ?_ | refine nil_ ?_ | refine stepY (y_assign rfl) rfl ?_ | refine stepY (y_loadA rfl rfl rfl) rfl ?_ | refine stepE (e_box rfl rfl rfl rfl rfl rfl) ?_)
      refine call_ Tryz.func20 rfl rfl (hv) rfl (by repeat (first | exact .refl _ | apply Les.cons | exact .nil)) rfl ?_
      repeat (first | refine guard_t rfl rfl rfl ?_ | refine stepY (y_move rfl) rfl ?_ | refine stepY (y_loadA rfl rfl rfl) rfl ?_ | refine stepY (y_not rfl) rfl ?_)
      refine call_ Tryz.func20 rfl rfl (hv2) rfl (by repeat (first | exact .refl _ | apply Les.cons | exact .nil)) rfl ?_
      repeat (first | refine seq_ ?_ | refine region_ ?_ | refine nil_ ?_ | refine skip_ ?_ | refine cond_f rfl ?_ | refine guard_t rfl rfl rfl ?_ | refine stepY (y_loadA rfl rfl rfl) rfl ?_ | refine stepY (y_not rfl) rfl ?_ | refine stepY (y_pick_f rfl rfl) rfl ?_)
      refine call_ Tryz.func70 rfl rfl (ha) rfl (by repeat (first | exact .refl _ | apply Les.cons | exact .nil)) rfl ?_
      repeat (first | refine seq_ ?_ | refine region_ ?_ | refine nil_ ?_ | refine skip_ ?_ | refine ret_ ?_ | refine cond_t rfl ?_ | refine cond_f rfl ?_ | refine stepY (y_move rfl) rfl ?_ | refine stepY (y_assign rfl) rfl ?_ | refine stepY (y_extract rfl rfl) rfl ?_ | refine stepY (y_len_si rfl) rfl ?_ | refine stepY (y_cmpF rfl rfl rfl (by omega)) rfl ?_)
      ((apply fin_r); (repeat (first | exact .nil | exact .tmp rfl | apply ResL.cons)); (repeat (exact .refl _)))
theorem RFAdd_q (x y : Rat) (hx : okQ x) (hy : okQ y) : Con Tryz.prog 25 [QV x, QV y] (resM (x + y)) := by
  have := RFAdd_g _ _ _ _ _ _ (vG_q hx) (vG_q hy)
  rwa [mk_self, mk_self] at this
theorem RFSub_q (x y : Rat) (hx : okQ x) (hy : okQ y) : Con Tryz.prog 27 [QV x, QV y] (resM (x - y)) := by
  have := RFSub_g _ _ _ _ _ _ (vG_q hx) (vG_q hy)
  rwa [mk_self, mk_self] at this
theorem RFMul_q (x y : Rat) (hx : okQ x) (hy : okQ y) : Con Tryz.prog 12 [QV x, QV y] (resM (x * y)) := by
  have := RFMul_g _ _ _ _ _ _ (vG_q hx) (vG_q hy)
  rwa [mk_self, mk_self] at this
theorem RFDiv_q (x y : Rat) (hx : okQ x) (hy : okQ y) (h0 : y ≠ 0) : Con Tryz.prog 14 [QV x, QV y] (resM (x / y)) := by
  have := RFDiv_g _ _ _ _ _ _ (vG_q hx) (vG_q hy) (num_ne h0)
  rwa [mk_self, mk_self] at this
theorem RFDiv_0 (x : Rat) (hx : okQ x) : Con Tryz.prog 14 [QV x, QV 0] (.tp [ZM, E_ 12]) :=
  RFDiv_z _ _ _ _ _ (vG_q hx) (vG_q (x := 0) (by decide))
theorem RFCmp_q (x y : Rat) (hx : okQ x) (hy : okQ y) : Con Tryz.prog 29 [QV x, QV y] (.tp [I (qcmp x y), E_ 0]) := by
  have := RFCmp_g _ _ _ _ _ _ (vG_q hx) (vG_q hy)
  rwa [sgn_self, sgn_self, qcmp_isg] at this
end Go.Av

set_option maxHeartbeats 8000000
set_option exponentiation.threshold 100000
set_option maxRecDepth 100000
set_option linter.unusedVariables false
set_option linter.unusedSimpArgs false
namespace Go.Av
open Go Go.Proofs
/-! The reference of the fractions: Floor, Round -/
theorem floor_neg (n d : Nat) (hd : 0 < d) : (-(n : Int)) / (d : Int) = if n % d = 0 then -((n / d : Nat) : Int) else -((n / d + 1 : Nat) : Int) := by
  have h1 := Nat.div_add_mod n d
  have h2 := Nat.mod_lt n hd
  by_cases h : n % d = 0
  · rw [if_pos h]
    rw [h, Nat.add_zero] at h1
    refine ((Int.ediv_emod_unique (a := -(n : Int)) (b := (d : Int)) (r := 0) (q := -((n / d : Nat) : Int)) (by omega)).2 ⟨?_, by omega, by omega⟩).1
    rw [Int.mul_neg, ← Int.natCast_mul, h1]; omega
  · rw [if_neg h]
    refine ((Int.ediv_emod_unique (a := -(n : Int)) (b := (d : Int)) (r := ((d - n % d : Nat) : Int)) (q := -((n / d + 1 : Nat) : Int)) (by omega)).2 ⟨?_, by omega, by omega⟩).1
    rw [Int.mul_neg, ← Int.natCast_mul, Nat.mul_add, Nat.mul_one]
    omega
theorem IV_pos (n : Nat) : IV (n : Int) = .ag [Bo false, M n] := by
  unfold IV; rw [decide_eq_false (by omega), Int.natAbs_natCast]
theorem IV_neg {n : Nat} (h : 0 < n) : IV (-(n : Int)) = .ag [Bo true, M n] := by
  unfold IV; rw [decide_eq_true (by omega), Int.natAbs_neg, Int.natAbs_natCast]
theorem IV_neg0 {n : Nat} (h : ¬ 0 < n) : IV (-(n : Int)) = .ag [Bo false, M n] := by
  unfold IV; rw [decide_eq_false (by omega), Int.natAbs_neg, Int.natAbs_natCast]
theorem floor3_c (s : Bool) (n d : Nat) (hd : 0 < d) (hn : ln n ≤ 20000) (hl : ln d ≤ 20000) : Con Tryz.prog 73 [Bo s, M n, M d] (IV (sgn s n / (d : Int))) := by
  have hD := divide3_c n d hd (by omega) (by omega)
  have hq : ln (n / d) ≤ ln n := ln_mono (Nat.div_le_self _ _)
  have hlr : ((limbs (n % d)).length : Int) = ln (n % d) := by rw [limbs_length]
  have hlq : ((limbs (n / d)).length : Int) = ln (n / d) := by rw [limbs_length]
  cases s with
  | false =>
    rw [show sgn false n / (d : Int) = ((n / d : Nat) : Int) by simp [sgn]]
    rw [IV_pos]
    refine con_of Tryz.func73 rfl rfl rfl rfl rfl ?_
    repeat (first | refine seq_ ?_ | refine region_ ?_ | refine nil_ ?_ | refine stepY (y_move rfl) rfl ?_ | refine stepE (e_alloc rfl rfl rfl) ?_)
    refine call_ Tryz.func90 rfl rfl (hD) rfl (by repeat (first | exact .refl _ | apply Les.cons | exact .nil)) rfl ?_
    repeat (first | refine seq_ ?_ | refine region_ ?_ | refine nil_ ?_ | refine skip_ ?_ | refine ret_ ?_ | refine cond_f rfl ?_ | refine guard_f rfl rfl rfl rfl ?_ | refine stepY (y_move rfl) rfl ?_ | refine stepY (y_assign rfl) rfl ?_ | refine stepY (y_extract rfl rfl) rfl ?_ | refine stepY (y_pick_f rfl rfl) rfl ?_ | refine stepY (y_build rfl rfl rfl) rfl ?_ | refine stepE (e_store rfl rfl rfl rfl rfl rfl rfl) ?_)
    ((apply fin_r); (repeat (first | exact .nil | exact .agg rfl rfl rfl | apply ResL.cons)); (repeat (exact .refl _)))
  | true =>
    rw [show sgn true n = -(n : Int) by simp [sgn], floor_neg n d hd]
    by_cases h : n % d = 0
    · rw [if_pos h]
      have hz : ln (n % d) = 0 := by rw [h]; rfl
      by_cases h0 : 0 < n / d
      · have hp := ln_pos.2 h0
        rw [IV_neg h0]
        refine con_of Tryz.func73 rfl rfl rfl rfl rfl ?_
        repeat (first | refine seq_ ?_ | refine region_ ?_ | refine nil_ ?_ | refine stepY (y_move rfl) rfl ?_ | refine stepE (e_alloc rfl rfl rfl) ?_)
        refine call_ Tryz.func90 rfl rfl (hD) rfl (by repeat (first | exact .refl _ | apply Les.cons | exact .nil)) rfl ?_
        repeat (first | refine seq_ ?_ | refine region_ ?_ | refine nil_ ?_ | refine skip_ ?_ | refine ret_ ?_ | refine cond_f rfl ?_ | refine guard_t rfl rfl rfl ?_ | refine stepY (y_move rfl) rfl ?_ | refine stepY (y_assign rfl) rfl ?_ | refine stepY (y_extract rfl rfl) rfl ?_ | refine stepY (y_len_si rfl) rfl ?_ | refine stepY (y_pick_t rfl rfl) rfl ?_ | refine stepY (y_build rfl rfl rfl) rfl ?_ | (first | refine stepY (y_cmpT rfl rfl rfl (by omega)) rfl ?_ | refine stepY (y_cmpF rfl rfl rfl (by omega)) rfl ?_) | refine stepE (e_store rfl rfl rfl rfl rfl rfl rfl) ?_)
        ((apply fin_r); (repeat (first | exact .nil | exact .agg rfl rfl rfl | apply ResL.cons)); (repeat (exact .refl _)))
      · have hp : ¬ 0 < ln (n / d) := fun h => h0 (ln_pos.1 h)
        rw [IV_neg0 h0]
        refine con_of Tryz.func73 rfl rfl rfl rfl rfl ?_
        repeat (first | refine seq_ ?_ | refine region_ ?_ | refine nil_ ?_ | refine stepY (y_move rfl) rfl ?_ | refine stepE (e_alloc rfl rfl rfl) ?_)
        refine call_ Tryz.func90 rfl rfl (hD) rfl (by repeat (first | exact .refl _ | apply Les.cons | exact .nil)) rfl ?_
        repeat (first | refine seq_ ?_ | refine region_ ?_ | refine nil_ ?_ | refine skip_ ?_ | refine ret_ ?_ | refine cond_f rfl ?_ | refine guard_t rfl rfl rfl ?_ | refine stepY (y_move rfl) rfl ?_ | refine stepY (y_assign rfl) rfl ?_ | refine stepY (y_extract rfl rfl) rfl ?_ | refine stepY (y_len_si rfl) rfl ?_ | refine stepY (y_pick_t rfl rfl) rfl ?_ | refine stepY (y_build rfl rfl rfl) rfl ?_ | refine stepY (y_cmpF rfl rfl rfl (by omega)) rfl ?_ | refine stepE (e_store rfl rfl rfl rfl rfl rfl rfl) ?_)
        ((apply fin_r); (repeat (first | exact .nil | exact .agg rfl rfl rfl | apply ResL.cons)); (repeat (exact .refl _)))
    · rw [if_neg h]
      have hz := ln_pos.2 (Nat.pos_of_ne_zero h)
      rw [IV_neg (n := n / d + 1) (Nat.succ_pos _)]
      have hp := plus3_c (n / d) 1 (by omega) (by decide)
      have hlp : ((limbs (n / d + 1)).length : Int) = ln (n / d + 1) := by rw [limbs_length]
      have hp1 : 0 < ln (n / d + 1) := ln_pos.2 (Nat.succ_pos (n / d))
      have hp : Con Tryz.prog 110 [M (n / d), .si false .u32 [1]] (M (n / d + 1)) := by
        rw [show ([1] : List Int) = limbs 1 from (limbs_one (x := 1) (by decide) (by decide)).symm]
        exact hp
      refine con_of Tryz.func73 rfl rfl rfl rfl rfl ?_
      repeat (first | refine seq_ ?_ | refine region_ ?_ | refine nil_ ?_ | refine stepY (y_move rfl) rfl ?_ | refine stepE (e_alloc rfl rfl rfl) ?_)
      refine call_ Tryz.func90 rfl rfl (hD) rfl (by repeat (first | exact .refl _ | apply Les.cons | exact .nil)) rfl ?_
      repeat (first | refine seq_ ?_ | refine region_ ?_ | refine nil_ ?_ | refine cond_t rfl ?_ | refine guard_t rfl rfl rfl ?_ | refine stepY (y_move rfl) rfl ?_ | refine stepY (y_assign rfl) rfl ?_ | refine stepY (y_extract rfl rfl) rfl ?_ | refine stepY (y_len_si rfl) rfl ?_ | refine stepY (y_pick_t rfl rfl) rfl ?_ | refine stepY (y_cmpT rfl rfl rfl (by omega)) rfl ?_ | refine stepE (e_bs_vi (k := .u32) rfl rfl rfl rfl rfl) ?_)
      refine seal_L (i := 22) (h := 22) rfl rfl rfl rfl ?_
      refine call_ Tryz.func110 rfl rfl (hp) rfl (by repeat (first | exact .refl _ | exact .tag _ _ | apply Les.cons | exact .nil)) rfl ?_
      repeat (first | refine seq_ ?_ | refine region_ ?_ | refine nil_ ?_ | refine ret_ ?_ | refine guard_t rfl rfl rfl ?_ | refine stepY (y_move rfl) rfl ?_ | refine stepY (y_assign rfl) rfl ?_ | refine stepY (y_len_si rfl) rfl ?_ | refine stepY (y_pick_t rfl rfl) rfl ?_ | refine stepY (y_build rfl rfl rfl) rfl ?_ | refine stepY (y_cmpT rfl rfl rfl (by omega)) rfl ?_ | refine stepE (e_store rfl rfl rfl rfl rfl rfl rfl) ?_)
      ((apply fin_r); (repeat (first | exact .nil | exact .agg rfl rfl rfl | apply ResL.cons)); (repeat (exact .refl _)))
theorem RFloor_e (p : Bool) (l : List Int) (q : Bool) (k : List Int) (hl : wf l) (hk : wf k) (h : vldF p l q k = false) : Con Tryz.prog 31 [AF p l q k] (.tp [IV 0, E_ 1]) := by
  have hv := RFValid_c p l q k hl hk
  rw [h] at hv
  refine con_of Tryz.func31 rfl rfl rfl rfl rfl ?_
  repeat (first | refine seq_ ?_ | refine region_ ?_ | refine nil_ ?_ | refine stepY (y_assign rfl) rfl ?_ | refine stepY (y_loadA rfl rfl rfl) rfl ?_ | refine stepE (e_box rfl rfl rfl rfl rfl rfl) ?_ | refine stepE (e_alloc rfl rfl rfl) ?_)
  refine call_ Tryz.func20 rfl rfl (hv) rfl (by repeat (first | exact .refl _ | apply Les.cons | exact .nil)) rfl ?_
  repeat (first | refine seq_ ?_ | refine region_ ?_ | refine nil_ ?_ | refine ret_ ?_ | refine cond_t rfl ?_ | refine stepY (y_assign rfl) rfl ?_ | refine stepY (y_not rfl) rfl ?_ | refine stepY (y_build rfl rfl rfl) rfl ?_ | refine stepE (e_store rfl rfl rfl rfl rfl rfl rfl) ?_)
  ((apply fin_r); (repeat (first | exact .nil | exact .tmp rfl | exact .agg rfl rfl rfl | apply ResL.cons)); (repeat (first | exact .refl _ | exact .nil _ _ | apply Le.ag | apply Le.tp | apply Les.cons | exact .nil)))
theorem RRound_e (p : Bool) (l : List Int) (q : Bool) (k : List Int) (hl : wf l) (hk : wf k) (h : vldF p l q k = false) : Con Tryz.prog 33 [AF p l q k] (.tp [IV 0, E_ 1]) := by
  have hv := RFValid_c p l q k hl hk
  rw [h] at hv
  refine con_of Tryz.func33 rfl rfl rfl rfl rfl ?_
  repeat (first | refine seq_ ?_ | refine region_ ?_ | refine nil_ ?_ | refine stepY (y_assign rfl) rfl ?_ | refine stepY (y_loadA rfl rfl rfl) rfl ?_ | refine stepE (e_box rfl rfl rfl rfl rfl rfl) ?_ | refine stepE (e_alloc rfl rfl rfl) ?_)
  refine call_ Tryz.func20 rfl rfl (hv) rfl (by repeat (first | exact .refl _ | apply Les.cons | exact .nil)) rfl ?_
  repeat (first | refine seq_ ?_ | refine region_ ?_ | refine nil_ ?_ | refine ret_ ?_ | refine cond_t rfl ?_ | refine stepY (y_assign rfl) rfl ?_ | refine stepY (y_not rfl) rfl ?_ | refine stepY (y_build rfl rfl rfl) rfl ?_ | refine stepE (e_store rfl rfl rfl rfl rfl rfl rfl) ?_)
  ((apply fin_r); (repeat (first | exact .nil | exact .tmp rfl | exact .agg rfl rfl rfl | apply ResL.cons)); (repeat (first | exact .refl _ | exact .nil _ _ | apply Le.ag | apply Le.tp | apply Les.cons | exact .nil)))
theorem RFloor_q (x : Rat) (hx : okQ x) : Con Tryz.prog 31 [QV x] (.tp [IV x.floor, E_ 0]) := by
  have hv := RFv_t (vG_q hx)
  have hf := floor3_c (decide (x.num < 0)) x.num.natAbs x.den x.den_pos (by have := hx.1; omega) (by have := hx.2; omega)
  rw [sgn_self, ← floor_num] at hf
  refine con_of Tryz.func31 rfl rfl rfl rfl rfl ?_
  repeat (first | refine seq_ ?_ | refine region_ ?_ | refine nil_ ?_ | refine stepY (y_assign rfl) rfl ?_ | refine stepY (y_loadA rfl rfl rfl) rfl ?_ | refine stepE (e_box rfl rfl rfl rfl rfl rfl) ?_ | refine stepE (e_alloc rfl rfl rfl) ?_)
  refine call_ Tryz.func20 rfl rfl (hv) rfl (by repeat (first | exact .refl _ | apply Les.cons | exact .nil)) rfl ?_
  repeat (first | refine seq_ ?_ | refine region_ ?_ | refine nil_ ?_ | refine skip_ ?_ | refine cond_f rfl ?_ | refine stepY (y_load1 rfl rfl rfl) rfl ?_ | refine stepY (y_fieldAddr rfl) rfl ?_ | refine stepY (y_not rfl) rfl ?_)
  refine call_ Tryz.func73 rfl rfl (hf) rfl (by repeat (first | exact .refl _ | apply Les.cons | exact .nil)) rfl ?_
  repeat (first | refine nil_ ?_ | refine ret_ ?_ | refine stepY (y_assign rfl) rfl ?_ | refine stepE (e_store rfl rfl rfl rfl rfl rfl rfl) ?_)
  ((apply fin_r); (repeat (first | exact .nil | exact .tmp rfl | exact .agg rfl rfl rfl | apply ResL.cons)); (repeat (exact .refl _)))
theorem rnd_div (x : Rat) : rnd x = (2 * x.num + x.den) / ((x.den * 2 : Nat) : Int) := by
  have hd : 0 < (x.den : Int) := by have := x.den_pos; omega
  have h1 := Int.mul_ediv_add_emod x.num x.den
  have h2 := Int.emod_nonneg x.num (b := (x.den : Int)) (by omega)
  have h3 := Int.emod_lt_of_pos x.num hd
  unfold rnd
  rw [floor_num]
  generalize x.num / (x.den : Int) = q at *
  generalize x.num % (x.den : Int) = r at *
  generalize (x.den : Nat) = d at *
  have e : 2 * x.num = (d : Int) * 2 * q + 2 * r := by rw [← h1]; rw [Int.mul_add, Int.mul_comm (d : Int) 2, Int.mul_assoc]
  by_cases h : 2 * r < d
  · rw [if_pos h]
    exact ((Int.ediv_emod_unique (a := 2 * x.num + d) (b := ((d * 2 : Nat) : Int)) (r := 2 * r + d) (q := q) (by omega)).2 ⟨by rw [e, show ((d * 2 : Nat) : Int) = (d : Int) * 2 by omega]; omega, by omega, by omega⟩).1.symm
  · rw [if_neg h]
    refine ((Int.ediv_emod_unique (a := 2 * x.num + d) (b := ((d * 2 : Nat) : Int)) (r := 2 * r - d) (q := q + 1) (by omega)).2 ⟨?_, by omega, by omega⟩).1.symm
    rw [e, show ((d * 2 : Nat) : Int) = (d : Int) * 2 by omega, Int.mul_add, Int.mul_one]
    omega
theorem RRound_q (x : Rat) (hx : okQ x) : Con Tryz.prog 33 [QV x] (.tp [IV (rnd x), E_ 0]) := by
  have hv := RFv_t (vG_q hx)
  have hx1 := hx.1
  have hx2 := hx.2
  have hs1 := shift3_c x.num.natAbs 0 (by omega) (by decide)
  have hs2 := shift3_c x.den 0 (by omega) (by decide)
  rw [Nat.add_zero] at hs1 hs2
  have l1 : ln (x.num.natAbs * 2) ≤ 513 := by rw [Nat.mul_two]; exact ln_add hx1 hx1
  have l2 : ln (x.den * 2) ≤ 513 := by rw [Nat.mul_two]; exact ln_add hx2 hx2
  have hsm := sum3_c (decide (x.num < 0)) false (x.num.natAbs * 2) x.den (by omega) (by omega)
  have l3 := ln_addA (p := decide (x.num < 0)) (q := false) (k := 513) l1 (by omega : ln x.den ≤ 513)
  have hf := floor3_c (addN (decide (x.num < 0)) false (x.num.natAbs * 2) x.den) (addA (decide (x.num < 0)) false (x.num.natAbs * 2) x.den) (x.den * 2) (by have := x.den_pos; omega) (by omega) (by omega)
  rw [addA_val, sgn_mulr, sgn_self, show x.num * ((2 : Nat) : Int) + sgn false x.den = 2 * x.num + x.den by simp [sgn]; omega, ← rnd_div] at hf
  refine con_of Tryz.func33 rfl rfl rfl rfl rfl ?_
  repeat (first | refine seq_ ?_ | refine region_ ?_ | refine nil_ ?_ | refine stepY (y_assign rfl) rfl ?_ | refine stepY (y_loadA rfl rfl rfl) rfl ?_ | refine stepE (e_box rfl rfl rfl rfl rfl rfl) ?_ | refine stepE (e_alloc rfl rfl rfl) ?_)
  refine call_ Tryz.func20 rfl rfl (hv) rfl (by repeat (first | exact .refl _ | apply Les.cons | exact .nil)) rfl ?_
  repeat (first | refine seq_ ?_ | refine nil_ ?_ | refine skip_ ?_ | refine cond_f rfl ?_ | refine stepY (y_not rfl) rfl ?_)
  refine draw_ [(0, true), (1, true), (2, true), (3, true), (4, true), (5, true), (7, true), (8, true), (9, true), (6, false), (10, false), (11, true), (12, true), (13, true), (14, true), (15, true)] 1000 [1] mixed (by kernel_rfl) rfl ?_
  ((refine dY rfl (y_fieldAddr rfl) rfl rfl rfl rfl ?_); refine dY rfl (y_fieldAddr rfl) rfl rfl rfl rfl ?_; refine dY rfl (y_load1 rfl rfl rfl) rfl rfl rfl rfl ?_; refine dY rfl (y_fieldAddr rfl) rfl rfl rfl rfl ?_; refine dY rfl (y_fieldAddr rfl) rfl rfl rfl rfl ?_; refine dY rfl (y_load1 rfl rfl rfl) rfl rfl rfl rfl ?_; refine dY rfl (y_fieldAddr rfl) rfl rfl rfl rfl ?_; refine dY rfl (y_fieldAddr rfl) rfl rfl rfl rfl ?_; refine dY rfl (y_load1 rfl rfl rfl) rfl rfl rfl rfl ?_)
  refine dC rfl Tryz.func79 rfl rfl (hs1) rfl (by repeat (first | exact .refl _ | apply Les.cons | exact .nil)) rfl rfl ?_
  skip
  refine dC rfl Tryz.func78 rfl rfl (hsm) rfl (by repeat (first | exact .refl _ | apply Les.cons | exact .nil)) rfl rfl ?_
  ((refine dY rfl (y_move rfl) rfl rfl rfl rfl ?_); refine dY rfl (y_extract rfl rfl) rfl rfl rfl rfl ?_; refine dY rfl (y_extract rfl rfl) rfl rfl rfl rfl ?_; refine dY rfl (y_assign rfl) rfl rfl rfl rfl ?_; refine dY rfl (y_assign rfl) rfl rfl rfl rfl ?_; refine dEnd ?_)
  repeat (first | refine seq_ ?_ | refine region_ ?_ | refine stepY (y_move rfl) rfl ?_ | refine stepY (y_load1 rfl rfl rfl) rfl ?_ | refine stepY (y_fieldAddr rfl) rfl ?_)
  refine call_ Tryz.func79 rfl rfl (hs2) rfl (by repeat (first | exact .refl _ | apply Les.cons | exact .nil)) rfl ?_
  skip
  refine call_ Tryz.func73 rfl rfl (hf) rfl (by repeat (first | exact .refl _ | apply Les.cons | exact .nil)) rfl ?_
  repeat (first | refine nil_ ?_ | refine ret_ ?_ | refine stepY (y_assign rfl) rfl ?_ | refine stepE (e_store rfl rfl rfl rfl rfl rfl rfl) ?_)
  ((apply fin_r); (repeat (first | exact .nil | exact .tmp rfl | exact .agg rfl rfl rfl | apply ResL.cons)); (repeat (exact .refl _)))
end Go.Av

/- Contracts of functions that the laws on fractions reach, and the plain arithmetic behind them: no conditions beyond those in each statement. -/
import Derived.Test.YtdbijjhhifegjaaGreatJ1
import Derived.Test.YtdbijjhhifegjaaGreatRows
import Derived.WalkKit
import Derived.ProofKit
import Derived.OpenShut
import Derived.ShutString
import Derived.ChangeOld
import Derived.Below
import Derived.SizedLaws
import Derived.Lib.SmallJoins
import Derived.Carry
set_option maxHeartbeats 4000000
set_option maxRecDepth 100000
set_option linter.unusedVariables false
set_option linter.unusedSimpArgs false
namespace Go.Av
open Go Go.Proofs
/-- is a value of api.Int in normal form? -/
def vldB (neg : Bool) (l : List Int) : Bool := decide (l.length ≤ 512) && (if l.length = 0 then !neg else decide (rd l (l.length - 1) ≠ 0))
theorem vld_iv {z : Int} (h : ln z.natAbs ≤ 512) : vldB (decide (z < 0)) (limbs z.natAbs) = true := by
  unfold vldB
  rw [limbs_length, decide_eq_true h, Bool.true_and]
  split
  · rename_i h0
    have : ¬ 0 < z.natAbs := fun h1 => by have := ln_pos.2 h1; omega
    simp; omega
  · rename_i h0
    have h1 := top_ne (n := z.natAbs) (ln_pos.1 (by omega))
    rw [rd_limbs _ (by omega), show ((ln z.natAbs : Int) - 1).toNat = ln z.natAbs - 1 by omega]
    simp; omega
theorem iv_vld {neg : Bool} {l : List Int} (hw : wf l) (h : vldB neg l = true) : AV neg l = IV (sgn neg (val l)) ∧ ln (sgn neg (val l)).natAbs ≤ 512 := by
  unfold vldB at h
  rw [Bool.and_eq_true, decide_eq_true_eq] at h
  obtain ⟨h1, h2⟩ := h
  have hlim : limbs (val l) = l := by
    refine limbs_val hw ?_
    split at h2
    · rename_i h0; exact .inl (List.eq_nil_of_length_eq_zero h0)
    · rename_i h0
      rw [decide_eq_true_eq] at h2
      right
      unfold rd at h2
      rwa [show ((l.length : Int) - 1).toNat = l.length - 1 by omega] at h2
  have hln : ln (val l) = l.length := by rw [← limbs_length, hlim]
  refine ⟨?_, by rw [sgn_abs, hln]; exact h1⟩
  unfold IV AV M
  rw [sgn_abs, hlim, sgn_neg]
  congr 3
  cases neg with
  | false => rfl
  | true =>
    have : 0 < val l := by
      split at h2
      · simp at h2
      · rename_i h0; exact ln_pos.1 (by omega)
    simp [this]

theorem Valid_c (neg : Bool) (l : List Int) : Con Tryz.prog 30 [AV neg l] (Bo (vldB neg l)) := by
  refine con_of Tryz.func30 rfl rfl rfl rfl rfl ?_
  refine len_Ca (i := 0) rfl (fun hL => ?_)
  by_cases h1 : l.length ≤ 512
  · by_cases h0 : l.length = 0
    · have e : vldB neg l = !neg := by unfold vldB; rw [decide_eq_true h1, if_pos h0]; rfl
      rw [e]
      have h2 : ¬ (0 : Int) < l.length := by omega
      cases neg <;> (
      repeat (first | refine seq_ ?_ | refine region_ ?_ | refine nil_ ?_ | refine ret_ ?_ | refine guard_t rfl rfl rfl ?_ | refine guard_f rfl rfl rfl rfl ?_ | refine guard_u rfl rfl rfl ?_ | refine stepY (y_move rfl) rfl ?_ | refine stepY (y_assign rfl) rfl ?_ | refine stepY (y_load1 rfl rfl rfl) rfl ?_ | refine stepY (y_fieldAddr rfl) rfl ?_ | refine stepY (y_len_si rfl) rfl ?_ | refine stepY (y_not rfl) rfl ?_ | (first | refine stepY (y_pick_t rfl rfl) rfl ?_ | refine stepY (y_pick_f rfl rfl) rfl ?_) | refine stepY (y_cmpT rfl rfl rfl (by omega)) rfl ?_ | refine stepY (y_cmpT rfl rfl rfl (by omega)) rfl ?_ | refine stepY (y_cmpF rfl rfl rfl (by omega)) rfl ?_ | refine stepE (e_box rfl rfl rfl rfl rfl rfl) ?_)
      ((apply fin_r); (repeat (first | exact .nil | exact .tmp rfl | apply ResL.cons)); (repeat (exact .refl _))))
    · by_cases h3 : rd l ((l.length : Int) - 1) = 0
      · have e : vldB neg l = false := by unfold vldB; rw [decide_eq_true h1, if_neg h0, decide_eq_false (by simpa using h3)]; rfl
        rw [e]
        repeat (first | refine seq_ ?_ | refine region_ ?_ | refine nil_ ?_ | refine ret_ ?_ | refine guard_t rfl rfl rfl ?_ | refine guard_f rfl rfl rfl rfl ?_ | refine stepY (y_move rfl) rfl ?_ | refine stepY (y_assign rfl) rfl ?_ | (first | refine stepY (y_load1 rfl rfl rfl) rfl ?_ | refine stepY (y_load_rc1 rfl rfl) rfl ?_) | refine stepY (y_fieldAddr rfl) rfl ?_ | refine stepY (y_len_si rfl) rfl ?_ | (first | refine stepY (y_pick_t rfl rfl) rfl ?_ | refine stepY (y_pick_f rfl rfl) rfl ?_) | refine stepY (y_index_si rfl rfl (by omega) (by omega)) rfl ?_ | refine stepY (y_binn rfl rfl rfl (by simp only [InK, loK, hiK]; omega)) rfl ?_ | refine stepY (y_cmpF rfl rfl rfl (by omega)) rfl ?_ | refine stepY (y_cmpF rfl rfl rfl (by omega)) rfl ?_ | refine stepY (y_cmpT rfl rfl rfl (by omega)) rfl ?_ | refine stepY (y_cmpT rfl rfl rfl (by omega)) rfl ?_ | refine stepE (e_box rfl rfl rfl rfl rfl rfl) ?_)
        ((apply fin_r); (repeat (first | exact .nil | exact .tmp rfl | apply ResL.cons)); (repeat (exact .refl _)))
      · have e : vldB neg l = true := by unfold vldB; rw [decide_eq_true h1, if_neg h0, decide_eq_true h3]; rfl
        rw [e]
        repeat (first | refine seq_ ?_ | refine region_ ?_ | refine nil_ ?_ | refine ret_ ?_ | refine guard_t rfl rfl rfl ?_ | refine guard_f rfl rfl rfl rfl ?_ | refine stepY (y_move rfl) rfl ?_ | refine stepY (y_assign rfl) rfl ?_ | (first | refine stepY (y_load1 rfl rfl rfl) rfl ?_ | refine stepY (y_load_rc1 rfl rfl) rfl ?_) | refine stepY (y_fieldAddr rfl) rfl ?_ | refine stepY (y_len_si rfl) rfl ?_ | (first | refine stepY (y_pick_t rfl rfl) rfl ?_ | refine stepY (y_pick_f rfl rfl) rfl ?_) | refine stepY (y_index_si rfl rfl (by omega) (by omega)) rfl ?_ | refine stepY (y_binn rfl rfl rfl (by simp only [InK, loK, hiK]; omega)) rfl ?_ | refine stepY (y_cmpF rfl rfl rfl (by omega)) rfl ?_ | refine stepY (y_cmpT rfl rfl rfl (by omega)) rfl ?_ | refine stepY (y_cmpT rfl rfl rfl (by omega)) rfl ?_ | refine stepY (y_cmpT rfl rfl rfl (by omega)) rfl ?_ | refine stepE (e_box rfl rfl rfl rfl rfl rfl) ?_)
        ((apply fin_r); (repeat (first | exact .nil | exact .tmp rfl | apply ResL.cons)); (repeat (exact .refl _)))
  · have e : vldB neg l = false := by unfold vldB; rw [decide_eq_false h1]; rfl
    rw [e]
    repeat (first | refine seq_ ?_ | refine region_ ?_ | refine nil_ ?_ | refine ret_ ?_ | refine guard_f rfl rfl rfl rfl ?_ | refine guard_u rfl rfl rfl ?_ | refine stepY (y_move rfl) rfl ?_ | refine stepY (y_assign rfl) rfl ?_ | refine stepY (y_load1 rfl rfl rfl) rfl ?_ | refine stepY (y_fieldAddr rfl) rfl ?_ | refine stepY (y_len_si rfl) rfl ?_ | refine stepY (y_pick_f rfl rfl) rfl ?_ | refine stepY (y_cmpF rfl rfl rfl (by omega)) rfl ?_ | refine stepE (e_box rfl rfl rfl rfl rfl rfl) ?_)
    ((apply fin_r); (repeat (first | exact .nil | exact .tmp rfl | apply ResL.cons)); (repeat (exact .refl _)))
theorem RValid_c (neg : Bool) (l : List Int) : Con Tryz.prog 20 [AV neg l] (Bo (vldB neg l)) := by
  refine con_of Tryz.func20 rfl rfl rfl rfl rfl ?_
  refine len_Ca (i := 0) rfl (fun hL => ?_)
  by_cases h1 : l.length ≤ 512
  · by_cases h0 : l.length = 0
    · have e : vldB neg l = !neg := by unfold vldB; rw [decide_eq_true h1, if_pos h0]; rfl
      rw [e]
      have h2 : ¬ (0 : Int) < l.length := by omega
      cases neg <;> (
      repeat (first | refine seq_ ?_ | refine region_ ?_ | refine nil_ ?_ | refine ret_ ?_ | refine cond_t rfl ?_ | refine stepY (y_move rfl) rfl ?_ | refine stepY (y_assign rfl) rfl ?_ | refine stepY (y_load1 rfl rfl rfl) rfl ?_ | refine stepY (y_fieldAddr rfl) rfl ?_ | refine stepY (y_len_si rfl) rfl ?_ | refine stepY (y_not rfl) rfl ?_ | refine stepY (y_cmpT rfl rfl rfl (by omega)) rfl ?_ | refine stepE (e_box rfl rfl rfl rfl rfl rfl) ?_)
      ((apply fin_r); (repeat (first | exact .nil | exact .tmp rfl | apply ResL.cons)); (repeat (exact .refl _))))
    · by_cases h3 : rd l ((l.length : Int) - 1) = 0
      · have e : vldB neg l = false := by unfold vldB; rw [decide_eq_true h1, if_neg h0, decide_eq_false (by simpa using h3)]; rfl
        rw [e]
        repeat (first | refine seq_ ?_ | refine region_ ?_ | refine nil_ ?_ | refine skip_ ?_ | refine ret_ ?_ | refine cond_f rfl ?_ | refine guard_t rfl rfl rfl ?_ | refine stepY (y_move rfl) rfl ?_ | refine stepY (y_assign rfl) rfl ?_ | (first | refine stepY (y_load1 rfl rfl rfl) rfl ?_ | refine stepY (y_load_rc1 rfl rfl) rfl ?_) | refine stepY (y_fieldAddr rfl) rfl ?_ | refine stepY (y_len_si rfl) rfl ?_ | refine stepY (y_pick_t rfl rfl) rfl ?_ | refine stepY (y_index_si rfl rfl (by omega) (by omega)) rfl ?_ | refine stepY (y_binn rfl rfl rfl (by simp only [InK, loK, hiK]; omega)) rfl ?_ | refine stepY (y_cmpF rfl rfl rfl (by omega)) rfl ?_ | refine stepY (y_cmpF rfl rfl rfl (by omega)) rfl ?_ | refine stepY (y_cmpT rfl rfl rfl (by omega)) rfl ?_ | refine stepE (e_box rfl rfl rfl rfl rfl rfl) ?_)
        ((apply fin_r); (repeat (first | exact .nil | exact .tmp rfl | apply ResL.cons)); (repeat (exact .refl _)))
      · have e : vldB neg l = true := by unfold vldB; rw [decide_eq_true h1, if_neg h0, decide_eq_true h3]; rfl
        rw [e]
        repeat (first | refine seq_ ?_ | refine region_ ?_ | refine nil_ ?_ | refine skip_ ?_ | refine ret_ ?_ | refine cond_f rfl ?_ | refine guard_t rfl rfl rfl ?_ | refine stepY (y_move rfl) rfl ?_ | refine stepY (y_assign rfl) rfl ?_ | (first | refine stepY (y_load1 rfl rfl rfl) rfl ?_ | refine stepY (y_load_rc1 rfl rfl) rfl ?_) | refine stepY (y_fieldAddr rfl) rfl ?_ | refine stepY (y_len_si rfl) rfl ?_ | refine stepY (y_pick_t rfl rfl) rfl ?_ | refine stepY (y_index_si rfl rfl (by omega) (by omega)) rfl ?_ | refine stepY (y_binn rfl rfl rfl (by simp only [InK, loK, hiK]; omega)) rfl ?_ | refine stepY (y_cmpF rfl rfl rfl (by omega)) rfl ?_ | refine stepY (y_cmpT rfl rfl rfl (by omega)) rfl ?_ | refine stepY (y_cmpT rfl rfl rfl (by omega)) rfl ?_ | refine stepE (e_box rfl rfl rfl rfl rfl rfl) ?_)
        ((apply fin_r); (repeat (first | exact .nil | exact .tmp rfl | apply ResL.cons)); (repeat (exact .refl _)))
  · have e : vldB neg l = false := by unfold vldB; rw [decide_eq_false h1]; rfl
    rw [e]
    repeat (first | refine seq_ ?_ | refine region_ ?_ | refine nil_ ?_ | refine skip_ ?_ | refine ret_ ?_ | refine cond_f rfl ?_ | refine guard_f rfl rfl rfl rfl ?_ | refine stepY (y_move rfl) rfl ?_ | refine stepY (y_assign rfl) rfl ?_ | refine stepY (y_load1 rfl rfl rfl) rfl ?_ | refine stepY (y_fieldAddr rfl) rfl ?_ | refine stepY (y_len_si rfl) rfl ?_ | refine stepY (y_pick_f rfl rfl) rfl ?_ | refine stepY (y_cmpF rfl rfl rfl (by omega)) rfl ?_ | refine stepY (y_cmpF rfl rfl rfl (by omega)) rfl ?_ | refine stepE (e_box rfl rfl rfl rfl rfl rfl) ?_)
    ((apply fin_r); (repeat (first | exact .nil | exact .tmp rfl | apply ResL.cons)); (repeat (exact .refl _)))
theorem Valid_t {z : Int} (h : ln z.natAbs ≤ 512) : Con Tryz.prog 30 [IV z] (Bo true) := by
  have := Valid_c (decide (z < 0)) (limbs z.natAbs); rwa [vld_iv h] at this
theorem RValid_t {z : Int} (h : ln z.natAbs ≤ 512) : Con Tryz.prog 20 [IV z] (Bo true) := by
  have := RValid_c (decide (z < 0)) (limbs z.natAbs); rwa [vld_iv h] at this
end Go.Av

set_option maxHeartbeats 8000000
set_option exponentiation.threshold 100000
set_option maxRecDepth 100000
set_option linter.unusedVariables false
set_option linter.unusedSimpArgs false
namespace Go.Av
open Go Go.Proofs
abbrev SV (p : Bool) (m : Nat) : PV := .ag [Bo p, M m]
theorem vld_ln {p : Bool} {m : Nat} (h : vldB p (limbs m) = true) : ln m ≤ 512 := by
  unfold vldB at h
  rw [Bool.and_eq_true, decide_eq_true_eq, limbs_length] at h
  exact h.1
theorem sgn_self (z : Int) : sgn (decide (z < 0)) z.natAbs = z := by
  unfold sgn
  by_cases h : z < 0
  · simp [h]; omega
  · simp [h]; omega
theorem ln_add {m n : Nat} (hm : ln m ≤ 512) (hn : ln n ≤ 512) : ln (m + n) ≤ 513 := by
  rw [ln_le] at *
  exact sum_lt hm hn
/-! bigint.added -/
def addN (p q : Bool) (m n : Nat) : Bool := if p = q then p else if n ≤ m then p else q
def addL (p q : Bool) (m n : Nat) : List Int := if p = q then padd (max (ln m) (ln n) + 1) (m + n) else if n ≤ m then limbs (m - n) else limbs (n - m)
theorem add_val (p q : Bool) (m n : Nat) : sgn (addN p q m n) (val (addL p q m n)) = sgn p m + sgn q n := by
  unfold addN addL
  by_cases h : p = q
  · rw [if_pos h, if_pos h, val_padd, Nat.mod_eq_of_lt (sum_lt (ln_le.1 (Nat.le_max_left _ _)) (ln_le.1 (Nat.le_max_right _ _)))]
    subst h
    cases p <;> simp [sgn] <;> omega
  · rw [if_neg h, if_neg h]
    by_cases h1 : n ≤ m
    · rw [if_pos h1, if_pos h1, val_limbs]
      cases p <;> cases q <;> simp [sgn] at * <;> omega
    · rw [if_neg h1, if_neg h1, val_limbs]
      cases p <;> cases q <;> simp [sgn] at * <;> omega
theorem add_wf (p q : Bool) (m n : Nat) : wf (addL p q m n) := by
  unfold addL; split
  · exact wf_padd _ _
  · split
    · exact wf_limbs _
    · exact wf_limbs _
theorem add_len {p q : Bool} {m n : Nat} (hm : ln m ≤ 512) (hn : ln n ≤ 512) : (addL p q m n).length ≤ 513 := by
  unfold addL; split
  · rw [padd_length]; omega
  · have h1 := ln_mono (Nat.sub_le m n)
    have h2 := ln_mono (Nat.sub_le n m)
    split <;> rw [limbs_length] <;> omega
theorem added_c (p q : Bool) (m n : Nat) (hm : ln m ≤ 512) (hn : ln n ≤ 512) : Con Tryz.prog 75 [SV p m, SV q n] (.tp [Bo (addN p q m n), Li (addL p q m n)]) := by
  refine con_of Tryz.func75 rfl rfl rfl rfl rfl ?_
  have hsum := Sum_c (limbs m) (limbs n) (wf_limbs _) (wf_limbs _) (by rw [limbs_length]; omega) (by rw [limbs_length]; omega)
  rw [val_limbs, val_limbs, limbs_length, limbs_length] at hsum
  cases p <;> cases q
  · rw [show addN false false m n = false from rfl, show addL false false m n = padd (max (ln m) (ln n) + 1) (m + n) from rfl]
    repeat (first | refine seq_ ?_ | refine region_ ?_ | refine nil_ ?_ | refine block_ ?_ | refine cond_t rfl ?_ | refine stepY (y_assign rfl) rfl ?_ | refine stepY (y_load1 rfl rfl rfl) rfl ?_ | refine stepY (y_fieldAddr rfl) rfl ?_ | refine stepY (y_eqb rfl rfl) rfl ?_ | refine stepE (e_box rfl rfl rfl rfl rfl rfl) ?_)
    refine draw_ [(0, true), (1, true), (2, true), (3, true), (4, true), (5, true), (6, false), (7, true), (8, true)] 1000 [2, 3] mixed (by kernel_rfl) rfl ?_
    ((refine dY rfl (y_fieldAddr rfl) rfl rfl rfl rfl ?_); refine dY rfl (y_load1 rfl rfl rfl) rfl rfl rfl rfl ?_; refine dY rfl (y_fieldAddr rfl) rfl rfl rfl rfl ?_; refine dY rfl (y_load1 rfl rfl rfl) rfl rfl rfl rfl ?_; refine dY rfl (y_fieldAddr rfl) rfl rfl rfl rfl ?_; refine dY rfl (y_load1 rfl rfl rfl) rfl rfl rfl rfl ?_)
    refine dC rfl Tryz.func44 rfl rfl hsum rfl (by repeat (first | exact .refl _ | apply Les.cons | exact .nil)) rfl rfl ?_
    ((refine dY rfl (y_assign rfl) rfl rfl rfl rfl ?_); refine dY rfl (y_assign rfl) rfl rfl rfl rfl ?_; refine dEnd ?_)
    repeat (refine ret_ ?_)
    ((apply fin_r); (repeat (first | exact .nil | exact .tmp rfl | apply ResL.cons)); (repeat (first | exact .refl _ | exact .tag _ _ | apply Le.tp | apply Les.cons | exact .nil)))
  · by_cases h : n ≤ m
    · have hs : 0 ≤ sg m n := by unfold sg; rw [if_neg (by omega)]; split <;> omega
      have hd := Difference_c (limbs m) (limbs n) (wf_limbs _) (wf_limbs _) (by rw [limbs_length]; omega) (by rw [val_limbs, val_limbs]; exact h)
      rw [val_limbs, val_limbs] at hd
      rw [show addN false true m n = false by simp [addN, h], show addL false true m n = limbs (m - n) by simp [addL, h]]
      repeat (first | refine seq_ ?_ | refine region_ ?_ | refine nil_ ?_ | refine block_ ?_ | refine cond_f rfl ?_ | refine stepY (y_assign rfl) rfl ?_ | refine stepY (y_load1 rfl rfl rfl) rfl ?_ | refine stepY (y_fieldAddr rfl) rfl ?_ | refine stepY (y_eqb rfl rfl) rfl ?_ | refine stepE (e_box rfl rfl rfl rfl rfl rfl) ?_)
      refine call_ Tryz.func42 rfl rfl (Compare_c m n) rfl (by repeat (first | exact .refl _ | apply Les.cons | exact .nil)) rfl ?_
      repeat (first | refine seq_ ?_ | refine nil_ ?_ | refine cond_t rfl ?_ | refine stepY (y_assign rfl) rfl ?_ | refine stepY (y_cmpT rfl rfl rfl (by omega)) rfl ?_)
      refine draw_ [(0, true), (1, true), (2, true), (3, true), (4, true), (5, true), (6, false), (7, true), (8, true)] 1000 [2, 3] mixed (by kernel_rfl) rfl ?_
      ((refine dY rfl (y_fieldAddr rfl) rfl rfl rfl rfl ?_); refine dY rfl (y_load1 rfl rfl rfl) rfl rfl rfl rfl ?_; refine dY rfl (y_fieldAddr rfl) rfl rfl rfl rfl ?_; refine dY rfl (y_load1 rfl rfl rfl) rfl rfl rfl rfl ?_; refine dY rfl (y_fieldAddr rfl) rfl rfl rfl rfl ?_; refine dY rfl (y_load1 rfl rfl rfl) rfl rfl rfl rfl ?_)
      refine dC rfl Tryz.func66 rfl rfl hd rfl (by repeat (first | exact .refl _ | apply Les.cons | exact .nil)) rfl rfl ?_
      ((refine dY rfl (y_assign rfl) rfl rfl rfl rfl ?_); refine dY rfl (y_assign rfl) rfl rfl rfl rfl ?_; refine dEnd ?_)
      repeat (refine ret_ ?_)
      ((apply fin_r); (repeat (first | exact .nil | exact .tmp rfl | apply ResL.cons)); (repeat (exact .refl _)))
    · have hs : sg m n = -1 := sg_lt (by omega)
      have hd := Difference_c (limbs n) (limbs m) (wf_limbs _) (wf_limbs _) (by rw [limbs_length]; omega) (by rw [val_limbs, val_limbs]; omega)
      rw [val_limbs, val_limbs] at hd
      rw [show addN false true m n = true by simp [addN, h], show addL false true m n = limbs (n - m) by simp [addL, h]]
      repeat (first | refine seq_ ?_ | refine region_ ?_ | refine nil_ ?_ | refine block_ ?_ | refine cond_f rfl ?_ | refine stepY (y_assign rfl) rfl ?_ | refine stepY (y_load1 rfl rfl rfl) rfl ?_ | refine stepY (y_fieldAddr rfl) rfl ?_ | refine stepY (y_eqb rfl rfl) rfl ?_ | refine stepE (e_box rfl rfl rfl rfl rfl rfl) ?_)
      refine call_ Tryz.func42 rfl rfl (Compare_c m n) rfl (by repeat (first | exact .refl _ | apply Les.cons | exact .nil)) rfl ?_
      rw [hs]
      repeat (first | refine seq_ ?_ | refine nil_ ?_ | refine skip_ ?_ | refine cond_f rfl ?_ | refine stepY (y_assign rfl) rfl ?_ | refine stepY (y_cmpF rfl rfl rfl (by omega)) rfl ?_)
      refine draw_ [(0, true), (1, true), (2, true), (3, true), (4, true), (5, true), (6, false), (7, true), (8, true)] 1000 [2, 3] mixed (by kernel_rfl) rfl ?_
      ((refine dY rfl (y_fieldAddr rfl) rfl rfl rfl rfl ?_); refine dY rfl (y_load1 rfl rfl rfl) rfl rfl rfl rfl ?_; refine dY rfl (y_fieldAddr rfl) rfl rfl rfl rfl ?_; refine dY rfl (y_load1 rfl rfl rfl) rfl rfl rfl rfl ?_; refine dY rfl (y_fieldAddr rfl) rfl rfl rfl rfl ?_; refine dY rfl (y_load1 rfl rfl rfl) rfl rfl rfl rfl ?_)
      refine dC rfl Tryz.func66 rfl rfl hd rfl (by repeat (first | exact .refl _ | apply Les.cons | exact .nil)) rfl rfl ?_
      ((refine dY rfl (y_assign rfl) rfl rfl rfl rfl ?_); refine dY rfl (y_assign rfl) rfl rfl rfl rfl ?_; refine dEnd ?_)
      repeat (refine ret_ ?_)
      ((apply fin_r); (repeat (first | exact .nil | exact .tmp rfl | apply ResL.cons)); (repeat (exact .refl _)))
  · by_cases h : n ≤ m
    · have hs : 0 ≤ sg m n := by unfold sg; rw [if_neg (by omega)]; split <;> omega
      have hd := Difference_c (limbs m) (limbs n) (wf_limbs _) (wf_limbs _) (by rw [limbs_length]; omega) (by rw [val_limbs, val_limbs]; exact h)
      rw [val_limbs, val_limbs] at hd
      rw [show addN true false m n = true by simp [addN, h], show addL true false m n = limbs (m - n) by simp [addL, h]]
      repeat (first | refine seq_ ?_ | refine region_ ?_ | refine nil_ ?_ | refine block_ ?_ | refine cond_f rfl ?_ | refine stepY (y_assign rfl) rfl ?_ | refine stepY (y_load1 rfl rfl rfl) rfl ?_ | refine stepY (y_fieldAddr rfl) rfl ?_ | refine stepY (y_eqb rfl rfl) rfl ?_ | refine stepE (e_box rfl rfl rfl rfl rfl rfl) ?_)
      refine call_ Tryz.func42 rfl rfl (Compare_c m n) rfl (by repeat (first | exact .refl _ | apply Les.cons | exact .nil)) rfl ?_
      repeat (first | refine seq_ ?_ | refine nil_ ?_ | refine cond_t rfl ?_ | refine stepY (y_assign rfl) rfl ?_ | refine stepY (y_cmpT rfl rfl rfl (by omega)) rfl ?_)
      refine draw_ [(0, true), (1, true), (2, true), (3, true), (4, true), (5, true), (6, false), (7, true), (8, true)] 1000 [2, 3] mixed (by kernel_rfl) rfl ?_
      ((refine dY rfl (y_fieldAddr rfl) rfl rfl rfl rfl ?_); refine dY rfl (y_load1 rfl rfl rfl) rfl rfl rfl rfl ?_; refine dY rfl (y_fieldAddr rfl) rfl rfl rfl rfl ?_; refine dY rfl (y_load1 rfl rfl rfl) rfl rfl rfl rfl ?_; refine dY rfl (y_fieldAddr rfl) rfl rfl rfl rfl ?_; refine dY rfl (y_load1 rfl rfl rfl) rfl rfl rfl rfl ?_)
      refine dC rfl Tryz.func66 rfl rfl hd rfl (by repeat (first | exact .refl _ | apply Les.cons | exact .nil)) rfl rfl ?_
      ((refine dY rfl (y_assign rfl) rfl rfl rfl rfl ?_); refine dY rfl (y_assign rfl) rfl rfl rfl rfl ?_; refine dEnd ?_)
      repeat (refine ret_ ?_)
      ((apply fin_r); (repeat (first | exact .nil | exact .tmp rfl | apply ResL.cons)); (repeat (exact .refl _)))
    · have hs : sg m n = -1 := sg_lt (by omega)
      have hd := Difference_c (limbs n) (limbs m) (wf_limbs _) (wf_limbs _) (by rw [limbs_length]; omega) (by rw [val_limbs, val_limbs]; omega)
      rw [val_limbs, val_limbs] at hd
      rw [show addN true false m n = false by simp [addN, h], show addL true false m n = limbs (n - m) by simp [addL, h]]
      repeat (first | refine seq_ ?_ | refine region_ ?_ | refine nil_ ?_ | refine block_ ?_ | refine cond_f rfl ?_ | refine stepY (y_assign rfl) rfl ?_ | refine stepY (y_load1 rfl rfl rfl) rfl ?_ | refine stepY (y_fieldAddr rfl) rfl ?_ | refine stepY (y_eqb rfl rfl) rfl ?_ | refine stepE (e_box rfl rfl rfl rfl rfl rfl) ?_)
      refine call_ Tryz.func42 rfl rfl (Compare_c m n) rfl (by repeat (first | exact .refl _ | apply Les.cons | exact .nil)) rfl ?_
      rw [hs]
      repeat (first | refine seq_ ?_ | refine nil_ ?_ | refine skip_ ?_ | refine cond_f rfl ?_ | refine stepY (y_assign rfl) rfl ?_ | refine stepY (y_cmpF rfl rfl rfl (by omega)) rfl ?_)
      refine draw_ [(0, true), (1, true), (2, true), (3, true), (4, true), (5, true), (6, false), (7, true), (8, true)] 1000 [2, 3] mixed (by kernel_rfl) rfl ?_
      ((refine dY rfl (y_fieldAddr rfl) rfl rfl rfl rfl ?_); refine dY rfl (y_load1 rfl rfl rfl) rfl rfl rfl rfl ?_; refine dY rfl (y_fieldAddr rfl) rfl rfl rfl rfl ?_; refine dY rfl (y_load1 rfl rfl rfl) rfl rfl rfl rfl ?_; refine dY rfl (y_fieldAddr rfl) rfl rfl rfl rfl ?_; refine dY rfl (y_load1 rfl rfl rfl) rfl rfl rfl rfl ?_)
      refine dC rfl Tryz.func66 rfl rfl hd rfl (by repeat (first | exact .refl _ | apply Les.cons | exact .nil)) rfl rfl ?_
      ((refine dY rfl (y_assign rfl) rfl rfl rfl rfl ?_); refine dY rfl (y_assign rfl) rfl rfl rfl rfl ?_; refine dEnd ?_)
      repeat (refine ret_ ?_)
      ((apply fin_r); (repeat (first | exact .nil | exact .tmp rfl | apply ResL.cons)); (repeat (exact .refl _)))
  · rw [show addN true true m n = true from rfl, show addL true true m n = padd (max (ln m) (ln n) + 1) (m + n) from rfl]
    repeat (first | refine seq_ ?_ | refine region_ ?_ | refine nil_ ?_ | refine block_ ?_ | refine cond_t rfl ?_ | refine stepY (y_assign rfl) rfl ?_ | refine stepY (y_load1 rfl rfl rfl) rfl ?_ | refine stepY (y_fieldAddr rfl) rfl ?_ | refine stepY (y_eqb rfl rfl) rfl ?_ | refine stepE (e_box rfl rfl rfl rfl rfl rfl) ?_)
    refine draw_ [(0, true), (1, true), (2, true), (3, true), (4, true), (5, true), (6, false), (7, true), (8, true)] 1000 [2, 3] mixed (by kernel_rfl) rfl ?_
    ((refine dY rfl (y_fieldAddr rfl) rfl rfl rfl rfl ?_); refine dY rfl (y_load1 rfl rfl rfl) rfl rfl rfl rfl ?_; refine dY rfl (y_fieldAddr rfl) rfl rfl rfl rfl ?_; refine dY rfl (y_load1 rfl rfl rfl) rfl rfl rfl rfl ?_; refine dY rfl (y_fieldAddr rfl) rfl rfl rfl rfl ?_; refine dY rfl (y_load1 rfl rfl rfl) rfl rfl rfl rfl ?_)
    refine dC rfl Tryz.func44 rfl rfl hsum rfl (by repeat (first | exact .refl _ | apply Les.cons | exact .nil)) rfl rfl ?_
    ((refine dY rfl (y_assign rfl) rfl rfl rfl rfl ?_); refine dY rfl (y_assign rfl) rfl rfl rfl rfl ?_; refine dEnd ?_)
    repeat (refine ret_ ?_)
    ((apply fin_r); (repeat (first | exact .nil | exact .tmp rfl | apply ResL.cons)); (repeat (first | exact .refl _ | exact .tag _ _ | apply Le.tp | apply Les.cons | exact .nil)))

/-! the errors of functions of two numbers -/
theorem Add_e (p q : Bool) (l k : List Int) (h : (vldB p l && vldB q k) = false) : Con Tryz.prog 45 [AV p l, AV q k] (.tp [FIV 0, E_ 1]) := by
  refine con_of Tryz.func45 rfl rfl rfl rfl rfl ?_
  cases h1 : vldB p l with
  | false =>
    have hv := Valid_c p l
    rw [h1] at hv
    repeat (first | refine seq_ ?_ | refine region_ ?_ | refine nil_ ?_ | refine stepY (y_assign rfl) rfl ?_ | refine stepY (y_loadA rfl rfl rfl) rfl ?_ | refine stepE (e_box rfl rfl rfl rfl rfl rfl) ?_ | refine stepE (e_alloc rfl rfl rfl) ?_)
    refine call_ Tryz.func30 rfl rfl hv rfl (by repeat (first | exact .refl _ | apply Les.cons | exact .nil)) rfl ?_
    repeat (first | refine seq_ ?_ | refine region_ ?_ | refine nil_ ?_ | refine ret_ ?_ | refine cond_t rfl ?_ | refine guard_f rfl rfl rfl rfl ?_ | refine stepY (y_move rfl) rfl ?_ | refine stepY (y_assign rfl) rfl ?_ | refine stepY (y_not rfl) rfl ?_ | refine stepY (y_pick_t rfl rfl) rfl ?_ | refine stepY (y_build rfl rfl rfl) rfl ?_ | refine stepE (e_store rfl rfl rfl rfl rfl rfl rfl) ?_)
    ((apply fin_r); (repeat (first | exact .nil | exact .tmp rfl | exact .agg rfl rfl rfl | apply ResL.cons)); (repeat (first | exact .refl _ | exact .nil _ _ | apply Le.ag | apply Le.tp | apply Les.cons | exact .nil)))
  | true =>
    rw [h1, Bool.true_and] at h
    have hv := Valid_c p l
    have hv2 := Valid_c q k
    rw [h1] at hv
    rw [h] at hv2
    repeat (first | refine seq_ ?_ | refine region_ ?_ | refine nil_ ?_ | refine stepY (y_assign rfl) rfl ?_ | refine stepY (y_loadA rfl rfl rfl) rfl ?_ | refine stepE (e_box rfl rfl rfl rfl rfl rfl) ?_ | refine stepE (e_alloc rfl rfl rfl) ?_)
    refine call_ Tryz.func30 rfl rfl hv rfl (by repeat (first | exact .refl _ | apply Les.cons | exact .nil)) rfl ?_
    repeat (first | refine guard_t rfl rfl rfl ?_ | refine stepY (y_move rfl) rfl ?_ | refine stepY (y_loadA rfl rfl rfl) rfl ?_ | refine stepY (y_not rfl) rfl ?_)
    refine call_ Tryz.func30 rfl rfl hv2 rfl (by repeat (first | exact .refl _ | apply Les.cons | exact .nil)) rfl ?_
    repeat (first | refine seq_ ?_ | refine region_ ?_ | refine nil_ ?_ | refine ret_ ?_ | refine cond_t rfl ?_ | refine guard_t rfl rfl rfl ?_ | refine stepY (y_assign rfl) rfl ?_ | refine stepY (y_not rfl) rfl ?_ | refine stepY (y_pick_f rfl rfl) rfl ?_ | refine stepY (y_build rfl rfl rfl) rfl ?_ | refine stepE (e_store rfl rfl rfl rfl rfl rfl rfl) ?_)
    ((apply fin_r); (repeat (first | exact .nil | exact .tmp rfl | exact .agg rfl rfl rfl | apply ResL.cons)); (repeat (first | exact .refl _ | exact .nil _ _ | apply Le.ag | apply Le.tp | apply Les.cons | exact .nil)))
theorem Mul_e (p q : Bool) (l k : List Int) (h : (vldB p l && vldB q k) = false) : Con Tryz.prog 69 [AV p l, AV q k] (.tp [FIV 0, E_ 1]) := by
  refine con_of Tryz.func69 rfl rfl rfl rfl rfl ?_
  cases h1 : vldB p l with
  | false =>
    have hv := Valid_c p l
    rw [h1] at hv
    repeat (first | refine seq_ ?_ | refine region_ ?_ | refine nil_ ?_ | refine stepY (y_assign rfl) rfl ?_ | refine stepY (y_loadA rfl rfl rfl) rfl ?_ | refine stepE (e_box rfl rfl rfl rfl rfl rfl) ?_ | refine stepE (e_alloc rfl rfl rfl) ?_)
    refine call_ Tryz.func30 rfl rfl hv rfl (by repeat (first | exact .refl _ | apply Les.cons | exact .nil)) rfl ?_
    repeat (first | refine seq_ ?_ | refine region_ ?_ | refine nil_ ?_ | refine ret_ ?_ | refine cond_t rfl ?_ | refine guard_f rfl rfl rfl rfl ?_ | refine stepY (y_move rfl) rfl ?_ | refine stepY (y_assign rfl) rfl ?_ | refine stepY (y_not rfl) rfl ?_ | refine stepY (y_pick_t rfl rfl) rfl ?_ | refine stepY (y_build rfl rfl rfl) rfl ?_ | refine stepE (e_store rfl rfl rfl rfl rfl rfl rfl) ?_)
    ((apply fin_r); (repeat (first | exact .nil | exact .tmp rfl | exact .agg rfl rfl rfl | apply ResL.cons)); (repeat (first | exact .refl _ | exact .nil _ _ | apply Le.ag | apply Le.tp | apply Les.cons | exact .nil)))
  | true =>
    rw [h1, Bool.true_and] at h
    have hv := Valid_c p l
    have hv2 := Valid_c q k
    rw [h1] at hv
    rw [h] at hv2
    repeat (first | refine seq_ ?_ | refine region_ ?_ | refine nil_ ?_ | refine stepY (y_assign rfl) rfl ?_ | refine stepY (y_loadA rfl rfl rfl) rfl ?_ | refine stepE (e_box rfl rfl rfl rfl rfl rfl) ?_ | refine stepE (e_alloc rfl rfl rfl) ?_)
    refine call_ Tryz.func30 rfl rfl hv rfl (by repeat (first | exact .refl _ | apply Les.cons | exact .nil)) rfl ?_
    repeat (first | refine guard_t rfl rfl rfl ?_ | refine stepY (y_move rfl) rfl ?_ | refine stepY (y_loadA rfl rfl rfl) rfl ?_ | refine stepY (y_not rfl) rfl ?_)
    refine call_ Tryz.func30 rfl rfl hv2 rfl (by repeat (first | exact .refl _ | apply Les.cons | exact .nil)) rfl ?_
    repeat (first | refine seq_ ?_ | refine region_ ?_ | refine nil_ ?_ | refine ret_ ?_ | refine cond_t rfl ?_ | refine guard_t rfl rfl rfl ?_ | refine stepY (y_assign rfl) rfl ?_ | refine stepY (y_not rfl) rfl ?_ | refine stepY (y_pick_f rfl rfl) rfl ?_ | refine stepY (y_build rfl rfl rfl) rfl ?_ | refine stepE (e_store rfl rfl rfl rfl rfl rfl rfl) ?_)
    ((apply fin_r); (repeat (first | exact .nil | exact .tmp rfl | exact .agg rfl rfl rfl | apply ResL.cons)); (repeat (first | exact .refl _ | exact .nil _ _ | apply Le.ag | apply Le.tp | apply Les.cons | exact .nil)))
theorem Cmp_e (p q : Bool) (l k : List Int) (h : (vldB p l && vldB q k) = false) : Con Tryz.prog 67 [AV p l, AV q k] (I 0) := by
  refine con_of Tryz.func67 rfl rfl rfl rfl rfl ?_
  cases h1 : vldB p l with
  | false =>
    have hv := Valid_c p l
    rw [h1] at hv
    repeat (first | refine seq_ ?_ | refine region_ ?_ | refine nil_ ?_ | refine block_ ?_ | refine stepY (y_assign rfl) rfl ?_ | refine stepY (y_loadA rfl rfl rfl) rfl ?_ | refine stepE (e_box rfl rfl rfl rfl rfl rfl) ?_)
    refine call_ Tryz.func30 rfl rfl hv rfl (by repeat (first | exact .refl _ | apply Les.cons | exact .nil)) rfl ?_
    repeat (first | refine seq_ ?_ | refine region_ ?_ | refine nil_ ?_ | refine ret_ ?_ | refine cond_t rfl ?_ | refine guard_f rfl rfl rfl rfl ?_ | refine stepY (y_move rfl) rfl ?_ | refine stepY (y_assign rfl) rfl ?_ | refine stepY (y_not rfl) rfl ?_ | refine stepY (y_pick_t rfl rfl) rfl ?_)
    ((apply fin_r); (repeat (first | exact .nil | exact .tmp rfl | apply ResL.cons)); (repeat (exact .refl _)))
  | true =>
    rw [h1, Bool.true_and] at h
    have hv := Valid_c p l
    have hv2 := Valid_c q k
    rw [h1] at hv
    rw [h] at hv2
    repeat (first | refine seq_ ?_ | refine region_ ?_ | refine nil_ ?_ | refine block_ ?_ | refine stepY (y_assign rfl) rfl ?_ | refine stepY (y_loadA rfl rfl rfl) rfl ?_ | refine stepE (e_box rfl rfl rfl rfl rfl rfl) ?_)
    refine call_ Tryz.func30 rfl rfl hv rfl (by repeat (first | exact .refl _ | apply Les.cons | exact .nil)) rfl ?_
    repeat (first | refine guard_t rfl rfl rfl ?_ | refine stepY (y_move rfl) rfl ?_ | refine stepY (y_loadA rfl rfl rfl) rfl ?_ | refine stepY (y_not rfl) rfl ?_)
    refine call_ Tryz.func30 rfl rfl hv2 rfl (by repeat (first | exact .refl _ | apply Les.cons | exact .nil)) rfl ?_
    repeat (first | refine seq_ ?_ | refine region_ ?_ | refine nil_ ?_ | refine ret_ ?_ | refine cond_t rfl ?_ | refine guard_t rfl rfl rfl ?_ | refine stepY (y_assign rfl) rfl ?_ | refine stepY (y_not rfl) rfl ?_ | refine stepY (y_pick_f rfl rfl) rfl ?_)
    ((apply fin_r); (repeat (first | exact .nil | exact .tmp rfl | apply ResL.cons)); (repeat (exact .refl _)))
theorem Neg_e (p : Bool) (l : List Int) (h : vldB p l = false) : Con Tryz.prog 70 [AV p l] (FIV 0) := by
  refine con_of Tryz.func70 rfl rfl rfl rfl rfl ?_
  have hv := Valid_c p l
  rw [h] at hv
  repeat (first | refine seq_ ?_ | refine region_ ?_ | refine nil_ ?_ | refine stepY (y_loadA rfl rfl rfl) rfl ?_ | refine stepE (e_box rfl rfl rfl rfl rfl rfl) ?_ | refine stepE (e_alloc rfl rfl rfl) ?_)
  refine call_ Tryz.func30 rfl rfl hv rfl (by repeat (first | exact .refl _ | apply Les.cons | exact .nil)) rfl ?_
  repeat (first | refine seq_ ?_ | refine region_ ?_ | refine nil_ ?_ | refine ret_ ?_ | refine cond_t rfl ?_ | refine stepY (y_not rfl) rfl ?_ | refine stepY (y_build rfl rfl rfl) rfl ?_ | refine stepE (e_store rfl rfl rfl rfl rfl rfl rfl) ?_)
  ((apply fin_r); (repeat (first | exact .nil | exact .agg rfl rfl rfl | apply ResL.cons)); (repeat (first | exact .refl _ | exact .nil _ _ | apply Le.ag | apply Les.cons | exact .nil)))
end Go.Av

set_option maxHeartbeats 8000000
set_option exponentiation.threshold 100000
set_option maxRecDepth 100000
set_option linter.unusedVariables false
set_option linter.unusedSimpArgs false
namespace Go.Av
open Go Go.Proofs
theorem vld_pos {p : Bool} {m : Nat} (h : vldB p (limbs m) = true) : p = true → 0 < m := by
  intro hp
  subst hp
  unfold vldB at h
  rw [Bool.and_eq_true, limbs_length] at h
  rcases Nat.eq_zero_or_pos m with h0 | h0
  · subst h0
    have h2 := h.2
    rw [if_pos ln_zero] at h2
    cases h2
  · exact h0
theorem ln_mul {m n : Nat} (hm : ln m ≤ 512) (hn : ln n ≤ 512) : ln (m * n) ≤ 1024 := by
  rw [ln_le] at *
  rcases Nat.eq_zero_or_pos n with h | h
  · subst h; exact Bp_pos _
  · have : m * n < B ^ 512 * B ^ 512 := Nat.mul_lt_mul_of_lt_of_le hm (Nat.le_of_lt hn) (Bp_pos _)
    rwa [← Nat.pow_add] at this
theorem sgn_mul (p q : Bool) (m n : Nat) : sgn (p != q) (m * n) = sgn p m * sgn q n := by
  cases p <;> cases q <;> simp [sgn, Int.neg_mul, Int.mul_neg]
theorem sgn_not (q : Bool) (n : Nat) : sgn (!q) n = - sgn q n := by cases q <;> simp [sgn]
/-- the order of two whole numbers -/
def icmp (x y : Int) : Int := if x < y then -1 else if y < x then 1 else 0

theorem Add_s (p q : Bool) (m n : Nat) (hp : vldB p (limbs m) = true) (hq : vldB q (limbs n) = true) : Con Tryz.prog 45 [SV p m, SV q n] (resI (sgn p m + sgn q n)) := by
  refine con_of Tryz.func45 rfl rfl rfl rfl rfl ?_
  have hv1 := Valid_c p (limbs m)
  have hv2 := Valid_c q (limbs n)
  rw [hp] at hv1
  rw [hq] at hv2
  have ha := added_c p q m n (vld_ln hp) (vld_ln hq)
  have hr := result_c (addN p q m n) (addL p q m n) (add_wf _ _ _ _) (by have := add_len (p := p) (q := q) (vld_ln hp) (vld_ln hq); omega)
  rw [add_val] at hr
  generalize sgn p m + sgn q n = z at *
  by_cases h : ln z.natAbs ≤ 512
  · rw [resI_ok h] at *
    repeat (first | refine seq_ ?_ | refine region_ ?_ | refine nil_ ?_ | refine stepY (y_assign rfl) rfl ?_ | refine stepY (y_loadA rfl rfl rfl) rfl ?_ | refine stepE (e_box rfl rfl rfl rfl rfl rfl) ?_ | refine stepE (e_alloc rfl rfl rfl) ?_)
    refine call_ Tryz.func30 rfl rfl hv1 rfl (by repeat (first | exact .refl _ | apply Les.cons | exact .nil)) rfl ?_
    repeat (first | refine guard_t rfl rfl rfl ?_ | refine stepY (y_move rfl) rfl ?_ | refine stepY (y_loadA rfl rfl rfl) rfl ?_ | refine stepY (y_not rfl) rfl ?_)
    refine call_ Tryz.func30 rfl rfl hv2 rfl (by repeat (first | exact .refl _ | apply Les.cons | exact .nil)) rfl ?_
    repeat (first | refine seq_ ?_ | refine region_ ?_ | refine nil_ ?_ | refine skip_ ?_ | refine cond_f rfl ?_ | refine guard_t rfl rfl rfl ?_ | refine stepY (y_loadA rfl rfl rfl) rfl ?_ | refine stepY (y_not rfl) rfl ?_ | refine stepY (y_pick_f rfl rfl) rfl ?_)
    refine call_ Tryz.func75 rfl rfl ha rfl (by repeat (first | exact .refl _ | apply Les.cons | exact .nil)) rfl ?_
    repeat (refine stepY (y_extract rfl rfl) rfl ?_)
    refine call_ Tryz.func74 rfl rfl hr rfl (by repeat (first | exact .refl _ | apply Les.cons | exact .nil)) rfl ?_
    repeat (first | refine nil_ ?_ | refine ret_ ?_ | refine stepY (y_assign rfl) rfl ?_ | refine stepY (y_extract rfl rfl) rfl ?_ | refine stepE (e_store rfl rfl rfl rfl rfl rfl rfl) ?_)
    ((apply fin_r); (repeat (first | exact .nil | exact .tmp rfl | exact .agg rfl rfl rfl | apply ResL.cons)); (repeat (exact .refl _)))
  · rw [resI_no h] at *
    repeat (first | refine seq_ ?_ | refine region_ ?_ | refine nil_ ?_ | refine stepY (y_assign rfl) rfl ?_ | refine stepY (y_loadA rfl rfl rfl) rfl ?_ | refine stepE (e_box rfl rfl rfl rfl rfl rfl) ?_ | refine stepE (e_alloc rfl rfl rfl) ?_)
    refine call_ Tryz.func30 rfl rfl hv1 rfl (by repeat (first | exact .refl _ | apply Les.cons | exact .nil)) rfl ?_
    repeat (first | refine guard_t rfl rfl rfl ?_ | refine stepY (y_move rfl) rfl ?_ | refine stepY (y_loadA rfl rfl rfl) rfl ?_ | refine stepY (y_not rfl) rfl ?_)
    refine call_ Tryz.func30 rfl rfl hv2 rfl (by repeat (first | exact .refl _ | apply Les.cons | exact .nil)) rfl ?_
    repeat (first | refine seq_ ?_ | refine region_ ?_ | refine nil_ ?_ | refine skip_ ?_ | refine cond_f rfl ?_ | refine guard_t rfl rfl rfl ?_ | refine stepY (y_loadA rfl rfl rfl) rfl ?_ | refine stepY (y_not rfl) rfl ?_ | refine stepY (y_pick_f rfl rfl) rfl ?_)
    refine call_ Tryz.func75 rfl rfl ha rfl (by repeat (first | exact .refl _ | apply Les.cons | exact .nil)) rfl ?_
    repeat (refine stepY (y_extract rfl rfl) rfl ?_)
    refine call_ Tryz.func74 rfl rfl hr rfl (by repeat (first | exact .refl _ | apply Les.cons | exact .nil)) rfl ?_
    repeat (first | refine nil_ ?_ | refine ret_ ?_ | refine stepY (y_assign rfl) rfl ?_ | refine stepY (y_extract rfl rfl) rfl ?_ | refine stepE (e_store rfl rfl rfl rfl rfl rfl rfl) ?_)
    ((apply fin_r); (repeat (first | exact .nil | exact .tmp rfl | exact .agg rfl rfl rfl | apply ResL.cons)); (repeat (exact .refl _)))

theorem Neg_s (p : Bool) (m : Nat) (hp : vldB p (limbs m) = true) : Con Tryz.prog 70 [SV p m] (FIV (- sgn p m)) := by
  refine con_of Tryz.func70 rfl rfl rfl rfl rfl ?_
  have hv1 := Valid_c p (limbs m)
  rw [hp] at hv1
  have hm := made_c (!p) (limbs m) (wf_limbs _) (by rw [limbs_length]; have := vld_ln hp; omega)
  rw [val_limbs, sgn_not] at hm
  repeat (first | refine seq_ ?_ | refine region_ ?_ | refine nil_ ?_ | refine stepY (y_loadA rfl rfl rfl) rfl ?_ | refine stepE (e_box rfl rfl rfl rfl rfl rfl) ?_ | refine stepE (e_alloc rfl rfl rfl) ?_)
  refine call_ Tryz.func30 rfl rfl hv1 rfl (by repeat (first | exact .refl _ | apply Les.cons | exact .nil)) rfl ?_
  repeat (first | refine seq_ ?_ | refine region_ ?_ | refine nil_ ?_ | refine skip_ ?_ | refine cond_f rfl ?_ | refine stepY (y_load1 rfl rfl rfl) rfl ?_ | refine stepY (y_fieldAddr rfl) rfl ?_ | refine stepY (y_not rfl) rfl ?_)
  refine call_ Tryz.func71 rfl rfl hm rfl (by repeat (first | exact .refl _ | apply Les.cons | exact .nil)) rfl ?_
  repeat (first | refine nil_ ?_ | refine ret_ ?_ | refine stepE (e_store rfl rfl rfl rfl rfl rfl rfl) ?_)
  ((apply fin_r); (repeat (first | exact .nil | exact .agg rfl rfl rfl | apply ResL.cons)); (repeat (exact .refl _)))
theorem Mul_s (p q : Bool) (m n : Nat) (hp : vldB p (limbs m) = true) (hq : vldB q (limbs n) = true) : Con Tryz.prog 69 [SV p m, SV q n] (resI (sgn p m * sgn q n)) := by
  refine con_of Tryz.func69 rfl rfl rfl rfl rfl ?_
  have hv1 := Valid_c p (limbs m)
  have hv2 := Valid_c q (limbs n)
  rw [hp] at hv1
  rw [hq] at hv2
  have hlm := vld_ln hp
  have hln := vld_ln hq
  have hd := Product_c (limbs m) (limbs n) (wf_limbs _) (wf_limbs _) (by rw [limbs_length]; omega) (by rw [limbs_length]; omega)
  rw [val_limbs, val_limbs] at hd
  have hr := result_c (p != q) (limbs (m * n)) (wf_limbs _) (by rw [limbs_length]; have := ln_mul hlm hln; omega)
  rw [val_limbs, sgn_mul] at hr
  cases p <;> cases q <;> (
  generalize sgn _ m * sgn _ n = z at *
  by_cases h : ln z.natAbs ≤ 512
  · rw [resI_ok h] at *
    repeat (first | refine seq_ ?_ | refine region_ ?_ | refine nil_ ?_ | refine stepY (y_assign rfl) rfl ?_ | refine stepY (y_loadA rfl rfl rfl) rfl ?_ | refine stepE (e_box rfl rfl rfl rfl rfl rfl) ?_ | refine stepE (e_alloc rfl rfl rfl) ?_)
    refine call_ Tryz.func30 rfl rfl hv1 rfl (by repeat (first | exact .refl _ | apply Les.cons | exact .nil)) rfl ?_
    repeat (first | refine guard_t rfl rfl rfl ?_ | refine stepY (y_move rfl) rfl ?_ | refine stepY (y_loadA rfl rfl rfl) rfl ?_ | refine stepY (y_not rfl) rfl ?_)
    refine call_ Tryz.func30 rfl rfl hv2 rfl (by repeat (first | exact .refl _ | apply Les.cons | exact .nil)) rfl ?_
    repeat (first | refine seq_ ?_ | refine nil_ ?_ | refine skip_ ?_ | refine cond_f rfl ?_ | refine guard_t rfl rfl rfl ?_ | refine stepY (y_not rfl) rfl ?_ | refine stepY (y_pick_f rfl rfl) rfl ?_)
    refine draw_ [(0, true), (1, true), (2, true), (3, true), (4, true), (5, true), (6, true), (7, true), (8, true), (9, false), (10, false), (11, true), (12, true), (13, false), (14, true)] 1000 [2, 3] mixed (by kernel_rfl) rfl ?_
    ((refine dY rfl (y_fieldAddr rfl) rfl rfl rfl rfl ?_); refine dY rfl (y_load1 rfl rfl rfl) rfl rfl rfl rfl ?_; refine dY rfl (y_fieldAddr rfl) rfl rfl rfl rfl ?_; refine dY rfl (y_load1 rfl rfl rfl) rfl rfl rfl rfl ?_; refine dY rfl (y_neb rfl rfl) rfl rfl rfl rfl ?_; refine dY rfl (y_fieldAddr rfl) rfl rfl rfl rfl ?_; refine dY rfl (y_load1 rfl rfl rfl) rfl rfl rfl rfl ?_; refine dY rfl (y_fieldAddr rfl) rfl rfl rfl rfl ?_; refine dY rfl (y_load1 rfl rfl rfl) rfl rfl rfl rfl ?_)
    refine dC rfl Tryz.func65 rfl rfl hd rfl (by repeat (first | exact .refl _ | apply Les.cons | exact .nil)) rfl rfl ?_
    refine dC rfl Tryz.func74 rfl rfl hr rfl (by repeat (first | exact .refl _ | apply Les.cons | exact .nil)) rfl rfl ?_
    skip
    ((refine dY rfl (y_extract rfl rfl) rfl rfl rfl rfl ?_); refine dY rfl (y_extract rfl rfl) rfl rfl rfl rfl ?_; (refine dE rfl (e_store rfl rfl rfl rfl rfl rfl rfl) rfl rfl ?_); refine dY rfl (y_assign rfl) rfl rfl rfl rfl ?_; refine dEnd ?_)
    repeat (refine ret_ ?_)
    ((apply fin_r); (repeat (first | exact .nil | exact .tmp rfl | exact .agg rfl rfl rfl | apply ResL.cons)); (repeat (exact .refl _)))
  · rw [resI_no h] at *
    repeat (first | refine seq_ ?_ | refine region_ ?_ | refine nil_ ?_ | refine stepY (y_assign rfl) rfl ?_ | refine stepY (y_loadA rfl rfl rfl) rfl ?_ | refine stepE (e_box rfl rfl rfl rfl rfl rfl) ?_ | refine stepE (e_alloc rfl rfl rfl) ?_)
    refine call_ Tryz.func30 rfl rfl hv1 rfl (by repeat (first | exact .refl _ | apply Les.cons | exact .nil)) rfl ?_
    repeat (first | refine guard_t rfl rfl rfl ?_ | refine stepY (y_move rfl) rfl ?_ | refine stepY (y_loadA rfl rfl rfl) rfl ?_ | refine stepY (y_not rfl) rfl ?_)
    refine call_ Tryz.func30 rfl rfl hv2 rfl (by repeat (first | exact .refl _ | apply Les.cons | exact .nil)) rfl ?_
    repeat (first | refine seq_ ?_ | refine nil_ ?_ | refine skip_ ?_ | refine cond_f rfl ?_ | refine guard_t rfl rfl rfl ?_ | refine stepY (y_not rfl) rfl ?_ | refine stepY (y_pick_f rfl rfl) rfl ?_)
    refine draw_ [(0, true), (1, true), (2, true), (3, true), (4, true), (5, true), (6, true), (7, true), (8, true), (9, false), (10, false), (11, true), (12, true), (13, false), (14, true)] 1000 [2, 3] mixed (by kernel_rfl) rfl ?_
    ((refine dY rfl (y_fieldAddr rfl) rfl rfl rfl rfl ?_); refine dY rfl (y_load1 rfl rfl rfl) rfl rfl rfl rfl ?_; refine dY rfl (y_fieldAddr rfl) rfl rfl rfl rfl ?_; refine dY rfl (y_load1 rfl rfl rfl) rfl rfl rfl rfl ?_; refine dY rfl (y_neb rfl rfl) rfl rfl rfl rfl ?_; refine dY rfl (y_fieldAddr rfl) rfl rfl rfl rfl ?_; refine dY rfl (y_load1 rfl rfl rfl) rfl rfl rfl rfl ?_; refine dY rfl (y_fieldAddr rfl) rfl rfl rfl rfl ?_; refine dY rfl (y_load1 rfl rfl rfl) rfl rfl rfl rfl ?_)
    refine dC rfl Tryz.func65 rfl rfl hd rfl (by repeat (first | exact .refl _ | apply Les.cons | exact .nil)) rfl rfl ?_
    refine dC rfl Tryz.func74 rfl rfl hr rfl (by repeat (first | exact .refl _ | apply Les.cons | exact .nil)) rfl rfl ?_
    skip
    ((refine dY rfl (y_extract rfl rfl) rfl rfl rfl rfl ?_); refine dY rfl (y_extract rfl rfl) rfl rfl rfl rfl ?_; (refine dE rfl (e_store rfl rfl rfl rfl rfl rfl rfl) rfl rfl ?_); refine dY rfl (y_assign rfl) rfl rfl rfl rfl ?_; refine dEnd ?_)
    repeat (refine ret_ ?_)
    ((apply fin_r); (repeat (first | exact .nil | exact .tmp rfl | exact .agg rfl rfl rfl | apply ResL.cons)); (repeat (exact .refl _)))
  )
end Go.Av

set_option maxHeartbeats 8000000
set_option exponentiation.threshold 100000
set_option maxRecDepth 100000
set_option linter.unusedVariables false
set_option linter.unusedSimpArgs false
namespace Go.Av
open Go Go.Proofs
theorem icmp_pp (m n : Nat) : icmp (sgn false m) (sgn false n) = sg m n := by
  unfold icmp sg sgn; simp
theorem icmp_nn (m n : Nat) : icmp (sgn true m) (sgn true n) = sg n m := by
  unfold icmp sg sgn; simp
theorem icmp_np {m n : Nat} (h : 0 < m) : icmp (sgn true m) (sgn false n) = -1 := by
  unfold icmp; rw [show sgn true m = -(m : Int) from rfl, show sgn false n = (n : Int) from rfl, if_pos (by omega)]
theorem icmp_pn {m n : Nat} (h : 0 < n) : icmp (sgn false m) (sgn true n) = 1 := by
  unfold icmp; rw [show sgn true n = -(n : Int) from rfl, show sgn false m = (m : Int) from rfl, if_neg (by omega), if_pos (by omega)]
theorem Cmp_s (p q : Bool) (m n : Nat) (hp : vldB p (limbs m) = true) (hq : vldB q (limbs n) = true) : Con Tryz.prog 67 [SV p m, SV q n] (I (icmp (sgn p m) (sgn q n))) := by
  refine con_of Tryz.func67 rfl rfl rfl rfl rfl ?_
  have hv1 := Valid_c p (limbs m)
  have hv2 := Valid_c q (limbs n)
  rw [hp] at hv1
  rw [hq] at hv2
  have hpm := vld_pos hp
  have hqn := vld_pos hq
  cases p <;> cases q
  · rw [icmp_pp]
    repeat (first | refine seq_ ?_ | refine region_ ?_ | refine nil_ ?_ | refine block_ ?_ | refine stepY (y_assign rfl) rfl ?_ | refine stepY (y_loadA rfl rfl rfl) rfl ?_ | refine stepE (e_box rfl rfl rfl rfl rfl rfl) ?_)
    refine call_ Tryz.func30 rfl rfl hv1 rfl (by repeat (first | exact .refl _ | apply Les.cons | exact .nil)) rfl ?_
    repeat (first | refine guard_t rfl rfl rfl ?_ | refine stepY (y_move rfl) rfl ?_ | refine stepY (y_loadA rfl rfl rfl) rfl ?_ | refine stepY (y_not rfl) rfl ?_)
    refine call_ Tryz.func30 rfl rfl hv2 rfl (by repeat (first | exact .refl _ | apply Les.cons | exact .nil)) rfl ?_
    repeat (first | refine seq_ ?_ | refine region_ ?_ | refine nil_ ?_ | refine skip_ ?_ | refine cond_f rfl ?_ | refine guard_t rfl rfl rfl ?_ | refine guard_f rfl rfl rfl rfl ?_ | refine stepY (y_move rfl) rfl ?_ | refine stepY (y_assign rfl) rfl ?_ | refine stepY (y_load1 rfl rfl rfl) rfl ?_ | refine stepY (y_fieldAddr rfl) rfl ?_ | refine stepY (y_not rfl) rfl ?_ | (first | refine stepY (y_pick_t rfl rfl) rfl ?_ | refine stepY (y_pick_f rfl rfl) rfl ?_))
    refine call_ Tryz.func42 rfl rfl (Compare_c m n) rfl (by repeat (first | exact .refl _ | apply Les.cons | exact .nil)) rfl ?_
    repeat (first | refine nil_ ?_ | refine ret_ ?_ | refine stepY (y_assign rfl) rfl ?_)
    ((apply fin_r); (repeat (first | exact .nil | exact .tmp rfl | apply ResL.cons)); (repeat (exact .refl _)))
  · rw [icmp_pn (hqn rfl)]
    repeat (first | refine seq_ ?_ | refine region_ ?_ | refine nil_ ?_ | refine block_ ?_ | refine stepY (y_assign rfl) rfl ?_ | refine stepY (y_loadA rfl rfl rfl) rfl ?_ | refine stepE (e_box rfl rfl rfl rfl rfl rfl) ?_)
    refine call_ Tryz.func30 rfl rfl hv1 rfl (by repeat (first | exact .refl _ | apply Les.cons | exact .nil)) rfl ?_
    repeat (first | refine guard_t rfl rfl rfl ?_ | refine stepY (y_move rfl) rfl ?_ | refine stepY (y_loadA rfl rfl rfl) rfl ?_ | refine stepY (y_not rfl) rfl ?_)
    refine call_ Tryz.func30 rfl rfl hv2 rfl (by repeat (first | exact .refl _ | apply Les.cons | exact .nil)) rfl ?_
    repeat (first | refine seq_ ?_ | refine region_ ?_ | refine nil_ ?_ | refine ret_ ?_ | refine cond_t rfl ?_ | refine cond_f rfl ?_ | refine guard_t rfl rfl rfl ?_ | refine guard_f rfl rfl rfl rfl ?_ | refine stepY (y_move rfl) rfl ?_ | refine stepY (y_assign rfl) rfl ?_ | refine stepY (y_load1 rfl rfl rfl) rfl ?_ | refine stepY (y_fieldAddr rfl) rfl ?_ | refine stepY (y_not rfl) rfl ?_ | (first | refine stepY (y_pick_t rfl rfl) rfl ?_ | refine stepY (y_pick_f rfl rfl) rfl ?_))
    ((apply fin_r); (repeat (first | exact .nil | exact .tmp rfl | apply ResL.cons)); (repeat (exact .refl _)))
  · rw [icmp_np (hpm rfl)]
    repeat (first | refine seq_ ?_ | refine region_ ?_ | refine nil_ ?_ | refine block_ ?_ | refine stepY (y_assign rfl) rfl ?_ | refine stepY (y_loadA rfl rfl rfl) rfl ?_ | refine stepE (e_box rfl rfl rfl rfl rfl rfl) ?_)
    refine call_ Tryz.func30 rfl rfl hv1 rfl (by repeat (first | exact .refl _ | apply Les.cons | exact .nil)) rfl ?_
    repeat (first | refine guard_t rfl rfl rfl ?_ | refine stepY (y_move rfl) rfl ?_ | refine stepY (y_loadA rfl rfl rfl) rfl ?_ | refine stepY (y_not rfl) rfl ?_)
    refine call_ Tryz.func30 rfl rfl hv2 rfl (by repeat (first | exact .refl _ | apply Les.cons | exact .nil)) rfl ?_
    repeat (first | refine seq_ ?_ | refine region_ ?_ | refine nil_ ?_ | refine ret_ ?_ | refine cond_t rfl ?_ | refine cond_f rfl ?_ | refine guard_t rfl rfl rfl ?_ | refine stepY (y_move rfl) rfl ?_ | refine stepY (y_assign rfl) rfl ?_ | refine stepY (y_load1 rfl rfl rfl) rfl ?_ | refine stepY (y_fieldAddr rfl) rfl ?_ | refine stepY (y_not rfl) rfl ?_ | (first | refine stepY (y_pick_t rfl rfl) rfl ?_ | refine stepY (y_pick_f rfl rfl) rfl ?_))
    ((apply fin_r); (repeat (first | exact .nil | exact .tmp rfl | apply ResL.cons)); (repeat (exact .refl _)))
  · rw [icmp_nn]
    repeat (first | refine seq_ ?_ | refine region_ ?_ | refine nil_ ?_ | refine block_ ?_ | refine stepY (y_assign rfl) rfl ?_ | refine stepY (y_loadA rfl rfl rfl) rfl ?_ | refine stepE (e_box rfl rfl rfl rfl rfl rfl) ?_)
    refine call_ Tryz.func30 rfl rfl hv1 rfl (by repeat (first | exact .refl _ | apply Les.cons | exact .nil)) rfl ?_
    repeat (first | refine guard_t rfl rfl rfl ?_ | refine stepY (y_move rfl) rfl ?_ | refine stepY (y_loadA rfl rfl rfl) rfl ?_ | refine stepY (y_not rfl) rfl ?_)
    refine call_ Tryz.func30 rfl rfl hv2 rfl (by repeat (first | exact .refl _ | apply Les.cons | exact .nil)) rfl ?_
    repeat (first | refine seq_ ?_ | refine region_ ?_ | refine nil_ ?_ | refine cond_t rfl ?_ | refine cond_f rfl ?_ | refine guard_t rfl rfl rfl ?_ | refine guard_f rfl rfl rfl rfl ?_ | refine stepY (y_move rfl) rfl ?_ | refine stepY (y_assign rfl) rfl ?_ | refine stepY (y_load1 rfl rfl rfl) rfl ?_ | refine stepY (y_fieldAddr rfl) rfl ?_ | refine stepY (y_not rfl) rfl ?_ | (first | refine stepY (y_pick_t rfl rfl) rfl ?_ | refine stepY (y_pick_f rfl rfl) rfl ?_))
    refine call_ Tryz.func42 rfl rfl (Compare_c n m) rfl (by repeat (first | exact .refl _ | apply Les.cons | exact .nil)) rfl ?_
    repeat (first | refine nil_ ?_ | refine ret_ ?_ | refine stepY (y_assign rfl) rfl ?_)
    ((apply fin_r); (repeat (first | exact .nil | exact .tmp rfl | apply ResL.cons)); (repeat (exact .refl _)))
end Go.Av

/-! Plain arithmetic of limbs: bits, halves, the division bit by bit, the greatest common divisor. -/
set_option linter.unusedVariables false
namespace Go.Av
theorem two_split (i : Nat) : 2 ^ i = B ^ (i / 32) * 2 ^ (i % 32) := by
  rw [B_pow, ← Nat.pow_add]; congr 1; omega
theorem B_two {r : Nat} (h : r ≤ 32) : B = 2 ^ r * 2 ^ (32 - r) := by rw [← Nat.pow_add, show r + (32 - r) = 32 by omega]; rfl
theorem bit_dg (n i : Nat) : dg n (i / 32) / 2 ^ (i % 32) % 2 = n / 2 ^ i % 2 := by
  unfold dg
  have hr : i % 32 < 32 := Nat.mod_lt _ (by decide)
  rw [two_split i, ← Nat.div_div_eq_div_mul]
  generalize n / B ^ (i / 32) = x
  generalize i % 32 = r at *
  rw [B_two (r := r) (by omega), Nat.mod_mul_right_div_self, show 32 - r = (31 - r) + 1 by omega, Nat.pow_succ, Nat.mul_comm, Nat.mod_mul_right_mod]
/-- one round of the division bit by bit -/
theorem bit_step {A V i : Nat} (hV : 0 < V) : (V ≤ 2 * (A / 2 ^ (i + 1) % V) + A / 2 ^ i % 2 → A / 2 ^ i / V = 2 * (A / 2 ^ (i + 1) / V) + 1 ∧ A / 2 ^ i % V = 2 * (A / 2 ^ (i + 1) % V) + A / 2 ^ i % 2 - V) ∧
    (¬ V ≤ 2 * (A / 2 ^ (i + 1) % V) + A / 2 ^ i % 2 → A / 2 ^ i / V = 2 * (A / 2 ^ (i + 1) / V) ∧ A / 2 ^ i % V = 2 * (A / 2 ^ (i + 1) % V) + A / 2 ^ i % 2) := by
  have e : A / 2 ^ (i + 1) = A / 2 ^ i / 2 := by rw [Nat.pow_succ, Nat.div_div_eq_div_mul]
  rw [e]
  generalize A / 2 ^ i = x
  have h1 := Nat.div_add_mod x 2
  have h2 := Nat.div_add_mod (x / 2) V
  have h3 := Nat.mod_lt (x / 2) hV
  have h4 := Nat.mod_lt x (show 2 > 0 by decide)
  generalize x / 2 / V = q at *
  generalize x / 2 % V = r at *
  generalize x % 2 = b at *
  have h5 : x = V * (2 * q) + (2 * r + b) := by rw [Nat.mul_left_comm]; omega
  constructor
  · intro h
    have h6 : x = V * (2 * q + 1) + (2 * r + b - V) := by rw [Nat.mul_add, Nat.mul_one]; omega
    constructor
    · rw [h6, Nat.mul_add_div hV, Nat.div_eq_of_lt (by omega), Nat.add_zero]
    · rw [h6, Nat.mul_add_mod, Nat.mod_eq_of_lt (by omega)]
  · intro h
    constructor
    · rw [h5, Nat.mul_add_div hV, Nat.div_eq_of_lt (by omega), Nat.add_zero]
    · rw [h5, Nat.mul_add_mod, Nat.mod_eq_of_lt (by omega)]
theorem bit_room {o : List Int} {i z : Nat} (hw : wf o) (hv : val o = 2 ^ (i + 1) * z) : dg (val o) (i / 32) + 2 ^ (i % 32) < B := by
  have hr : i % 32 < 32 := Nat.mod_lt _ (by decide)
  have e : 2 ^ (i + 1) = B ^ (i / 32) * 2 ^ (i % 32 + 1) := by
    rw [Nat.pow_succ, two_split i, Nat.pow_succ, Nat.mul_assoc]
  rw [hv, e]
  unfold dg
  rw [Nat.mul_assoc, Nat.mul_div_cancel_left _ (Bp_pos _)]
  generalize i % 32 = r at *
  have h1 := B_two (r := r + 1) (by omega)
  rw [h1, Nat.mul_mod_mul_left]
  have h2 := Nat.mod_lt z (show 2 ^ (32 - (r + 1)) > 0 from Nat.pow_pos (by decide))
  have h3 : 2 ^ (r + 1) * (z % 2 ^ (32 - (r + 1)) + 1) ≤ 2 ^ (r + 1) * 2 ^ (32 - (r + 1)) := Nat.mul_le_mul_left _ h2
  have h4 : 2 ^ r < 2 ^ (r + 1) := Nat.pow_lt_pow_right (by decide) (by omega)
  rw [Nat.mul_succ] at h3
  omega
theorem bit_set {o : List Int} {i : Nat} (hw : wf o) (hi : i / 32 < o.length) (hr : dg (val o) (i / 32) + 2 ^ (i % 32) < B) :
    wf (o.set (i / 32) ((dg (val o) (i / 32) + 2 ^ (i % 32) : Nat) : Int)) ∧ val (o.set (i / 32) ((dg (val o) (i / 32) + 2 ^ (i % 32) : Nat) : Int)) = val o + 2 ^ i := by
  refine ⟨wf_set hw ⟨Int.natCast_nonneg _, Int.ofNat_lt.2 hr⟩, ?_⟩
  · have h1 := val_set (l := o) (i := i / 32) (x := ((dg (val o) (i / 32) + 2 ^ (i % 32) : Nat) : Int)) hi
    have h2 := rd_wf hw (i := ((i / 32 : Nat) : Int)) (by omega)
    rw [Int.toNat_natCast] at h2
    rw [h2, Int.toNat_natCast, Int.toNat_natCast, Nat.mul_add, ← two_split] at h1
    omega
/-- halves -/
theorem half_dg (n i : Nat) : dg (n / 2) i = dg n i / 2 + dg n (i + 1) % 2 * 2147483648 := by
  have h := low_step (a := n) (n := 1) (by decide) i
  rw [Nat.pow_one] at h
  have h1 := dg_lt n i
  rw [h]
  unfold B at *
  omega
end Go.Av

set_option maxHeartbeats 8000000
set_option exponentiation.threshold 100000
set_option maxRecDepth 100000
set_option linter.unusedVariables false
set_option linter.unusedSimpArgs false
namespace Go.Av
open Go Go.Proofs
/-! barscanref02.half -/
end Go.Av

set_option maxHeartbeats 8000000
set_option exponentiation.threshold 100000
set_option maxRecDepth 100000
set_option linter.unusedVariables false
set_option linter.unusedSimpArgs false
namespace Go.Av
open Go Go.Proofs
theorem mod_lt_two {a : Nat} : a % 2 = 0 ∨ a % 2 = 1 := by omega
end Go.Av

set_option maxHeartbeats 8000000
set_option exponentiation.threshold 100000
set_option maxRecDepth 100000
set_option linter.unusedVariables false
set_option linter.unusedSimpArgs false
namespace Go.Av
open Go Go.Proofs
/-- floor of a quotient, and the rest -/
def dq (p q : Bool) (m n : Nat) : Int := if (p != q) = true ∧ 0 < m % n then sgn true (m / n + 1) else sgn (p != q) (m / n)
def dr (p q : Bool) (m n : Nat) : Int := if (p != q) = true ∧ 0 < m % n then sgn q (n - m % n) else sgn q (m % n)
theorem DivMod_e (p q : Bool) (l k : List Int) (h : (vldB p l && vldB q k) = false) : Con Tryz.prog 41 [AV p l, AV q k] (.tp [FIV 0, FIV 0, E_ 1]) := by
  refine con_of Tryz.func41 rfl rfl rfl rfl rfl ?_
  cases h1 : vldB p l with
  | false =>
    have hv := Valid_c p l
    rw [h1] at hv
    repeat (first | refine seq_ ?_ | refine region_ ?_ | refine nil_ ?_ | refine block_ ?_ | refine stepY (y_assign rfl) rfl ?_ | refine stepY (y_loadA rfl rfl rfl) rfl ?_ | refine stepE (e_box rfl rfl rfl rfl rfl rfl) ?_ | refine stepE (e_alloc rfl rfl rfl) ?_)
    refine call_ Tryz.func30 rfl rfl hv rfl (by repeat (first | exact .refl _ | apply Les.cons | exact .nil)) rfl ?_
    repeat (first | refine seq_ ?_ | refine region_ ?_ | refine nil_ ?_ | refine ret_ ?_ | refine cond_t rfl ?_ | refine guard_f rfl rfl rfl rfl ?_ | refine stepY (y_move rfl) rfl ?_ | refine stepY (y_assign rfl) rfl ?_ | refine stepY (y_not rfl) rfl ?_ | refine stepY (y_pick_t rfl rfl) rfl ?_ | refine stepY (y_build rfl rfl rfl) rfl ?_ | refine stepE (e_store rfl rfl rfl rfl rfl rfl rfl) ?_)
    ((apply fin_r); (repeat (first | exact .nil | exact .tmp rfl | exact .agg rfl rfl rfl | apply ResL.cons)); (repeat (first | exact .refl _ | exact .nil _ _ | apply Le.ag | apply Le.tp | apply Les.cons | exact .nil)))
  | true =>
    rw [h1, Bool.true_and] at h
    have hv := Valid_c p l
    have hv2 := Valid_c q k
    rw [h1] at hv
    rw [h] at hv2
    repeat (first | refine seq_ ?_ | refine region_ ?_ | refine nil_ ?_ | refine block_ ?_ | refine stepY (y_assign rfl) rfl ?_ | refine stepY (y_loadA rfl rfl rfl) rfl ?_ | refine stepE (e_box rfl rfl rfl rfl rfl rfl) ?_ | refine stepE (e_alloc rfl rfl rfl) ?_)
    refine call_ Tryz.func30 rfl rfl hv rfl (by repeat (first | exact .refl _ | apply Les.cons | exact .nil)) rfl ?_
    repeat (first | refine guard_t rfl rfl rfl ?_ | refine stepY (y_move rfl) rfl ?_ | refine stepY (y_loadA rfl rfl rfl) rfl ?_ | refine stepY (y_not rfl) rfl ?_)
    refine call_ Tryz.func30 rfl rfl hv2 rfl (by repeat (first | exact .refl _ | apply Les.cons | exact .nil)) rfl ?_
    repeat (first | refine seq_ ?_ | refine region_ ?_ | refine nil_ ?_ | refine ret_ ?_ | refine cond_t rfl ?_ | refine guard_t rfl rfl rfl ?_ | refine stepY (y_assign rfl) rfl ?_ | refine stepY (y_not rfl) rfl ?_ | refine stepY (y_pick_f rfl rfl) rfl ?_ | refine stepY (y_build rfl rfl rfl) rfl ?_ | refine stepE (e_store rfl rfl rfl rfl rfl rfl rfl) ?_)
    ((apply fin_r); (repeat (first | exact .nil | exact .tmp rfl | exact .agg rfl rfl rfl | apply ResL.cons)); (repeat (first | exact .refl _ | exact .nil _ _ | apply Le.ag | apply Le.tp | apply Les.cons | exact .nil)))
theorem DivMod_z (p q : Bool) (m : Nat) (hp : vldB p (limbs m) = true) (hq : vldB q (limbs 0) = true) : Con Tryz.prog 41 [SV p m, SV q 0] (.tp [FIV 0, FIV 0, E_ 12]) := by
  refine con_of Tryz.func41 rfl rfl rfl rfl rfl ?_
  have hv1 := Valid_c p (limbs m)
  have hv2 := Valid_c q (limbs 0)
  rw [hp] at hv1
  rw [hq] at hv2
  have h0 : ((limbs 0).length : Int) = 0 := rfl
  repeat (first | refine seq_ ?_ | refine region_ ?_ | refine nil_ ?_ | refine block_ ?_ | refine stepY (y_assign rfl) rfl ?_ | refine stepY (y_loadA rfl rfl rfl) rfl ?_ | refine stepE (e_box rfl rfl rfl rfl rfl rfl) ?_ | refine stepE (e_alloc rfl rfl rfl) ?_)
  refine call_ Tryz.func30 rfl rfl hv1 rfl (by repeat (first | exact .refl _ | apply Les.cons | exact .nil)) rfl ?_
  repeat (first | refine guard_t rfl rfl rfl ?_ | refine stepY (y_move rfl) rfl ?_ | refine stepY (y_loadA rfl rfl rfl) rfl ?_ | refine stepY (y_not rfl) rfl ?_)
  refine call_ Tryz.func30 rfl rfl hv2 rfl (by repeat (first | exact .refl _ | apply Les.cons | exact .nil)) rfl ?_
  repeat (first | refine seq_ ?_ | refine region_ ?_ | refine nil_ ?_ | refine ret_ ?_ | refine cond_t rfl ?_ | refine cond_f rfl ?_ | refine guard_t rfl rfl rfl ?_ | refine stepY (y_assign rfl) rfl ?_ | refine stepY (y_load1 rfl rfl rfl) rfl ?_ | refine stepY (y_fieldAddr rfl) rfl ?_ | refine stepY (y_len_si rfl) rfl ?_ | refine stepY (y_not rfl) rfl ?_ | refine stepY (y_pick_f rfl rfl) rfl ?_ | refine stepY (y_build rfl rfl rfl) rfl ?_ | refine stepY (y_cmpT rfl rfl rfl (by omega)) rfl ?_ | refine stepE (e_store rfl rfl rfl rfl rfl rfl rfl) ?_)
  ((apply fin_r); (repeat (first | exact .nil | exact .tmp rfl | exact .agg rfl rfl rfl | apply ResL.cons)); (repeat (first | exact .refl _ | exact .nil _ _ | apply Le.ag | apply Le.tp | apply Les.cons | exact .nil)))
theorem DivMod_s (p q : Bool) (m n : Nat) (hp : vldB p (limbs m) = true) (hq : vldB q (limbs n) = true) (hn : 0 < n) : Con Tryz.prog 41 [SV p m, SV q n] (.tp [FIV (dq p q m n), FIV (dr p q m n), E_ 0]) := by
  refine con_of Tryz.func41 rfl rfl rfl rfl rfl ?_
  have hv1 := Valid_c p (limbs m)
  have hv2 := Valid_c q (limbs n)
  rw [hp] at hv1
  rw [hq] at hv2
  have hlm := vld_ln hp
  have hln := vld_ln hq
  have hn1 := ln_pos.2 hn
  have hln1 : ((limbs n).length : Int) = ln n := by rw [limbs_length]
  have hq1 := ln_mono (Nat.div_le_self m n)
  have hr1 := ln_mono (Nat.le_of_lt (Nat.mod_lt m hn))
  have hmn := Nat.mod_lt m hn
  cases p <;> cases q
  · rw [show dq false false m n = sgn false (m / n) from by simp [dq], show dr false false m n = sgn false (m % n) from by simp [dr]]
    have hmx := made_c false (limbs (m / n)) (wf_limbs _) (by rw [limbs_length]; omega)
    have hmy := made_c false (limbs (m % n)) (wf_limbs _) (by rw [limbs_length]; omega)
    rw [val_limbs] at hmx hmy
    repeat (first | refine seq_ ?_ | refine region_ ?_ | refine nil_ ?_ | refine block_ ?_ | refine stepY (y_assign rfl) rfl ?_ | refine stepY (y_loadA rfl rfl rfl) rfl ?_ | refine stepE (e_box rfl rfl rfl rfl rfl rfl) ?_ | refine stepE (e_alloc rfl rfl rfl) ?_)
    refine call_ Tryz.func30 rfl rfl hv1 rfl (by repeat (first | exact .refl _ | apply Les.cons | exact .nil)) rfl ?_
    repeat (first | refine guard_t rfl rfl rfl ?_ | refine stepY (y_move rfl) rfl ?_ | refine stepY (y_loadA rfl rfl rfl) rfl ?_ | refine stepY (y_not rfl) rfl ?_)
    refine call_ Tryz.func30 rfl rfl hv2 rfl (by repeat (first | exact .refl _ | apply Les.cons | exact .nil)) rfl ?_
    repeat (first | refine seq_ ?_ | refine region_ ?_ | refine nil_ ?_ | refine skip_ ?_ | refine cond_f rfl ?_ | refine guard_t rfl rfl rfl ?_ | refine stepY (y_assign rfl) rfl ?_ | refine stepY (y_load1 rfl rfl rfl) rfl ?_ | refine stepY (y_fieldAddr rfl) rfl ?_ | refine stepY (y_len_si rfl) rfl ?_ | refine stepY (y_not rfl) rfl ?_ | refine stepY (y_pick_f rfl rfl) rfl ?_ | refine stepY (y_cmpF rfl rfl rfl (by omega)) rfl ?_)
    refine call_ Tryz.func61 rfl rfl (Division_c m n hn (by omega)) rfl (by repeat (first | exact .refl _ | apply Les.cons | exact .nil)) rfl ?_
    repeat (first | refine seq_ ?_ | refine region_ ?_ | refine nil_ ?_ | refine skip_ ?_ | refine cond_f rfl ?_ | refine guard_f rfl rfl rfl rfl ?_ | refine stepY (y_move rfl) rfl ?_ | refine stepY (y_assign rfl) rfl ?_ | refine stepY (y_load1 rfl rfl rfl) rfl ?_ | refine stepY (y_fieldAddr rfl) rfl ?_ | refine stepY (y_extract rfl rfl) rfl ?_ | refine stepY (y_pick_f rfl rfl) rfl ?_ | refine stepY (y_neb rfl rfl) rfl ?_)
    refine draw_ [(0, true), (1, true), (2, true), (3, true), (4, true), (5, true), (7, true), (8, true), (9, true), (6, false), (10, false), (11, false), (12, false), (13, true)] 1000 [2, 3] mixed (by kernel_rfl) rfl ?_
    ((refine dY rfl (y_fieldAddr rfl) rfl rfl rfl rfl ?_); refine dY rfl (y_load1 rfl rfl rfl) rfl rfl rfl rfl ?_; refine dY rfl (y_fieldAddr rfl) rfl rfl rfl rfl ?_; refine dY rfl (y_load1 rfl rfl rfl) rfl rfl rfl rfl ?_; refine dY rfl (y_neb rfl rfl) rfl rfl rfl rfl ?_; refine dY rfl (y_move rfl) rfl rfl rfl rfl ?_; refine dY rfl (y_fieldAddr rfl) rfl rfl rfl rfl ?_; refine dY rfl (y_load1 rfl rfl rfl) rfl rfl rfl rfl ?_; refine dY rfl (y_move rfl) rfl rfl rfl rfl ?_)
    refine dC rfl Tryz.func71 rfl rfl hmx rfl (by repeat (first | exact .refl _ | apply Les.cons | exact .nil)) rfl rfl ?_
    skip
    refine dC rfl Tryz.func71 rfl rfl hmy rfl (by repeat (first | exact .refl _ | apply Les.cons | exact .nil)) rfl rfl ?_
    ((refine dE rfl (e_store rfl rfl rfl rfl rfl rfl rfl) rfl rfl ?_); (refine dE rfl (e_store rfl rfl rfl rfl rfl rfl rfl) rfl rfl ?_); refine dY rfl (y_assign rfl) rfl rfl rfl rfl ?_; refine dEnd ?_)
    repeat (refine ret_ ?_)
    ((apply fin_r); (repeat (first | exact .nil | exact .tmp rfl | exact .agg rfl rfl rfl | apply ResL.cons)); (repeat (exact .refl _)))
  · by_cases hm0 : 0 < m % n
    · have hmp := ln_pos.2 hm0
      have hl0 : ((limbs (m % n)).length : Int) = ln (m % n) := by rw [limbs_length]
      have hs := Sum_c (limbs (m / n)) [1] (wf_limbs _) (by intro y hy; simp at hy; omega) (by rw [limbs_length]; omega) (by simp)
      rw [val_limbs, show val [1] = 1 from rfl, limbs_length, show ([1] : List Int).length = 1 from rfl] at hs
      have hd := Difference_c (limbs n) (limbs (m % n)) (wf_limbs _) (wf_limbs _) (by rw [limbs_length]; omega) (by rw [val_limbs, val_limbs]; omega)
      rw [val_limbs, val_limbs] at hd
      have hmx := made_c true (padd (max (ln (m / n)) 1 + 1) (m / n + 1)) (wf_padd _ _) (by rw [padd_length]; omega)
      rw [val_padd, Nat.mod_eq_of_lt (sum_lt (ln_le.1 (Nat.le_max_left _ _)) (Nat.lt_of_lt_of_le (show 1 < B ^ 1 by decide) (Nat.pow_le_pow_right B_pos (Nat.le_max_right _ _))))] at hmx
      have hmy := made_c true (limbs (n - m % n)) (wf_limbs _) (by rw [limbs_length]; have := ln_mono (Nat.sub_le n (m % n)); omega)
      rw [val_limbs] at hmy
      rw [show dq false true m n = sgn true (m / n + 1) by simp [dq, hm0], show dr false true m n = sgn true (n - m % n) by simp [dr, hm0]]
      repeat (first | refine seq_ ?_ | refine region_ ?_ | refine nil_ ?_ | refine block_ ?_ | refine stepY (y_assign rfl) rfl ?_ | refine stepY (y_loadA rfl rfl rfl) rfl ?_ | refine stepE (e_box rfl rfl rfl rfl rfl rfl) ?_ | refine stepE (e_alloc rfl rfl rfl) ?_)
      refine call_ Tryz.func30 rfl rfl hv1 rfl (by repeat (first | exact .refl _ | apply Les.cons | exact .nil)) rfl ?_
      repeat (first | refine guard_t rfl rfl rfl ?_ | refine stepY (y_move rfl) rfl ?_ | refine stepY (y_loadA rfl rfl rfl) rfl ?_ | refine stepY (y_not rfl) rfl ?_)
      refine call_ Tryz.func30 rfl rfl hv2 rfl (by repeat (first | exact .refl _ | apply Les.cons | exact .nil)) rfl ?_
      repeat (first | refine seq_ ?_ | refine region_ ?_ | refine nil_ ?_ | refine skip_ ?_ | refine cond_f rfl ?_ | refine guard_t rfl rfl rfl ?_ | refine stepY (y_assign rfl) rfl ?_ | refine stepY (y_load1 rfl rfl rfl) rfl ?_ | refine stepY (y_fieldAddr rfl) rfl ?_ | refine stepY (y_len_si rfl) rfl ?_ | refine stepY (y_not rfl) rfl ?_ | refine stepY (y_pick_f rfl rfl) rfl ?_ | refine stepY (y_cmpF rfl rfl rfl (by omega)) rfl ?_)
      refine call_ Tryz.func61 rfl rfl (Division_c m n hn (by omega)) rfl (by repeat (first | exact .refl _ | apply Les.cons | exact .nil)) rfl ?_
      repeat (first | refine seq_ ?_ | refine region_ ?_ | refine nil_ ?_ | refine cond_t rfl ?_ | refine guard_t rfl rfl rfl ?_ | refine stepY (y_move rfl) rfl ?_ | refine stepY (y_assign rfl) rfl ?_ | refine stepY (y_load1 rfl rfl rfl) rfl ?_ | refine stepY (y_fieldAddr rfl) rfl ?_ | refine stepY (y_extract rfl rfl) rfl ?_ | refine stepY (y_len_si rfl) rfl ?_ | refine stepY (y_pick_t rfl rfl) rfl ?_ | refine stepY (y_neb rfl rfl) rfl ?_ | refine stepY (y_cmpT rfl rfl rfl (by omega)) rfl ?_)
      refine draw_ [(0, true), (3, true), (4, true), (5, true), (1, false), (2, false), (6, false), (7, true), (8, true)] 1000 [3] mixed (by kernel_rfl) rfl ?_
      ((refine dY rfl (y_move rfl) rfl rfl rfl rfl ?_); refine dY rfl (y_fieldAddr rfl) rfl rfl rfl rfl ?_; refine dY rfl (y_load1 rfl rfl rfl) rfl rfl rfl rfl ?_; refine dY rfl (y_move rfl) rfl rfl rfl rfl ?_; (refine dE rfl (e_bs_vi (k := .u32) rfl rfl rfl rfl rfl) rfl rfl ?_))
      refine seal_D (i := 46) (h := 46) rfl rfl rfl rfl ?_
      refine dC rfl Tryz.func44 rfl rfl hs rfl (by repeat (first | exact .refl _ | exact .tag _ _ | apply Les.cons | exact .nil)) rfl rfl ?_
      skip
      refine dC rfl Tryz.func66 rfl rfl hd rfl (by repeat (first | exact .refl _ | apply Les.cons | exact .nil)) rfl rfl ?_
      ((refine dY rfl (y_assign rfl) rfl rfl rfl rfl ?_); refine dY rfl (y_assign rfl) rfl rfl rfl rfl ?_; refine dEnd ?_)
      repeat (refine seq_ ?_)
      refine draw_ [(0, true), (1, true), (2, true), (3, true), (4, true), (5, true), (7, true), (8, true), (9, true), (6, false), (10, false), (11, false), (12, false), (13, true)] 1000 [2, 3] mixed (by kernel_rfl) rfl ?_
      ((refine dY rfl (y_fieldAddr rfl) rfl rfl rfl rfl ?_); refine dY rfl (y_load1 rfl rfl rfl) rfl rfl rfl rfl ?_; refine dY rfl (y_fieldAddr rfl) rfl rfl rfl rfl ?_; refine dY rfl (y_load1 rfl rfl rfl) rfl rfl rfl rfl ?_; refine dY rfl (y_neb rfl rfl) rfl rfl rfl rfl ?_; refine dY rfl (y_move rfl) rfl rfl rfl rfl ?_; refine dY rfl (y_fieldAddr rfl) rfl rfl rfl rfl ?_; refine dY rfl (y_load1 rfl rfl rfl) rfl rfl rfl rfl ?_; refine dY rfl (y_move rfl) rfl rfl rfl rfl ?_)
      refine dC rfl Tryz.func71 rfl rfl hmx rfl (by repeat (first | exact .refl _ | exact .tag _ _ | apply Les.cons | exact .nil)) rfl rfl ?_
      skip
      refine dC rfl Tryz.func71 rfl rfl hmy rfl (by repeat (first | exact .refl _ | apply Les.cons | exact .nil)) rfl rfl ?_
      ((refine dE rfl (e_store rfl rfl rfl rfl rfl rfl rfl) rfl rfl ?_); (refine dE rfl (e_store rfl rfl rfl rfl rfl rfl rfl) rfl rfl ?_); refine dY rfl (y_assign rfl) rfl rfl rfl rfl ?_; refine dEnd ?_)
      repeat (refine ret_ ?_)
      ((apply fin_r); (repeat (first | exact .nil | exact .tmp rfl | exact .agg rfl rfl rfl | apply ResL.cons)); (repeat (exact .refl _)))
    · rw [show dq false true m n = sgn true (m / n) by simp [dq, hm0], show dr false true m n = sgn true (m % n) by simp [dr, hm0]]
      have hl0 : ¬ (0 : Int) < ((limbs (m % n)).length : Int) := by rw [limbs_length]; have := ln_pos (n := m % n); omega
      have hmx := made_c true (limbs (m / n)) (wf_limbs _) (by rw [limbs_length]; omega)
      have hmy := made_c true (limbs (m % n)) (wf_limbs _) (by rw [limbs_length]; omega)
      rw [val_limbs] at hmx hmy
      repeat (first | refine seq_ ?_ | refine region_ ?_ | refine nil_ ?_ | refine block_ ?_ | refine stepY (y_assign rfl) rfl ?_ | refine stepY (y_loadA rfl rfl rfl) rfl ?_ | refine stepE (e_box rfl rfl rfl rfl rfl rfl) ?_ | refine stepE (e_alloc rfl rfl rfl) ?_)
      refine call_ Tryz.func30 rfl rfl hv1 rfl (by repeat (first | exact .refl _ | apply Les.cons | exact .nil)) rfl ?_
      repeat (first | refine guard_t rfl rfl rfl ?_ | refine stepY (y_move rfl) rfl ?_ | refine stepY (y_loadA rfl rfl rfl) rfl ?_ | refine stepY (y_not rfl) rfl ?_)
      refine call_ Tryz.func30 rfl rfl hv2 rfl (by repeat (first | exact .refl _ | apply Les.cons | exact .nil)) rfl ?_
      repeat (first | refine seq_ ?_ | refine region_ ?_ | refine nil_ ?_ | refine skip_ ?_ | refine cond_f rfl ?_ | refine guard_t rfl rfl rfl ?_ | refine stepY (y_assign rfl) rfl ?_ | refine stepY (y_load1 rfl rfl rfl) rfl ?_ | refine stepY (y_fieldAddr rfl) rfl ?_ | refine stepY (y_len_si rfl) rfl ?_ | refine stepY (y_not rfl) rfl ?_ | refine stepY (y_pick_f rfl rfl) rfl ?_ | refine stepY (y_cmpF rfl rfl rfl (by omega)) rfl ?_)
      refine call_ Tryz.func61 rfl rfl (Division_c m n hn (by omega)) rfl (by repeat (first | exact .refl _ | apply Les.cons | exact .nil)) rfl ?_
      repeat (first | refine seq_ ?_ | refine region_ ?_ | refine nil_ ?_ | refine skip_ ?_ | refine cond_f rfl ?_ | refine guard_t rfl rfl rfl ?_ | refine stepY (y_move rfl) rfl ?_ | refine stepY (y_assign rfl) rfl ?_ | refine stepY (y_load1 rfl rfl rfl) rfl ?_ | refine stepY (y_fieldAddr rfl) rfl ?_ | refine stepY (y_extract rfl rfl) rfl ?_ | refine stepY (y_len_si rfl) rfl ?_ | refine stepY (y_pick_t rfl rfl) rfl ?_ | refine stepY (y_neb rfl rfl) rfl ?_ | refine stepY (y_cmpF rfl rfl rfl (by omega)) rfl ?_)
      refine draw_ [(0, true), (1, true), (2, true), (3, true), (4, true), (5, true), (7, true), (8, true), (9, true), (6, false), (10, false), (11, false), (12, false), (13, true)] 1000 [2, 3] mixed (by kernel_rfl) rfl ?_
      ((refine dY rfl (y_fieldAddr rfl) rfl rfl rfl rfl ?_); refine dY rfl (y_load1 rfl rfl rfl) rfl rfl rfl rfl ?_; refine dY rfl (y_fieldAddr rfl) rfl rfl rfl rfl ?_; refine dY rfl (y_load1 rfl rfl rfl) rfl rfl rfl rfl ?_; refine dY rfl (y_neb rfl rfl) rfl rfl rfl rfl ?_; refine dY rfl (y_move rfl) rfl rfl rfl rfl ?_; refine dY rfl (y_fieldAddr rfl) rfl rfl rfl rfl ?_; refine dY rfl (y_load1 rfl rfl rfl) rfl rfl rfl rfl ?_; refine dY rfl (y_move rfl) rfl rfl rfl rfl ?_)
      refine dC rfl Tryz.func71 rfl rfl hmx rfl (by repeat (first | exact .refl _ | apply Les.cons | exact .nil)) rfl rfl ?_
      skip
      refine dC rfl Tryz.func71 rfl rfl hmy rfl (by repeat (first | exact .refl _ | apply Les.cons | exact .nil)) rfl rfl ?_
      ((refine dE rfl (e_store rfl rfl rfl rfl rfl rfl rfl) rfl rfl ?_); (refine dE rfl (e_store rfl rfl rfl rfl rfl rfl rfl) rfl rfl ?_); refine dY rfl (y_assign rfl) rfl rfl rfl rfl ?_; refine dEnd ?_)
      repeat (refine ret_ ?_)
      ((apply fin_r); (repeat (first | exact .nil | exact .tmp rfl | exact .agg rfl rfl rfl | apply ResL.cons)); (repeat (exact .refl _)))
  · by_cases hm0 : 0 < m % n
    · have hmp := ln_pos.2 hm0
      have hl0 : ((limbs (m % n)).length : Int) = ln (m % n) := by rw [limbs_length]
      have hs := Sum_c (limbs (m / n)) [1] (wf_limbs _) (by intro y hy; simp at hy; omega) (by rw [limbs_length]; omega) (by simp)
      rw [val_limbs, show val [1] = 1 from rfl, limbs_length, show ([1] : List Int).length = 1 from rfl] at hs
      have hd := Difference_c (limbs n) (limbs (m % n)) (wf_limbs _) (wf_limbs _) (by rw [limbs_length]; omega) (by rw [val_limbs, val_limbs]; omega)
      rw [val_limbs, val_limbs] at hd
      have hmx := made_c true (padd (max (ln (m / n)) 1 + 1) (m / n + 1)) (wf_padd _ _) (by rw [padd_length]; omega)
      rw [val_padd, Nat.mod_eq_of_lt (sum_lt (ln_le.1 (Nat.le_max_left _ _)) (Nat.lt_of_lt_of_le (show 1 < B ^ 1 by decide) (Nat.pow_le_pow_right B_pos (Nat.le_max_right _ _))))] at hmx
      have hmy := made_c false (limbs (n - m % n)) (wf_limbs _) (by rw [limbs_length]; have := ln_mono (Nat.sub_le n (m % n)); omega)
      rw [val_limbs] at hmy
      rw [show dq true false m n = sgn true (m / n + 1) by simp [dq, hm0], show dr true false m n = sgn false (n - m % n) by simp [dr, hm0]]
      repeat (first | refine seq_ ?_ | refine region_ ?_ | refine nil_ ?_ | refine block_ ?_ | refine stepY (y_assign rfl) rfl ?_ | refine stepY (y_loadA rfl rfl rfl) rfl ?_ | refine stepE (e_box rfl rfl rfl rfl rfl rfl) ?_ | refine stepE (e_alloc rfl rfl rfl) ?_)
      refine call_ Tryz.func30 rfl rfl hv1 rfl (by repeat (first | exact .refl _ | apply Les.cons | exact .nil)) rfl ?_
      repeat (first | refine guard_t rfl rfl rfl ?_ | refine stepY (y_move rfl) rfl ?_ | refine stepY (y_loadA rfl rfl rfl) rfl ?_ | refine stepY (y_not rfl) rfl ?_)
      refine call_ Tryz.func30 rfl rfl hv2 rfl (by repeat (first | exact .refl _ | apply Les.cons | exact .nil)) rfl ?_
      repeat (first | refine seq_ ?_ | refine region_ ?_ | refine nil_ ?_ | refine skip_ ?_ | refine cond_f rfl ?_ | refine guard_t rfl rfl rfl ?_ | refine stepY (y_assign rfl) rfl ?_ | refine stepY (y_load1 rfl rfl rfl) rfl ?_ | refine stepY (y_fieldAddr rfl) rfl ?_ | refine stepY (y_len_si rfl) rfl ?_ | refine stepY (y_not rfl) rfl ?_ | refine stepY (y_pick_f rfl rfl) rfl ?_ | refine stepY (y_cmpF rfl rfl rfl (by omega)) rfl ?_)
      refine call_ Tryz.func61 rfl rfl (Division_c m n hn (by omega)) rfl (by repeat (first | exact .refl _ | apply Les.cons | exact .nil)) rfl ?_
      repeat (first | refine seq_ ?_ | refine region_ ?_ | refine nil_ ?_ | refine cond_t rfl ?_ | refine guard_t rfl rfl rfl ?_ | refine stepY (y_move rfl) rfl ?_ | refine stepY (y_assign rfl) rfl ?_ | refine stepY (y_load1 rfl rfl rfl) rfl ?_ | refine stepY (y_fieldAddr rfl) rfl ?_ | refine stepY (y_extract rfl rfl) rfl ?_ | refine stepY (y_len_si rfl) rfl ?_ | refine stepY (y_pick_t rfl rfl) rfl ?_ | refine stepY (y_neb rfl rfl) rfl ?_ | refine stepY (y_cmpT rfl rfl rfl (by omega)) rfl ?_)
      refine draw_ [(0, true), (3, true), (4, true), (5, true), (1, false), (2, false), (6, false), (7, true), (8, true)] 1000 [3] mixed (by kernel_rfl) rfl ?_
      ((refine dY rfl (y_move rfl) rfl rfl rfl rfl ?_); refine dY rfl (y_fieldAddr rfl) rfl rfl rfl rfl ?_; refine dY rfl (y_load1 rfl rfl rfl) rfl rfl rfl rfl ?_; refine dY rfl (y_move rfl) rfl rfl rfl rfl ?_; (refine dE rfl (e_bs_vi (k := .u32) rfl rfl rfl rfl rfl) rfl rfl ?_))
      refine seal_D (i := 46) (h := 46) rfl rfl rfl rfl ?_
      refine dC rfl Tryz.func44 rfl rfl hs rfl (by repeat (first | exact .refl _ | exact .tag _ _ | apply Les.cons | exact .nil)) rfl rfl ?_
      skip
      refine dC rfl Tryz.func66 rfl rfl hd rfl (by repeat (first | exact .refl _ | apply Les.cons | exact .nil)) rfl rfl ?_
      ((refine dY rfl (y_assign rfl) rfl rfl rfl rfl ?_); refine dY rfl (y_assign rfl) rfl rfl rfl rfl ?_; refine dEnd ?_)
      repeat (refine seq_ ?_)
      refine draw_ [(0, true), (1, true), (2, true), (3, true), (4, true), (5, true), (7, true), (8, true), (9, true), (6, false), (10, false), (11, false), (12, false), (13, true)] 1000 [2, 3] mixed (by kernel_rfl) rfl ?_
      ((refine dY rfl (y_fieldAddr rfl) rfl rfl rfl rfl ?_); refine dY rfl (y_load1 rfl rfl rfl) rfl rfl rfl rfl ?_; refine dY rfl (y_fieldAddr rfl) rfl rfl rfl rfl ?_; refine dY rfl (y_load1 rfl rfl rfl) rfl rfl rfl rfl ?_; refine dY rfl (y_neb rfl rfl) rfl rfl rfl rfl ?_; refine dY rfl (y_move rfl) rfl rfl rfl rfl ?_; refine dY rfl (y_fieldAddr rfl) rfl rfl rfl rfl ?_; refine dY rfl (y_load1 rfl rfl rfl) rfl rfl rfl rfl ?_; refine dY rfl (y_move rfl) rfl rfl rfl rfl ?_)
      refine dC rfl Tryz.func71 rfl rfl hmx rfl (by repeat (first | exact .refl _ | exact .tag _ _ | apply Les.cons | exact .nil)) rfl rfl ?_
      skip
      refine dC rfl Tryz.func71 rfl rfl hmy rfl (by repeat (first | exact .refl _ | apply Les.cons | exact .nil)) rfl rfl ?_
      ((refine dE rfl (e_store rfl rfl rfl rfl rfl rfl rfl) rfl rfl ?_); (refine dE rfl (e_store rfl rfl rfl rfl rfl rfl rfl) rfl rfl ?_); refine dY rfl (y_assign rfl) rfl rfl rfl rfl ?_; refine dEnd ?_)
      repeat (refine ret_ ?_)
      ((apply fin_r); (repeat (first | exact .nil | exact .tmp rfl | exact .agg rfl rfl rfl | apply ResL.cons)); (repeat (exact .refl _)))
    · rw [show dq true false m n = sgn true (m / n) by simp [dq, hm0], show dr true false m n = sgn false (m % n) by simp [dr, hm0]]
      have hl0 : ¬ (0 : Int) < ((limbs (m % n)).length : Int) := by rw [limbs_length]; have := ln_pos (n := m % n); omega
      have hmx := made_c true (limbs (m / n)) (wf_limbs _) (by rw [limbs_length]; omega)
      have hmy := made_c false (limbs (m % n)) (wf_limbs _) (by rw [limbs_length]; omega)
      rw [val_limbs] at hmx hmy
      repeat (first | refine seq_ ?_ | refine region_ ?_ | refine nil_ ?_ | refine block_ ?_ | refine stepY (y_assign rfl) rfl ?_ | refine stepY (y_loadA rfl rfl rfl) rfl ?_ | refine stepE (e_box rfl rfl rfl rfl rfl rfl) ?_ | refine stepE (e_alloc rfl rfl rfl) ?_)
      refine call_ Tryz.func30 rfl rfl hv1 rfl (by repeat (first | exact .refl _ | apply Les.cons | exact .nil)) rfl ?_
      repeat (first | refine guard_t rfl rfl rfl ?_ | refine stepY (y_move rfl) rfl ?_ | refine stepY (y_loadA rfl rfl rfl) rfl ?_ | refine stepY (y_not rfl) rfl ?_)
      refine call_ Tryz.func30 rfl rfl hv2 rfl (by repeat (first | exact .refl _ | apply Les.cons | exact .nil)) rfl ?_
      repeat (first | refine seq_ ?_ | refine region_ ?_ | refine nil_ ?_ | refine skip_ ?_ | refine cond_f rfl ?_ | refine guard_t rfl rfl rfl ?_ | refine stepY (y_assign rfl) rfl ?_ | refine stepY (y_load1 rfl rfl rfl) rfl ?_ | refine stepY (y_fieldAddr rfl) rfl ?_ | refine stepY (y_len_si rfl) rfl ?_ | refine stepY (y_not rfl) rfl ?_ | refine stepY (y_pick_f rfl rfl) rfl ?_ | refine stepY (y_cmpF rfl rfl rfl (by omega)) rfl ?_)
      refine call_ Tryz.func61 rfl rfl (Division_c m n hn (by omega)) rfl (by repeat (first | exact .refl _ | apply Les.cons | exact .nil)) rfl ?_
      repeat (first | refine seq_ ?_ | refine region_ ?_ | refine nil_ ?_ | refine skip_ ?_ | refine cond_f rfl ?_ | refine guard_t rfl rfl rfl ?_ | refine stepY (y_move rfl) rfl ?_ | refine stepY (y_assign rfl) rfl ?_ | refine stepY (y_load1 rfl rfl rfl) rfl ?_ | refine stepY (y_fieldAddr rfl) rfl ?_ | refine stepY (y_extract rfl rfl) rfl ?_ | refine stepY (y_len_si rfl) rfl ?_ | refine stepY (y_pick_t rfl rfl) rfl ?_ | refine stepY (y_neb rfl rfl) rfl ?_ | refine stepY (y_cmpF rfl rfl rfl (by omega)) rfl ?_)
      refine draw_ [(0, true), (1, true), (2, true), (3, true), (4, true), (5, true), (7, true), (8, true), (9, true), (6, false), (10, false), (11, false), (12, false), (13, true)] 1000 [2, 3] mixed (by kernel_rfl) rfl ?_
      ((refine dY rfl (y_fieldAddr rfl) rfl rfl rfl rfl ?_); refine dY rfl (y_load1 rfl rfl rfl) rfl rfl rfl rfl ?_; refine dY rfl (y_fieldAddr rfl) rfl rfl rfl rfl ?_; refine dY rfl (y_load1 rfl rfl rfl) rfl rfl rfl rfl ?_; refine dY rfl (y_neb rfl rfl) rfl rfl rfl rfl ?_; refine dY rfl (y_move rfl) rfl rfl rfl rfl ?_; refine dY rfl (y_fieldAddr rfl) rfl rfl rfl rfl ?_; refine dY rfl (y_load1 rfl rfl rfl) rfl rfl rfl rfl ?_; refine dY rfl (y_move rfl) rfl rfl rfl rfl ?_)
      refine dC rfl Tryz.func71 rfl rfl hmx rfl (by repeat (first | exact .refl _ | apply Les.cons | exact .nil)) rfl rfl ?_
      skip
      refine dC rfl Tryz.func71 rfl rfl hmy rfl (by repeat (first | exact .refl _ | apply Les.cons | exact .nil)) rfl rfl ?_
      ((refine dE rfl (e_store rfl rfl rfl rfl rfl rfl rfl) rfl rfl ?_); (refine dE rfl (e_store rfl rfl rfl rfl rfl rfl rfl) rfl rfl ?_); refine dY rfl (y_assign rfl) rfl rfl rfl rfl ?_; refine dEnd ?_)
      repeat (refine ret_ ?_)
      ((apply fin_r); (repeat (first | exact .nil | exact .tmp rfl | exact .agg rfl rfl rfl | apply ResL.cons)); (repeat (exact .refl _)))
  · rw [show dq true true m n = sgn false (m / n) from by simp [dq], show dr true true m n = sgn true (m % n) from by simp [dr]]
    have hmx := made_c false (limbs (m / n)) (wf_limbs _) (by rw [limbs_length]; omega)
    have hmy := made_c true (limbs (m % n)) (wf_limbs _) (by rw [limbs_length]; omega)
    rw [val_limbs] at hmx hmy
    repeat (first | refine seq_ ?_ | refine region_ ?_ | refine nil_ ?_ | refine block_ ?_ | refine stepY (y_assign rfl) rfl ?_ | refine stepY (y_loadA rfl rfl rfl) rfl ?_ | refine stepE (e_box rfl rfl rfl rfl rfl rfl) ?_ | refine stepE (e_alloc rfl rfl rfl) ?_)
    refine call_ Tryz.func30 rfl rfl hv1 rfl (by repeat (first | exact .refl _ | apply Les.cons | exact .nil)) rfl ?_
    repeat (first | refine guard_t rfl rfl rfl ?_ | refine stepY (y_move rfl) rfl ?_ | refine stepY (y_loadA rfl rfl rfl) rfl ?_ | refine stepY (y_not rfl) rfl ?_)
    refine call_ Tryz.func30 rfl rfl hv2 rfl (by repeat (first | exact .refl _ | apply Les.cons | exact .nil)) rfl ?_
    repeat (first | refine seq_ ?_ | refine region_ ?_ | refine nil_ ?_ | refine skip_ ?_ | refine cond_f rfl ?_ | refine guard_t rfl rfl rfl ?_ | refine stepY (y_assign rfl) rfl ?_ | refine stepY (y_load1 rfl rfl rfl) rfl ?_ | refine stepY (y_fieldAddr rfl) rfl ?_ | refine stepY (y_len_si rfl) rfl ?_ | refine stepY (y_not rfl) rfl ?_ | refine stepY (y_pick_f rfl rfl) rfl ?_ | refine stepY (y_cmpF rfl rfl rfl (by omega)) rfl ?_)
    refine call_ Tryz.func61 rfl rfl (Division_c m n hn (by omega)) rfl (by repeat (first | exact .refl _ | apply Les.cons | exact .nil)) rfl ?_
    repeat (first | refine seq_ ?_ | refine region_ ?_ | refine nil_ ?_ | refine skip_ ?_ | refine cond_f rfl ?_ | refine guard_f rfl rfl rfl rfl ?_ | refine stepY (y_move rfl) rfl ?_ | refine stepY (y_assign rfl) rfl ?_ | refine stepY (y_load1 rfl rfl rfl) rfl ?_ | refine stepY (y_fieldAddr rfl) rfl ?_ | refine stepY (y_extract rfl rfl) rfl ?_ | refine stepY (y_pick_f rfl rfl) rfl ?_ | refine stepY (y_neb rfl rfl) rfl ?_)
    refine draw_ [(0, true), (1, true), (2, true), (3, true), (4, true), (5, true), (7, true), (8, true), (9, true), (6, false), (10, false), (11, false), (12, false), (13, true)] 1000 [2, 3] mixed (by kernel_rfl) rfl ?_
    ((refine dY rfl (y_fieldAddr rfl) rfl rfl rfl rfl ?_); refine dY rfl (y_load1 rfl rfl rfl) rfl rfl rfl rfl ?_; refine dY rfl (y_fieldAddr rfl) rfl rfl rfl rfl ?_; refine dY rfl (y_load1 rfl rfl rfl) rfl rfl rfl rfl ?_; refine dY rfl (y_neb rfl rfl) rfl rfl rfl rfl ?_; refine dY rfl (y_move rfl) rfl rfl rfl rfl ?_; refine dY rfl (y_fieldAddr rfl) rfl rfl rfl rfl ?_; refine dY rfl (y_load1 rfl rfl rfl) rfl rfl rfl rfl ?_; refine dY rfl (y_move rfl) rfl rfl rfl rfl ?_)
    refine dC rfl Tryz.func71 rfl rfl hmx rfl (by repeat (first | exact .refl _ | apply Les.cons | exact .nil)) rfl rfl ?_
    skip
    refine dC rfl Tryz.func71 rfl rfl hmy rfl (by repeat (first | exact .refl _ | apply Les.cons | exact .nil)) rfl rfl ?_
    ((refine dE rfl (e_store rfl rfl rfl rfl rfl rfl rfl) rfl rfl ?_); (refine dE rfl (e_store rfl rfl rfl rfl rfl rfl rfl) rfl rfl ?_); refine dY rfl (y_assign rfl) rfl rfl rfl rfl ?_; refine dEnd ?_)
    repeat (refine ret_ ?_)
    ((apply fin_r); (repeat (first | exact .nil | exact .tmp rfl | exact .agg rfl rfl rfl | apply ResL.cons)); (repeat (exact .refl _)))
end Go.Av

set_option maxHeartbeats 8000000
set_option exponentiation.threshold 100000
set_option maxRecDepth 100000
set_option linter.unusedVariables false
set_option linter.unusedSimpArgs false
namespace Go.Av
open Go Go.Proofs
theorem ln_succ {m : Nat} (h : ln m ≤ 512) : ln (m + 1) ≤ 513 := by
  rw [ln_le] at h ⊢
  exact sum_lt h (Nat.lt_of_lt_of_le (show 1 < B by decide) (by rw [show B = B ^ 1 by rw [Nat.pow_one], ← Nat.pow_mul]; exact Nat.pow_le_pow_right B_pos (by omega)))
/-! the greatest common divisor -/
theorem GCD_e (p q : Bool) (l k : List Int) (h : (vldB p l && vldB q k) = false) : Con Tryz.prog 59 [AV p l, AV q k] (.tp [FIV 0, E_ 1]) := by
  refine con_of Tryz.func59 rfl rfl rfl rfl rfl ?_
  cases h1 : vldB p l with
  | false =>
    have hv := Valid_c p l
    rw [h1] at hv
    repeat (first | refine seq_ ?_ | refine region_ ?_ | refine nil_ ?_ | refine stepY (y_assign rfl) rfl ?_ | refine stepY (y_loadA rfl rfl rfl) rfl ?_ | refine stepE (e_box rfl rfl rfl rfl rfl rfl) ?_ | refine stepE (e_alloc rfl rfl rfl) ?_)
    refine call_ Tryz.func30 rfl rfl hv rfl (by repeat (first | exact .refl _ | apply Les.cons | exact .nil)) rfl ?_
    repeat (first | refine seq_ ?_ | refine region_ ?_ | refine nil_ ?_ | refine ret_ ?_ | refine cond_t rfl ?_ | refine guard_f rfl rfl rfl rfl ?_ | refine stepY (y_move rfl) rfl ?_ | refine stepY (y_assign rfl) rfl ?_ | refine stepY (y_not rfl) rfl ?_ | refine stepY (y_pick_t rfl rfl) rfl ?_ | refine stepY (y_build rfl rfl rfl) rfl ?_ | refine stepE (e_store rfl rfl rfl rfl rfl rfl rfl) ?_)
    ((apply fin_r); (repeat (first | exact .nil | exact .tmp rfl | exact .agg rfl rfl rfl | apply ResL.cons)); (repeat (first | exact .refl _ | exact .nil _ _ | apply Le.ag | apply Le.tp | apply Les.cons | exact .nil)))
  | true =>
    rw [h1, Bool.true_and] at h
    have hv := Valid_c p l
    have hv2 := Valid_c q k
    rw [h1] at hv
    rw [h] at hv2
    repeat (first | refine seq_ ?_ | refine region_ ?_ | refine nil_ ?_ | refine stepY (y_assign rfl) rfl ?_ | refine stepY (y_loadA rfl rfl rfl) rfl ?_ | refine stepE (e_box rfl rfl rfl rfl rfl rfl) ?_ | refine stepE (e_alloc rfl rfl rfl) ?_)
    refine call_ Tryz.func30 rfl rfl hv rfl (by repeat (first | exact .refl _ | apply Les.cons | exact .nil)) rfl ?_
    repeat (first | refine guard_t rfl rfl rfl ?_ | refine stepY (y_move rfl) rfl ?_ | refine stepY (y_loadA rfl rfl rfl) rfl ?_ | refine stepY (y_not rfl) rfl ?_)
    refine call_ Tryz.func30 rfl rfl hv2 rfl (by repeat (first | exact .refl _ | apply Les.cons | exact .nil)) rfl ?_
    repeat (first | refine seq_ ?_ | refine region_ ?_ | refine nil_ ?_ | refine ret_ ?_ | refine cond_t rfl ?_ | refine guard_t rfl rfl rfl ?_ | refine stepY (y_assign rfl) rfl ?_ | refine stepY (y_not rfl) rfl ?_ | refine stepY (y_pick_f rfl rfl) rfl ?_ | refine stepY (y_build rfl rfl rfl) rfl ?_ | refine stepE (e_store rfl rfl rfl rfl rfl rfl rfl) ?_)
    ((apply fin_r); (repeat (first | exact .nil | exact .tmp rfl | exact .agg rfl rfl rfl | apply ResL.cons)); (repeat (first | exact .refl _ | exact .nil _ _ | apply Le.ag | apply Le.tp | apply Les.cons | exact .nil)))
theorem GCD_s (p q : Bool) (m n : Nat) (hp : vldB p (limbs m) = true) (hq : vldB q (limbs n) = true) : Con Tryz.prog 59 [SV p m, SV q n] (.tp [FIV (Nat.gcd m n : Nat), E_ 0]) := by
  refine con_of Tryz.func59 rfl rfl rfl rfl rfl ?_
  have hv1 := Valid_c p (limbs m)
  have hv2 := Valid_c q (limbs n)
  rw [hp] at hv1
  rw [hq] at hv2
  have hlm := vld_ln hp
  have hln := vld_ln hq
  repeat (first | refine seq_ ?_ | refine region_ ?_ | refine nil_ ?_ | refine stepY (y_assign rfl) rfl ?_ | refine stepY (y_loadA rfl rfl rfl) rfl ?_ | refine stepE (e_box rfl rfl rfl rfl rfl rfl) ?_ | refine stepE (e_alloc rfl rfl rfl) ?_)
  refine call_ Tryz.func30 rfl rfl hv1 rfl (by repeat (first | exact .refl _ | apply Les.cons | exact .nil)) rfl ?_
  repeat (first | refine guard_t rfl rfl rfl ?_ | refine stepY (y_move rfl) rfl ?_ | refine stepY (y_loadA rfl rfl rfl) rfl ?_ | refine stepY (y_not rfl) rfl ?_)
  refine call_ Tryz.func30 rfl rfl hv2 rfl (by repeat (first | exact .refl _ | apply Les.cons | exact .nil)) rfl ?_
  repeat (first | refine seq_ ?_ | refine nil_ ?_ | refine skip_ ?_ | refine cond_f rfl ?_ | refine guard_t rfl rfl rfl ?_ | refine stepY (y_not rfl) rfl ?_ | refine stepY (y_pick_f rfl rfl) rfl ?_)
  refine draw_ [(0, true), (1, true), (2, true), (3, true), (4, true), (5, true)] 1000 [2, 3] mixed (by kernel_rfl) rfl ?_
  ((refine dY rfl (y_fieldAddr rfl) rfl rfl rfl rfl ?_); refine dY rfl (y_load1 rfl rfl rfl) rfl rfl rfl rfl ?_; refine dY rfl (y_fieldAddr rfl) rfl rfl rfl rfl ?_; refine dY rfl (y_load1 rfl rfl rfl) rfl rfl rfl rfl ?_; refine dY rfl (y_assign rfl) rfl rfl rfl rfl ?_; refine dY rfl (y_assign rfl) rfl rfl rfl rfl ?_; refine dEnd ?_)
  repeat (first | refine seq_ ?_ | refine block_ ?_)
  refine loop_ (α := Nat × Nat) (fun y => ([(4, .ptr 4 0), (6, .p (M y.1)), (7, .p (M y.2))], [(4, .bx [Bo false, .v (.slice none 0 0)])])) (fun y => ln y.1 ≤ 512 ∧ ln y.2 ≤ 512 ∧ Nat.gcd y.1 y.2 = Nat.gcd m n) (fun y => y.2) (m, n) ⟨hlm, hln, rfl⟩ ?_ ?_ ?_
  · (repeat (first | exact sub_nil | refine sub_cons rfl ?_))
  · (repeat (first | exact subH_nil | refine subH_cons rfl ?_))
  intro ⟨x, y⟩ ⟨hx, hy, hg⟩
  dsimp only at hx hy hg ⊢
  have hly : ((limbs y).length : Int) = ln y := by rw [limbs_length]
  by_cases h0 : 0 < y
  · have hy1 := ln_pos.2 h0
    repeat (first | refine seq_ ?_ | refine region_ ?_ | refine nil_ ?_ | refine skip_ ?_ | refine block_ ?_ | refine cond_t rfl ?_ | refine stepY (y_move rfl) rfl ?_ | refine stepY (y_len_si rfl) rfl ?_ | refine stepY (y_cmpT rfl rfl rfl (by omega)) rfl ?_)
    refine call_ Tryz.func61 rfl rfl (Division_c x y h0 (by omega)) rfl (by repeat (first | exact .refl _ | apply Les.cons | exact .nil)) rfl ?_
    repeat (first | refine region_ ?_ | refine nil_ ?_ | refine stepY (y_move rfl) rfl ?_ | refine stepY (y_assign rfl) rfl ?_ | refine stepY (y_extract rfl rfl) rfl ?_)
    refine ⟨(y, x % y), ⟨hy, ?_, ?_⟩, Nat.mod_lt x h0, ?_, ?_⟩
    · show ln (x % y) ≤ 512; have := ln_mono (Nat.le_of_lt (Nat.mod_lt x h0)); omega
    · show Nat.gcd y (x % y) = Nat.gcd m n; rw [← hg, Nat.gcd_comm x y, Nat.gcd_rec y x, Nat.gcd_comm]
    · (repeat (first | exact sub_nil | refine sub_cons rfl ?_))
    · (repeat (first | exact subH_nil | refine subH_cons rfl ?_))
  · obtain rfl : y = 0 := by omega
    rw [Nat.gcd_zero_right] at hg
    have hm := made_c false (limbs x) (wf_limbs _) (by rw [limbs_length]; omega)
    rw [val_limbs, hg] at hm
    have hl0 : ((limbs 0).length : Int) = 0 := rfl
    repeat (first | refine seq_ ?_ | refine region_ ?_ | refine nil_ ?_ | refine exit_ ?_ | refine cond_f rfl ?_ | refine stepY (y_move rfl) rfl ?_ | refine stepY (y_len_si rfl) rfl ?_ | refine stepY (y_cmpF rfl rfl rfl (by omega)) rfl ?_)
    rw [hg]
    refine call_ Tryz.func71 rfl rfl hm rfl (by repeat (first | exact .refl _ | apply Les.cons | exact .nil)) rfl ?_
    repeat (first | refine nil_ ?_ | refine ret_ ?_ | refine stepY (y_assign rfl) rfl ?_ | refine stepE (e_store rfl rfl rfl rfl rfl rfl rfl) ?_)
    ((apply fin_r); (repeat (first | exact .nil | exact .tmp rfl | exact .agg rfl rfl rfl | apply ResL.cons)); (repeat (exact .refl _)))
end Go.Av

set_option linter.unusedVariables false
set_option linter.unusedSimpArgs false
/-! Function values without captured variables. -/
namespace Go.Av
open Go Go.RowKit
section
variable {P : Program} {N : Nat} {E : Env} {H : Hp} {Q : Exit → Env → Hp → Prop} {ops : Array Oper} {rest : List Oper}
theorem y_mkfn {g : FuncId} {ty : TypeId} : Yl P (.makeFunc (.func g) #[] #[]) ty E H (.p (.v (.func (.func g) #[] #[]))) .no := by
  unfold Yl
  intro _ _ _ _ _ _ r
  exact ⟨.func (.func g) #[] #[], fun W _ _ _ _ _ => by simp [execOp, Instr.makeFunc], by simp [RelT, Rel]⟩
/-- A call of a function value that is known. -/
theorem callV_ {d i : Nat} {f : FuncId} {fn : Func} {os : Array Operand} {ts : Array TypeId} {ty : TypeId} {pos : String} {af : Array Edge} {args xs : List PV} {res : PV} (hf : P.funcs[f]? = some fn) (hn : (fn.name == "runtime.NumGoroutine") = false) (hb : fn.body.isNone = false)
    (hc : Con P f args res) (hi : lk i E = some (.p (.v (.func (.func f) #[] #[])))) (hx : evs E os.toList = some xs) (hle : Les xs args) (hd : Nat.blt d N = true) (k : TrL P N ops rest ((d, .p res) :: E) H Q) :
    TrL P N ops (⟨some d, .call { callee := .value (.tmp i), args := os, argTypes := ts }, ty, pos, af, none⟩ :: rest) E H Q := by
  unfold TrL at k ⊢
  intro okA w0 ρ tmps w r
  refine wpList_plain rfl fun K hK => ?_
  have hcall := call_rep r hc hx hle
  have hv := ev_v r (o := .tmp i) hi
  have hrun : (execOp (Act.eval ⟨tmps, []⟩) ⟨some d, .call { callee := .value (.tmp i), args := os, argTypes := ts }, ty, pos, af, none⟩).run P w = .ok (.enter f (os.map (Act.eval ⟨tmps, []⟩))) w := by
    have hn' : ¬ fn.name = "runtime.NumGoroutine" := by simpa using hn
    have hb' : ¬ fn.body = none := by intro h; rw [h] at hb; simp at hb
    simp [execOp, resolve, Deferred.ofValue, hv, invoke, callFunc, hf, hn', hb']
  simp only [Oper.wp, hrun, Oper.upon]
  have harr : os.map (Act.eval ⟨tmps, []⟩) = (os.toList.map (Act.eval ⟨tmps, []⟩)).toArray := by apply Array.ext'; simp
  rw [harr]
  refine hcall.mono fun e w' ⟨y, he, hr, hrel, _⟩ => ?_
  subst he
  exact hK _ _ (k okA w0 ρ _ w' (hr.put (Nat.le_of_ble_eq_true hd) (x := .p res) (by simpa only [RelT] using hrel)))
end
end Go.Av

set_option maxHeartbeats 8000000
set_option exponentiation.threshold 100000
set_option maxRecDepth 100000
set_option linter.unusedVariables false
set_option linter.unusedSimpArgs false
namespace Go.Av
open Go Go.Proofs
/-! fraction: wide numbers and reduced fractions -/
theorem wideOf_c (p : Bool) (n : Nat) : Con Tryz.prog 32 [SV p n] (SV p n) := by
  refine con_of Tryz.func32 rfl rfl rfl rfl rfl ?_
  repeat (first | refine seq_ ?_ | refine region_ ?_ | refine nil_ ?_ | refine ret_ ?_ | refine stepY (y_load1 rfl rfl rfl) rfl ?_ | refine stepY (y_fieldAddr rfl) rfl ?_ | refine stepY (y_build rfl rfl rfl) rfl ?_ | refine stepE (e_box rfl rfl rfl rfl rfl rfl) ?_ | refine stepE (e_alloc rfl rfl rfl) ?_ | refine stepE (e_store rfl rfl rfl rfl rfl rfl rfl) ?_)
  ((apply fin_r); (repeat (first | exact .nil | exact .agg rfl rfl rfl | apply ResL.cons)); (repeat (exact .refl _)))
theorem wminus_c (p : Bool) (n : Nat) : Con Tryz.prog 36 [SV p n] (SV (!p) n) := by
  refine con_of Tryz.func36 rfl rfl rfl rfl rfl ?_
  repeat (first | refine seq_ ?_ | refine region_ ?_ | refine nil_ ?_ | refine ret_ ?_ | refine stepY (y_load1 rfl rfl rfl) rfl ?_ | refine stepY (y_fieldAddr rfl) rfl ?_ | refine stepY (y_not rfl) rfl ?_ | refine stepY (y_build rfl rfl rfl) rfl ?_ | refine stepE (e_box rfl rfl rfl rfl rfl rfl) ?_ | refine stepE (e_alloc rfl rfl rfl) ?_ | refine stepE (e_store rfl rfl rfl rfl rfl rfl rfl) ?_)
  ((apply fin_r); (repeat (first | exact .nil | exact .agg rfl rfl rfl | apply ResL.cons)); (repeat (exact .refl _)))
theorem wtimes_c (p q : Bool) (m n : Nat) (hm : ln m ≤ 4000) (hn : ln n ≤ 4000) : Con Tryz.prog 34 [SV p m, SV q n] (SV (p != q) (m * n)) := by
  refine con_of Tryz.func34 rfl rfl rfl rfl rfl ?_
  have hp := Product_c (limbs m) (limbs n) (wf_limbs _) (wf_limbs _) (by rw [limbs_length]; omega) (by rw [limbs_length]; omega)
  rw [val_limbs, val_limbs] at hp
  have hb : decide (p ≠ q) = (p != q) := by cases p <;> cases q <;> rfl
  rw [← hb]
  repeat (first | refine seq_ ?_ | refine region_ ?_ | refine nil_ ?_ | refine stepE (e_box rfl rfl rfl rfl rfl rfl) ?_ | refine stepE (e_alloc rfl rfl rfl) ?_)
  refine draw_ [(0, true), (1, true), (2, true), (3, true), (4, true), (5, true), (6, true), (7, true), (8, true), (9, false), (10, true), (11, false)] 1000 [2, 3] mixed (by kernel_rfl) rfl ?_
  ((refine dY rfl (y_fieldAddr rfl) rfl rfl rfl rfl ?_); refine dY rfl (y_load1 rfl rfl rfl) rfl rfl rfl rfl ?_; refine dY rfl (y_fieldAddr rfl) rfl rfl rfl rfl ?_; refine dY rfl (y_load1 rfl rfl rfl) rfl rfl rfl rfl ?_; refine dY rfl (y_neb rfl rfl) rfl rfl rfl rfl ?_; refine dY rfl (y_fieldAddr rfl) rfl rfl rfl rfl ?_; refine dY rfl (y_load1 rfl rfl rfl) rfl rfl rfl rfl ?_; refine dY rfl (y_fieldAddr rfl) rfl rfl rfl rfl ?_; refine dY rfl (y_load1 rfl rfl rfl) rfl rfl rfl rfl ?_)
  refine dC rfl Tryz.func65 rfl rfl hp rfl (by repeat (first | exact .refl _ | apply Les.cons | exact .nil)) rfl rfl ?_
  ((refine dY rfl (y_build rfl rfl rfl) rfl rfl rfl rfl ?_); (refine dE rfl (e_store rfl rfl rfl rfl rfl rfl rfl) rfl rfl ?_); refine dEnd ?_)
  repeat (refine ret_ ?_)
  ((apply fin_r); (repeat (first | exact .nil | exact .agg rfl rfl rfl | apply ResL.cons)); (repeat (exact .refl _)))
def addA (p q : Bool) (m n : Nat) : Nat := if p = q then m + n else if n ≤ m then m - n else n - m
theorem addA_val (p q : Bool) (m n : Nat) : sgn (addN p q m n) (addA p q m n) = sgn p m + sgn q n := by
  unfold addN addA sgn
  cases p <;> cases q <;> by_cases h : n ≤ m <;> simp [h] <;> omega
theorem wplus_c (p q : Bool) (m n : Nat) (hm : ln m ≤ 8000) (hn : ln n ≤ 8000) : Con Tryz.prog 35 [SV p m, SV q n] (SV (addN p q m n) (addA p q m n)) := by
  refine con_of Tryz.func35 rfl rfl rfl rfl rfl ?_
  have hlm : (limbs m).length = ln m := limbs_length _
  have hln : (limbs n).length = ln n := limbs_length _
  by_cases h : p = q
  · have hs := Sum_c (limbs m) (limbs n) (wf_limbs _) (wf_limbs _) (by omega) (by omega)
    rw [val_limbs, val_limbs, hlm, hln] at hs
    have ht := Trim_c (padd (max (ln m) (ln n) + 1) (m + n)) (wf_padd _ _)
    rw [val_padd, Nat.mod_eq_of_lt (sum_lt (ln_le.1 (Nat.le_max_left _ _)) (ln_le.1 (Nat.le_max_right _ _)))] at ht
    rw [show addN p q m n = p by simp [addN, h], show addA p q m n = m + n by simp [addA, h]]
    have hd : decide (p = q) = true := decide_eq_true h
    repeat (first | refine seq_ ?_ | refine region_ ?_ | refine nil_ ?_ | refine block_ ?_ | refine stepY (y_assign rfl) rfl ?_ | refine stepY (y_load1 rfl rfl rfl) rfl ?_ | refine stepY (y_fieldAddr rfl) rfl ?_ | refine stepY (y_eqb rfl rfl) rfl ?_ | refine stepE (e_box rfl rfl rfl rfl rfl rfl) ?_ | refine stepE (e_alloc rfl rfl rfl) ?_)
    rw [hd]
    repeat (first | refine seq_ ?_ | refine cond_t rfl ?_)
    refine draw_ [(0, true), (1, true), (2, true), (3, true), (4, true), (5, true), (6, false), (7, false), (8, true), (9, false)] 1000 [2, 3] mixed (by kernel_rfl) rfl ?_
    ((refine dY rfl (y_fieldAddr rfl) rfl rfl rfl rfl ?_); refine dY rfl (y_load1 rfl rfl rfl) rfl rfl rfl rfl ?_; refine dY rfl (y_fieldAddr rfl) rfl rfl rfl rfl ?_; refine dY rfl (y_load1 rfl rfl rfl) rfl rfl rfl rfl ?_; refine dY rfl (y_fieldAddr rfl) rfl rfl rfl rfl ?_; refine dY rfl (y_load1 rfl rfl rfl) rfl rfl rfl rfl ?_)
    refine dC rfl Tryz.func44 rfl rfl hs rfl (by repeat (first | exact .refl _ | apply Les.cons | exact .nil)) rfl rfl ?_
    skip
    refine dC rfl Tryz.func43 rfl rfl ht rfl (by repeat (first | exact .tag _ _ | apply Les.cons | exact .nil)) rfl rfl ?_
    ((refine dY rfl (y_build rfl rfl rfl) rfl rfl rfl rfl ?_); (refine dE rfl (e_store rfl rfl rfl rfl rfl rfl rfl) rfl rfl ?_); refine dEnd ?_)
    repeat (refine ret_ ?_)
    ((apply fin_r); (repeat (first | exact .nil | exact .agg rfl rfl rfl | apply ResL.cons)); (repeat (exact .refl _)))
  · have hd : decide (p = q) = false := decide_eq_false h
    have hc := Compare_c m n
    by_cases h2 : n ≤ m
    · rw [show addN p q m n = p by simp [addN, h, h2], show addA p q m n = m - n by simp [addA, h, h2]]
      have h3 : 0 ≤ sg m n := by unfold sg; split <;> (try split) <;> omega
      have hf := Difference_c (limbs m) (limbs n) (wf_limbs _) (wf_limbs _) (by omega) (by rw [val_limbs, val_limbs]; exact h2)
      rw [val_limbs, val_limbs] at hf
      repeat (first | refine seq_ ?_ | refine region_ ?_ | refine nil_ ?_ | refine block_ ?_ | refine stepY (y_assign rfl) rfl ?_ | refine stepY (y_load1 rfl rfl rfl) rfl ?_ | refine stepY (y_fieldAddr rfl) rfl ?_ | refine stepY (y_eqb rfl rfl) rfl ?_ | refine stepE (e_box rfl rfl rfl rfl rfl rfl) ?_ | refine stepE (e_alloc rfl rfl rfl) ?_)
      rw [hd]
      repeat (first | refine seq_ ?_ | refine region_ ?_ | refine cond_f rfl ?_ | refine stepY (y_load1 rfl rfl rfl) rfl ?_ | refine stepY (y_fieldAddr rfl) rfl ?_)
      refine call_ Tryz.func42 rfl rfl hc rfl (by repeat (first | exact .refl _ | apply Les.cons | exact .nil)) rfl ?_
      repeat (first | refine seq_ ?_ | refine nil_ ?_ | refine cond_t rfl ?_ | refine stepY (y_assign rfl) rfl ?_ | refine stepY (y_cmpT rfl rfl rfl (by omega)) rfl ?_)
      refine draw_ [(0, true), (1, true), (2, true), (3, true), (4, true), (5, true), (6, false), (7, true), (8, false)] 1000 [2, 3] mixed (by kernel_rfl) rfl ?_
      ((refine dY rfl (y_fieldAddr rfl) rfl rfl rfl rfl ?_); refine dY rfl (y_load1 rfl rfl rfl) rfl rfl rfl rfl ?_; refine dY rfl (y_fieldAddr rfl) rfl rfl rfl rfl ?_; refine dY rfl (y_load1 rfl rfl rfl) rfl rfl rfl rfl ?_; refine dY rfl (y_fieldAddr rfl) rfl rfl rfl rfl ?_; refine dY rfl (y_load1 rfl rfl rfl) rfl rfl rfl rfl ?_)
      refine dC rfl Tryz.func66 rfl rfl hf rfl (by repeat (first | exact .refl _ | apply Les.cons | exact .nil)) rfl rfl ?_
      ((refine dY rfl (y_build rfl rfl rfl) rfl rfl rfl rfl ?_); (refine dE rfl (e_store rfl rfl rfl rfl rfl rfl rfl) rfl rfl ?_); refine dEnd ?_)
      repeat (refine ret_ ?_)
      ((apply fin_r); (repeat (first | exact .nil | exact .agg rfl rfl rfl | apply ResL.cons)); (repeat (exact .refl _)))
    · rw [show addN p q m n = q by simp [addN, h, h2], show addA p q m n = n - m by simp [addA, h, h2]]
      have h3 : ¬ 0 ≤ sg m n := by rw [sg_lt (by omega)]; omega
      have hf := Difference_c (limbs n) (limbs m) (wf_limbs _) (wf_limbs _) (by omega) (by rw [val_limbs, val_limbs]; omega)
      rw [val_limbs, val_limbs] at hf
      repeat (first | refine seq_ ?_ | refine region_ ?_ | refine nil_ ?_ | refine block_ ?_ | refine stepY (y_assign rfl) rfl ?_ | refine stepY (y_load1 rfl rfl rfl) rfl ?_ | refine stepY (y_fieldAddr rfl) rfl ?_ | refine stepY (y_eqb rfl rfl) rfl ?_ | refine stepE (e_box rfl rfl rfl rfl rfl rfl) ?_ | refine stepE (e_alloc rfl rfl rfl) ?_)
      rw [hd]
      repeat (first | refine seq_ ?_ | refine region_ ?_ | refine cond_f rfl ?_ | refine stepY (y_load1 rfl rfl rfl) rfl ?_ | refine stepY (y_fieldAddr rfl) rfl ?_)
      refine call_ Tryz.func42 rfl rfl hc rfl (by repeat (first | exact .refl _ | apply Les.cons | exact .nil)) rfl ?_
      repeat (first | refine seq_ ?_ | refine nil_ ?_ | refine skip_ ?_ | refine cond_f rfl ?_ | refine stepY (y_assign rfl) rfl ?_ | refine stepY (y_cmpF rfl rfl rfl (by omega)) rfl ?_)
      refine draw_ [(0, true), (1, true), (2, true), (3, true), (4, true), (5, true), (6, false), (7, true), (8, false)] 1000 [2, 3] mixed (by kernel_rfl) rfl ?_
      ((refine dY rfl (y_fieldAddr rfl) rfl rfl rfl rfl ?_); refine dY rfl (y_load1 rfl rfl rfl) rfl rfl rfl rfl ?_; refine dY rfl (y_fieldAddr rfl) rfl rfl rfl rfl ?_; refine dY rfl (y_load1 rfl rfl rfl) rfl rfl rfl rfl ?_; refine dY rfl (y_fieldAddr rfl) rfl rfl rfl rfl ?_; refine dY rfl (y_load1 rfl rfl rfl) rfl rfl rfl rfl ?_)
      refine dC rfl Tryz.func66 rfl rfl hf rfl (by repeat (first | exact .refl _ | apply Les.cons | exact .nil)) rfl rfl ?_
      ((refine dY rfl (y_build rfl rfl rfl) rfl rfl rfl rfl ?_); (refine dE rfl (e_store rfl rfl rfl rfl rfl rfl rfl) rfl rfl ?_); refine dEnd ?_)
      repeat (refine ret_ ?_)
      ((apply fin_r); (repeat (first | exact .nil | exact .agg rfl rfl rfl | apply ResL.cons)); (repeat (exact .refl _)))
theorem fcommon_c (a b : Nat) (hla : ln a ≤ 20000) (hlb : ln b ≤ 20000) : Con Tryz.prog 60 [M a, M b] (M (Nat.gcd a b)) := by
  refine con_of Tryz.func60 rfl rfl rfl rfl rfl ?_
  repeat (first | refine seq_ ?_ | refine region_ ?_ | refine nil_ ?_ | refine block_ ?_ | refine stepY (y_assign rfl) rfl ?_)
  refine loop_ (α := Nat × Nat) (fun s => ([(0, .p (M s.1)), (1, .p (M s.2))], [])) (fun s => Nat.gcd s.1 s.2 = Nat.gcd a b ∧ ln s.1 ≤ 20000 ∧ ln s.2 ≤ 20000) (fun s => s.2) (a, b) ⟨rfl, hla, hlb⟩ ?_ ?_ ?_
  · (repeat (first | exact sub_nil | refine sub_cons rfl ?_))
  · (repeat (exact subH_nil))
  intro ⟨x, y⟩ ⟨hg, hx, hy⟩
  dsimp only at hg hx hy ⊢
  have hly : ((limbs y).length : Int) = ln y := by rw [limbs_length]
  by_cases h : 0 < y
  · have hp := ln_pos.2 h
    have hm := Nat.mod_lt x h
    have ht := Trim_c (limbs (x % y)) (wf_limbs _)
    rw [val_limbs] at ht
    repeat (first | refine seq_ ?_ | refine region_ ?_ | refine nil_ ?_ | refine skip_ ?_ | refine block_ ?_ | refine cond_t rfl ?_ | refine stepY (y_move rfl) rfl ?_ | refine stepY (y_len_si rfl) rfl ?_ | refine stepY (y_cmpT rfl rfl rfl (by omega)) rfl ?_)
    refine call_ Tryz.func61 rfl rfl (Division_c x y h (by omega)) rfl (by repeat (first | exact .refl _ | apply Les.cons | exact .nil)) rfl ?_
    repeat (first | refine region_ ?_ | refine nil_ ?_ | refine stepY (y_move rfl) rfl ?_ | refine stepY (y_assign rfl) rfl ?_ | refine stepY (y_extract rfl rfl) rfl ?_)
    refine call_ Tryz.func43 rfl rfl ht rfl (by repeat (first | exact .refl _ | apply Les.cons | exact .nil)) rfl ?_
    repeat (first | refine nil_ ?_ | refine stepY (y_assign rfl) rfl ?_)
    refine ⟨(y, x % y), ⟨?_, hy, ?_⟩, hm, ?_, ?_⟩
    · rw [← hg]; simp only; rw [Nat.gcd_comm x y, Nat.gcd_rec y x, Nat.gcd_comm]
    · exact Nat.le_trans (ln_mono (Nat.le_of_lt hm)) hy
    · (repeat (first | exact sub_nil | refine sub_cons rfl ?_))
    · (repeat (exact subH_nil))
  · obtain rfl : y = 0 := by omega
    have hp : ln 0 = 0 := rfl
    rw [Nat.gcd_zero_right] at hg
    subst hg
    repeat (first | refine seq_ ?_ | refine region_ ?_ | refine nil_ ?_ | refine exit_ ?_ | refine ret_ ?_ | refine cond_f rfl ?_ | refine stepY (y_move rfl) rfl ?_ | refine stepY (y_assign rfl) rfl ?_ | refine stepY (y_len_si rfl) rfl ?_ | refine stepY (y_cmpF rfl rfl rfl (by omega)) rfl ?_)
    ((apply fin_r); (repeat (first | exact .nil | exact .tmp rfl | apply ResL.cons)); (repeat (exact .refl _)))
end Go.Av

set_option maxHeartbeats 8000000
set_option exponentiation.threshold 100000
set_option maxRecDepth 100000
set_option linter.unusedVariables false
set_option linter.unusedSimpArgs false
namespace Go.Av
open Go Go.Proofs
/-! fractions: normal form -/
abbrev QV (x : Rat) : PV := .ag [Bo (decide (x.num < 0)), M x.num.natAbs, Bo false, M x.den]
abbrev FQ (x : Rat) : PV := .ag [Bo (decide (x.num < 0)), FM x.num.natAbs, Bo false, FM x.den]
abbrev ZF : PV := .ag [Bo false, FM 0, Bo false, FM 0]
def okQ (x : Rat) : Prop := ln x.num.natAbs ≤ 512 ∧ ln x.den ≤ 512
instance (x : Rat) : Decidable (okQ x) := by unfold okQ; infer_instance
def resQ (x : Rat) : PV := if okQ x then .tp [FQ x, E_ 0] else .tp [ZF, E_ 4]
theorem mkQ (z : Int) {d : Nat} (hd : 0 < d) : (mkRat z d).num = z / (Nat.gcd z.natAbs d : Nat) ∧ (mkRat z d).den = d / Nat.gcd z.natAbs d := by
  rw [← Rat.normalize_eq_mkRat (Nat.ne_of_gt hd), Rat.normalize_eq]
  exact ⟨rfl, rfl⟩
theorem gcd_pos' {n d : Nat} (hd : 0 < d) : 0 < Nat.gcd n d := Nat.gcd_pos_of_pos_right _ hd
theorem mkQ_num (p : Bool) (n : Nat) {d : Nat} (hd : 0 < d) : (mkRat (sgn p n) d).num = sgn p (n / Nat.gcd n d) := by
  rw [(mkQ _ hd).1, sgn_abs]
  unfold sgn
  cases p
  · simp
  · simp only [if_true]
    rw [Int.neg_ediv_of_dvd (Int.natCast_dvd_natCast.2 (Nat.gcd_dvd_left n d))]
    simp
theorem mkQ_den (p : Bool) (n : Nat) {d : Nat} (hd : 0 < d) : (mkRat (sgn p n) d).den = d / Nat.gcd n d := by
  rw [(mkQ _ hd).2, sgn_abs]
theorem resQ_ok {x : Rat} (h : okQ x) : resQ x = .tp [FQ x, E_ 0] := by unfold resQ; rw [if_pos h]
theorem resQ_no {x : Rat} (h : ¬ okQ x) : resQ x = .tp [ZF, E_ 4] := by unfold resQ; rw [if_neg h]
theorem resQ_eq (s : Bool) (n : Nat) {d : Nat} (hd : 0 < d) : resQ (mkRat (sgn s n) d) = if ln (n / Nat.gcd n d) ≤ 512 ∧ ln (d / Nat.gcd n d) ≤ 512 then .tp [.ag [Bo (s && decide (0 < n / Nat.gcd n d)), FM (n / Nat.gcd n d), Bo false, FM (d / Nat.gcd n d)], E_ 0] else .tp [ZF, E_ 4] := by
  have hnm := mkQ_num s n hd
  have hdn := mkQ_den s n hd
  have hna : (mkRat (sgn s n) d).num.natAbs = n / Nat.gcd n d := by rw [hnm, sgn_abs]
  have hsg : decide ((mkRat (sgn s n) d).num < 0) = (s && decide (0 < n / Nat.gcd n d)) := by rw [hnm, sgn_neg]
  by_cases h : okQ (mkRat (sgn s n) d)
  · rw [resQ_ok h]
    unfold okQ at h
    rw [hna, hdn] at h
    rw [if_pos h]
    simp only [FQ]
    rw [hsg, hna, hdn]
  · rw [resQ_no h]
    unfold okQ at h
    rw [hna, hdn] at h
    rw [if_neg h]
theorem reduced_c (p q : Bool) (n d : Nat) (hd : 0 < d) (hn : ln n ≤ 20000) (hld : ln d ≤ 20000) : Con Tryz.prog 31 [SV p n, SV q d] (resQ (mkRat (sgn (p != q) n) d)) := by
  rw [resQ_eq _ _ hd]
  have hg := gcd_pos' (n := n) hd
  have hc := fcommon_c n d hn hld
  have hD1 := Division_c n (Nat.gcd n d) hg (by omega)
  have hD2 := Division_c d (Nat.gcd n d) hg (by omega)
  generalize n / Nat.gcd n d = a at *
  generalize d / Nat.gcd n d = b at *
  have hb : decide (p ≠ q) = (p != q) := by cases p <;> cases q <;> rfl
  refine con_of Tryz.func31 rfl rfl rfl rfl rfl ?_
  have hla : ((limbs a).length : Int) = ln a := by rw [limbs_length]
  have hlb : ((limbs b).length : Int) = ln b := by rw [limbs_length]
  repeat (first | refine seq_ ?_ | refine region_ ?_ | refine nil_ ?_ | refine stepY (y_assign rfl) rfl ?_ | refine stepY (y_load1 rfl rfl rfl) rfl ?_ | refine stepY (y_fieldAddr rfl) rfl ?_ | refine stepE (e_box rfl rfl rfl rfl rfl rfl) ?_ | refine stepE (e_alloc rfl rfl rfl) ?_)
  refine call_ Tryz.func60 rfl rfl hc rfl (by repeat (first | exact .refl _ | apply Les.cons | exact .nil)) rfl ?_
  repeat (first | refine seq_ ?_ | refine region_ ?_ | refine nil_ ?_ | refine stepY (y_move rfl) rfl ?_ | refine stepY (y_assign rfl) rfl ?_ | refine stepY (y_load1 rfl rfl rfl) rfl ?_ | refine stepY (y_fieldAddr rfl) rfl ?_)
  refine call_ Tryz.func61 rfl rfl hD1 rfl (by repeat (first | exact .refl _ | apply Les.cons | exact .nil)) rfl ?_
  repeat (first | refine seq_ ?_ | refine region_ ?_ | refine nil_ ?_ | refine stepY (y_move rfl) rfl ?_ | refine stepY (y_assign rfl) rfl ?_ | refine stepY (y_load1 rfl rfl rfl) rfl ?_ | refine stepY (y_fieldAddr rfl) rfl ?_ | refine stepY (y_extract rfl rfl) rfl ?_)
  refine call_ Tryz.func61 rfl rfl hD2 rfl (by repeat (first | exact .refl _ | apply Les.cons | exact .nil)) rfl ?_
  by_cases h1 : ln a ≤ 512
  · by_cases h2 : ln b ≤ 512
    · rw [if_pos ⟨h1, h2⟩]
      have hC1 := Clone_c (limbs a) (by rw [limbs_length]; omega)
      have hC2 := Clone_c (limbs b) (by rw [limbs_length]; omega)
      repeat (first | refine seq_ ?_ | refine region_ ?_ | refine nil_ ?_ | refine skip_ ?_ | refine cond_f rfl ?_ | refine guard_t rfl rfl rfl ?_ | refine stepY (y_move rfl) rfl ?_ | refine stepY (y_assign rfl) rfl ?_ | refine stepY (y_load1 rfl rfl rfl) rfl ?_ | refine stepY (y_fieldAddr rfl) rfl ?_ | refine stepY (y_extract rfl rfl) rfl ?_ | refine stepY (y_len_si rfl) rfl ?_ | refine stepY (y_pick_f rfl rfl) rfl ?_ | refine stepY (y_neb rfl rfl) rfl ?_ | refine stepY (y_cmpF rfl rfl rfl (by omega)) rfl ?_)
      rw [hb]
      by_cases h3 : (p != q) = true
      · rw [h3] at *
        by_cases h4 : 0 < a
        · have := ln_pos.2 h4
          rw [decide_eq_true h4]
          repeat (first | refine seq_ ?_ | refine region_ ?_ | refine nil_ ?_ | refine guard_t rfl rfl rfl ?_ | refine stepY (y_move rfl) rfl ?_ | refine stepY (y_assign rfl) rfl ?_ | refine stepY (y_len_si rfl) rfl ?_ | refine stepY (y_pick_t rfl rfl) rfl ?_ | refine stepY (y_cmpT rfl rfl rfl (by omega)) rfl ?_)
          refine call_ Tryz.func62 rfl rfl hC1 rfl (by repeat (first | exact .refl _ | apply Les.cons | exact .nil)) rfl ?_
          repeat (first | refine stepY (y_move rfl) rfl ?_ | refine stepY (y_build rfl rfl rfl) rfl ?_)
          refine call_ Tryz.func62 rfl rfl hC2 rfl (by repeat (first | exact .refl _ | apply Les.cons | exact .nil)) rfl ?_
          repeat (first | refine nil_ ?_ | refine ret_ ?_ | refine stepY (y_assign rfl) rfl ?_ | refine stepY (y_build rfl rfl rfl) rfl ?_ | refine stepE (e_store rfl rfl rfl rfl rfl rfl rfl) ?_)
          ((apply fin_r); (repeat (first | exact .nil | exact .tmp rfl | exact .agg rfl rfl rfl | apply ResL.cons)); (repeat (exact .refl _)))
        · have : ¬ 0 < ln a := fun h => h4 (ln_pos.1 h)
          rw [decide_eq_false h4]
          repeat (first | refine seq_ ?_ | refine region_ ?_ | refine nil_ ?_ | refine guard_t rfl rfl rfl ?_ | refine stepY (y_move rfl) rfl ?_ | refine stepY (y_assign rfl) rfl ?_ | refine stepY (y_len_si rfl) rfl ?_ | refine stepY (y_pick_t rfl rfl) rfl ?_ | refine stepY (y_cmpF rfl rfl rfl (by omega)) rfl ?_)
          refine call_ Tryz.func62 rfl rfl hC1 rfl (by repeat (first | exact .refl _ | apply Les.cons | exact .nil)) rfl ?_
          repeat (first | refine stepY (y_move rfl) rfl ?_ | refine stepY (y_build rfl rfl rfl) rfl ?_)
          refine call_ Tryz.func62 rfl rfl hC2 rfl (by repeat (first | exact .refl _ | apply Les.cons | exact .nil)) rfl ?_
          repeat (first | refine nil_ ?_ | refine ret_ ?_ | refine stepY (y_assign rfl) rfl ?_ | refine stepY (y_build rfl rfl rfl) rfl ?_ | refine stepE (e_store rfl rfl rfl rfl rfl rfl rfl) ?_)
          ((apply fin_r); (repeat (first | exact .nil | exact .tmp rfl | exact .agg rfl rfl rfl | apply ResL.cons)); (repeat (exact .refl _)))
      · rw [show (p != q) = false from Bool.eq_false_iff.2 h3] at *
        repeat (first | refine seq_ ?_ | refine region_ ?_ | refine nil_ ?_ | refine guard_f rfl rfl rfl rfl ?_ | refine stepY (y_move rfl) rfl ?_ | refine stepY (y_assign rfl) rfl ?_ | refine stepY (y_pick_f rfl rfl) rfl ?_)
        refine call_ Tryz.func62 rfl rfl hC1 rfl (by repeat (first | exact .refl _ | apply Les.cons | exact .nil)) rfl ?_
        repeat (first | refine stepY (y_move rfl) rfl ?_ | refine stepY (y_build rfl rfl rfl) rfl ?_)
        refine call_ Tryz.func62 rfl rfl hC2 rfl (by repeat (first | exact .refl _ | apply Les.cons | exact .nil)) rfl ?_
        repeat (first | refine nil_ ?_ | refine ret_ ?_ | refine stepY (y_assign rfl) rfl ?_ | refine stepY (y_build rfl rfl rfl) rfl ?_ | refine stepE (e_store rfl rfl rfl rfl rfl rfl rfl) ?_)
        ((apply fin_r); (repeat (first | exact .nil | exact .tmp rfl | exact .agg rfl rfl rfl | apply ResL.cons)); (repeat (exact .refl _)))
    · rw [if_neg (fun h => h2 h.2)]
      repeat (first | refine seq_ ?_ | refine region_ ?_ | refine nil_ ?_ | refine ret_ ?_ | refine cond_t rfl ?_ | refine guard_t rfl rfl rfl ?_ | refine stepY (y_move rfl) rfl ?_ | refine stepY (y_assign rfl) rfl ?_ | refine stepY (y_extract rfl rfl) rfl ?_ | refine stepY (y_len_si rfl) rfl ?_ | refine stepY (y_pick_f rfl rfl) rfl ?_ | refine stepY (y_build rfl rfl rfl) rfl ?_ | (first | refine stepY (y_cmpT rfl rfl rfl (by omega)) rfl ?_ | refine stepY (y_cmpF rfl rfl rfl (by omega)) rfl ?_) | refine stepE (e_store rfl rfl rfl rfl rfl rfl rfl) ?_)
      ((apply fin_r); (repeat (first | exact .nil | exact .tmp rfl | exact .agg rfl rfl rfl | apply ResL.cons)); (repeat (first | exact .refl _ | exact .nil _ _ | apply Le.ag | apply Le.tp | apply Les.cons | exact .nil)))
  · rw [if_neg (fun h => h1 h.1)]
    repeat (first | refine seq_ ?_ | refine region_ ?_ | refine nil_ ?_ | refine ret_ ?_ | refine cond_t rfl ?_ | refine guard_f rfl rfl rfl rfl ?_ | refine stepY (y_move rfl) rfl ?_ | refine stepY (y_assign rfl) rfl ?_ | refine stepY (y_extract rfl rfl) rfl ?_ | refine stepY (y_len_si rfl) rfl ?_ | refine stepY (y_pick_t rfl rfl) rfl ?_ | refine stepY (y_build rfl rfl rfl) rfl ?_ | refine stepY (y_cmpT rfl rfl rfl (by omega)) rfl ?_ | refine stepE (e_store rfl rfl rfl rfl rfl rfl rfl) ?_)
    ((apply fin_r); (repeat (first | exact .nil | exact .tmp rfl | exact .agg rfl rfl rfl | apply ResL.cons)); (repeat (first | exact .refl _ | exact .nil _ _ | apply Le.ag | apply Le.tp | apply Les.cons | exact .nil)))
/-- any four fields -/
abbrev AF (p : Bool) (l : List Int) (q : Bool) (k : List Int) : PV := .ag [Bo p, Li l, Bo q, Li k]
def vldF (p : Bool) (l : List Int) (q : Bool) (k : List Int) : Bool := vldB p l && vldB q k && !q && decide (0 < k.length) && (Nat.gcd (val l) (val k) == 1)
theorem vld_limbs {p : Bool} {l : List Int} (hw : wf l) (h : vldB p l = true) : l = limbs (val l) := by
  have h1 := (iv_vld hw h).1
  unfold AV IV at h1
  rw [sgn_abs] at h1
  injection h1 with h1
  injection h1 with _ h1
  injection h1 with h1 _
  injection h1
theorem vldF_q {p : Bool} {l : List Int} {q : Bool} {k : List Int} (hl : wf l) (hk : wf k) (h : vldF p l q k = true) : ∃ x : Rat, okQ x ∧ p = decide (x.num < 0) ∧ l = limbs x.num.natAbs ∧ q = false ∧ k = limbs x.den := by
  unfold vldF at h
  simp only [Bool.and_eq_true, decide_eq_true_eq, Bool.not_eq_true', beq_iff_eq] at h
  obtain ⟨⟨⟨⟨h1, h2⟩, h3⟩, h4⟩, h5⟩ := h
  have e1 := (iv_vld hl h1)
  have e2 := vld_limbs hl h1
  have e3 := vld_limbs hk h2
  have hkp : val k ≠ 0 := by intro h0; rw [h0] at e3; rw [e3] at h4; exact absurd h4 (by decide)
  have hz : (sgn p (val l)).natAbs = val l := sgn_abs _ _
  refine ⟨⟨sgn p (val l), val k, hkp, by unfold Nat.Coprime; rw [hz]; exact h5⟩, ⟨e1.2, ?_⟩, ?_, ?_, h3, e3⟩
  · rw [e3] at h2; exact vld_ln h2
  · have := e1.1
    injection this with h6
    injection h6 with h6 _
    injection h6 with h6
    injection h6
  · show l = limbs (sgn p (val l)).natAbs
    rw [hz]; exact e2
theorem vldF_t {x : Rat} (h : okQ x) : vldF (decide (x.num < 0)) (limbs x.num.natAbs) false (limbs x.den) = true := by
  unfold vldF
  have h1 := vld_iv h.1
  have h2 := vld_iv (z := (x.den : Int)) (by simpa using h.2)
  rw [show decide ((x.den : Int) < 0) = false by rw [decide_eq_false]; omega, Int.natAbs_natCast] at h2
  have h3 := ln_pos.2 (Nat.pos_of_ne_zero x.den_nz)
  rw [h1, h2, val_limbs, val_limbs, limbs_length, decide_eq_true h3]
  have := x.reduced
  unfold Nat.Coprime at this
  simp [this]
end Go.Av

set_option maxRecDepth 100000
set_option linter.unusedVariables false
set_option linter.unusedSimpArgs false
/-! A fraction as an argument of a row. -/
namespace Go.Av
open Go Go.Proofs Go.ChangeShapes Go.WideShapes Go.ChangeAt Go.RowKit Go.Joins
section
variable {H : Type} {enc : TypeId × Value → H} {W : World} {base : Nat}
theorem arr4 (T : Array Value) (h : T.size = 4) : ∃ a b c d : Value, T = #[a, b, c, d] := by
  obtain ⟨l⟩ := T
  simp only [List.size_toArray] at h
  match l, h with
  | [a, b, c, d], _ => exact ⟨a, b, c, d, rfl⟩
theorem arg_fr {v : Value} {d : DataW H} {p : List MemPlace} {ts : List TypeId} {ds : List (DataW H)} {j : Nat} (hsz : (DataW.weightsEach Tryz.prog ts ds).all (· ≤ reachBytes) = true) (ht : ts[j]? = some 26) (hd : ds[j]? = some d)
    (hval : Value.okWide Tryz.prog W .any base 26 v) (h : DataW.Trod enc Tryz.prog W 0 (fun _ => true) true 26 v d p) : ∃ q l r k, wf l ∧ wf k ∧ Rel W (fun _ b => b < W.heap.size ∧ True) (AF q l r k) v := by
  obtain ⟨cs, rfl, h4⟩ := okWide_struct Tryz.underlying26 hval
  have hc4 : Tryz.prog.cellsOf 26 = 4 := by kernel_rfl
  have hc2 : Tryz.prog.cellsOf 24 = 2 := by kernel_rfl
  have hb1 : Tryz.prog.cellsOf 4 = 1 := by kernel_rfl
  have hs1 : Tryz.prog.cellsOf 22 = 1 := by kernel_rfl
  obtain ⟨c0, c1, c2, c3, rfl⟩ := arr4 cs (h4.trans hc4)
  obtain ⟨fuel, hf⟩ := h
  obtain ⟨y0, y1, n, hx, _, h0, h1⟩ := trod_struct2 Tryz.underlying26 hf
  simp only [Prod.mk.injEq] at hx
  obtain ⟨rfl, rfl⟩ := hx
  obtain ⟨a0, a1, n0, hx0, _, h00, h01⟩ := trod_struct2 Tryz.underlying24 h0
  obtain ⟨b0, b1, n1, hx1, _, h10, h11⟩ := trod_struct2 Tryz.underlying24 h1
  simp only [hb1, hs1, hc2, Value.cells, List.drop_zero, List.take_succ_cons, List.take_zero, List.drop_succ_cons] at h00 h01 h10 h11
  obtain ⟨q, hq, rfl⟩ := DataW.trod_bool Tryz.underlying4 h00
  obtain ⟨r, hr, rfl⟩ := DataW.trod_bool Tryz.underlying4 h10
  have e0 : y0.1 = .agg [.lit (.bool q), a1.1] := by rw [hx0]
  have e1 : y1.1 = .agg [.lit (.bool r), b1.1] := by rw [hx1]
  rw [e0, e1] at hd
  have hall1 : ∀ m ∈ a1.1.weights Tryz.prog 22, m ≤ reachBytes := fun m hm => by
    have := List.all_eq_true.1 hsz m (DataW.weights_mem_each ht hd m (by simp [DataW.weights, DataW.weightsEach, Tryz.underlying26, Tryz.underlying24, hm]))
    simpa using this
  have hall2 : ∀ m ∈ b1.1.weights Tryz.prog 22, m ≤ reachBytes := fun m hm => by
    have := List.all_eq_true.1 hsz m (DataW.weights_mem_each ht hd m (by simp [DataW.weights, DataW.weightsEach, Tryz.underlying26, Tryz.underlying24, hm]))
    simpa using this
  obtain ⟨l, hl, hrl⟩ := ints_rel Tryz.underlying22 Tryz.underlying65 (by kernel_rfl) (by decide +kernel) h01 hall1
  obtain ⟨k, hk, hrk⟩ := ints_rel Tryz.underlying22 Tryz.underlying65 (by kernel_rfl) (by decide +kernel) h11 hall2
  simp at hq hr
  subst hq hr
  refine ⟨q, l, r, k, wide_wf hl, wide_wf hk, ?_⟩
  simp only [Rel, Rels] at hrl hrk ⊢
  exact ⟨[.bool q, c1, .bool r, c3], rfl, _, _, rfl, rfl, _, _, rfl, hrl, _, _, rfl, rfl, _, _, rfl, hrk, rfl⟩
end
end Go.Av

/-! Plain arithmetic of limbs: the greatest common divisor by halving and subtracting. -/
set_option linter.unusedVariables false
set_option exponentiation.threshold 100000
namespace Go.Av
theorem gcd_ee {x y : Nat} (hx : x % 2 = 0) (hy : y % 2 = 0) : Nat.gcd (x / 2) (y / 2) * 2 = Nat.gcd x y := by
  have h1 : x = x / 2 * 2 := by omega
  have h2 : y = y / 2 * 2 := by omega
  conv => rhs; rw [h1, h2]
  rw [Nat.gcd_mul_right]
theorem cop_two {y : Nat} (hy : y % 2 = 1) : Nat.Coprime 2 y := by
  unfold Nat.Coprime
  rw [Nat.gcd_rec, hy, Nat.gcd_one_left]
theorem gcd_eo {x y : Nat} (hx : x % 2 = 0) (hy : y % 2 = 1) : Nat.gcd (x / 2) y = Nat.gcd x y := by
  have h1 : x = 2 * (x / 2) := by omega
  conv => rhs; rw [h1]
  rw [Nat.Coprime.gcd_mul_left_cancel _ (cop_two hy)]
theorem gcd_oe {x y : Nat} (hx : x % 2 = 1) (hy : y % 2 = 0) : Nat.gcd x (y / 2) = Nat.gcd x y := by
  rw [Nat.gcd_comm, gcd_eo hy hx, Nat.gcd_comm]
theorem gcd_sl {x y : Nat} (h : y ≤ x) : Nat.gcd (x - y) y = Nat.gcd x y := Nat.gcd_sub_self_left h
theorem gcd_sr {x y : Nat} (h : x ≤ y) : Nat.gcd x (y - x) = Nat.gcd x y := by
  rw [Nat.gcd_comm, gcd_sl h, Nat.gcd_comm]
theorem gcd_ln {m n : Nat} (hm : ln m ≤ 512) (hn : ln n ≤ 512) : ln (Nat.gcd m n) ≤ 512 := by
  rcases Nat.eq_zero_or_pos m with h | h
  · subst h; rw [Nat.gcd_zero_left]; exact hn
  · have := ln_mono (Nat.gcd_le_left n h); omega
theorem twos_lt {x t g : Nat} (hx : 0 < x) (he : x * 2 ^ t = g) (hg : ln g ≤ 512) : t < 16384 := by
  rw [ln_le, ← he, B_pow] at hg
  have h1 : 2 ^ t ≤ x * 2 ^ t := Nat.le_mul_of_pos_left _ hx
  have h2 : 2 ^ t < 2 ^ (32 * 512) := Nat.lt_of_le_of_lt h1 hg
  exact (Nat.pow_lt_pow_iff_right (by decide)).1 h2
end Go.Av

/-! The digits of a number in a base. -/
namespace Go.Av
def dgs (b : Nat) : Nat → Nat → List Nat
  | 0, _ => []
  | f + 1, n => if n = 0 then [] else n % b :: dgs b f (n / b)
def ds (b n : Nat) : List Nat := dgs b (n.log2 + 1) n
theorem dgs_fuel {b : Nat} (hb : 2 ≤ b) : ∀ (f g n : Nat), n < 2 ^ f → n < 2 ^ g → dgs b f n = dgs b g n
  | 0, g, n, hf, _ => by
    obtain rfl : n = 0 := by simpa using hf
    cases g <;> simp [dgs]
  | f + 1, 0, n, _, hg => by
    obtain rfl : n = 0 := by simpa using hg
    simp [dgs]
  | f + 1, g + 1, n, hf, hg => by
    simp only [dgs]
    by_cases h : n = 0
    · simp [h]
    · rw [if_neg h, if_neg h]
      have h1 : n / b ≤ n / 2 := Nat.div_le_div_left hb (by decide)
      rw [Nat.pow_succ] at hf hg
      rw [dgs_fuel hb f g (n / b) (by omega) (by omega)]
theorem ds_zero (b : Nat) : ds b 0 = [] := by simp [ds, dgs]
theorem ds_pos {b n : Nat} (hb : 2 ≤ b) (h : 0 < n) : ds b n = n % b :: ds b (n / b) := by
  have h1 : n / b ≤ n / 2 := Nat.div_le_div_left hb (by decide)
  have h2 := Nat.lt_log2_self (n := n)
  have h3 := Nat.lt_log2_self (n := n / b)
  unfold ds
  rw [dgs, if_neg (by omega)]
  rw [Nat.pow_succ] at h2
  rw [dgs_fuel hb _ ((n / b).log2 + 1) (n / b) (by omega) h3]
theorem ds_len {b : Nat} (hb : 2 ≤ b) : ∀ (k n : Nat), n < 2 ^ k → (ds b n).length ≤ k
  | 0, n, h => by
    obtain rfl : n = 0 := by simpa using h
    simp [ds_zero]
  | k + 1, n, h => by
    rcases Nat.eq_zero_or_pos n with rfl | hp
    · simp [ds_zero]
    · rw [ds_pos hb hp]
      have h1 : n / b ≤ n / 2 := Nat.div_le_div_left hb (by decide)
      rw [Nat.pow_succ] at h
      have := ds_len hb k (n / b) (by omega)
      simp only [List.length_cons]
      omega
theorem ds_lt {b : Nat} (hb : 2 ≤ b) : ∀ (k n : Nat), n < 2 ^ k → ∀ d ∈ ds b n, d < b
  | 0, n, h, d, hd => by
    obtain rfl : n = 0 := by simpa using h
    simp [ds_zero] at hd
  | k + 1, n, h, d, hd => by
    rcases Nat.eq_zero_or_pos n with rfl | hp
    · simp [ds_zero] at hd
    · rw [ds_pos hb hp] at hd
      have h1 : n / b ≤ n / 2 := Nat.div_le_div_left hb (by decide)
      rw [Nat.pow_succ] at h
      rcases List.mem_cons.1 hd with rfl | hd
      · exact Nat.mod_lt _ (by omega)
      · exact ds_lt hb k (n / b) (by omega) d hd
theorem ds_lt' {b n : Nat} (hb : 2 ≤ b) : ∀ d ∈ ds b n, d < b := ds_lt hb (n.log2 + 1) n Nat.lt_log2_self
theorem ds_ne {b n : Nat} (hb : 2 ≤ b) (h : 0 < n) : 0 < (ds b n).length := by rw [ds_pos hb h]; simp
def dI (b n : Nat) : List Int := (ds b n).map fun (d : Nat) => (d : Int)
theorem dI_zero (b : Nat) : dI b 0 = [] := by simp [dI, ds_zero]
theorem dI_pos {b n : Nat} (hb : 2 ≤ b) (h : 0 < n) : dI b n = ((n % b : Nat) : Int) :: dI b (n / b) := by simp [dI, ds_pos hb h]
theorem dI_len {b n k : Nat} (hb : 2 ≤ b) (h : ln n ≤ k) : (dI b n).length ≤ 32 * k := by
  have := ln_le.1 h
  rw [B_pow] at this
  simpa [dI] using ds_len hb (32 * k) n this
theorem dI_bd {b n : Nat} (hb : 2 ≤ b) {d : Int} (h : d ∈ dI b n) : 0 ≤ d ∧ d < b := by
  simp only [dI, List.mem_map] at h
  obtain ⟨a, ha, rfl⟩ := h
  have := ds_lt' hb a ha
  omega
/-- The number with digits, the most significant first. -/
def hor (b : Nat) (l : List Nat) : Nat := l.foldl (fun m d => m * b + d) 0
theorem hor_snoc (b : Nat) (l : List Nat) (d : Nat) : hor b (l ++ [d]) = hor b l * b + d := by simp [hor]
theorem hor_ds {b : Nat} (hb : 2 ≤ b) : ∀ (k n : Nat), n < 2 ^ k → hor b (ds b n).reverse = n
  | 0, n, h => by
    obtain rfl : n = 0 := by simpa using h
    simp [ds_zero, hor]
  | k + 1, n, h => by
    rcases Nat.eq_zero_or_pos n with rfl | hp
    · simp [ds_zero, hor]
    · have h1 : n / b ≤ n / 2 := Nat.div_le_div_left hb (by decide)
      rw [Nat.pow_succ] at h
      rw [ds_pos hb hp, List.reverse_cons, hor_snoc, hor_ds hb k (n / b) (by omega)]
      rw [Nat.mul_comm]; exact Nat.div_add_mod n b
theorem hor_ds' {b n : Nat} (hb : 2 ≤ b) : hor b (ds b n).reverse = n := hor_ds hb (n.log2 + 1) n Nat.lt_log2_self
theorem ds_top {b : Nat} (hb : 2 ≤ b) : ∀ (k n : Nat), n < 2 ^ k → 0 < n → (ds b n).getLast? ≠ some 0
  | 0, n, h, hp => by
    obtain rfl : n = 0 := by simpa using h
    omega
  | k + 1, n, h, hp => by
    have h1 : n / b ≤ n / 2 := Nat.div_le_div_left hb (by decide)
    rw [Nat.pow_succ] at h
    rw [ds_pos hb hp]
    rcases Nat.eq_zero_or_pos (n / b) with h0 | h0
    · rw [h0, ds_zero]
      have : n < b := (Nat.div_eq_zero_iff_lt (by omega)).1 h0
      simp [Nat.mod_eq_of_lt this]
      omega
    · have := ds_top hb k (n / b) (by omega) h0
      have hl := ds_ne hb h0
      rw [List.getLast?_cons]
      cases hx : (ds b (n / b)).getLast? with
      | none => rw [List.getLast?_eq_none_iff] at hx; rw [hx] at hl; simp at hl
      | some v => rw [hx] at this; simpa using this
theorem ds_top' {b n : Nat} (hb : 2 ≤ b) (h : 0 < n) : (ds b n).getLast? ≠ some 0 := ds_top hb (n.log2 + 1) n Nat.lt_log2_self h

/-! A number times a small one plus another: limb by limb -/
def lc (n b c i : Nat) : Nat := (n % B ^ i * b + c) / B ^ i
theorem lc_zero (n b c : Nat) : lc n b c 0 = c := by simp [lc, Nat.mod_one]
theorem lc_lt {n b c i : Nat} (hb : b < B) (hc : c < B) : lc n b c i < B := by
  unfold lc
  rw [Nat.div_lt_iff_lt_mul (Bp_pos i)]
  have h1 := Nat.mod_lt n (Bp_pos i)
  have h2 : n % B ^ i * b ≤ (B ^ i - 1) * b := Nat.mul_le_mul_right b (by omega)
  have h3 : (B ^ i - 1) * b + b = B ^ i * b := by rw [← Nat.succ_mul]; congr 1; have := Bp_pos i; omega
  have h4 : B ^ i * b ≤ B ^ i * (B - 1) := Nat.mul_le_mul_left _ (by omega)
  have h5 : B ^ i * (B - 1) + B ^ i = B ^ i * B := by rw [← Nat.mul_succ]; congr 1
  have h6 : B ≤ B ^ i ∨ i = 0 := by
    rcases Nat.eq_zero_or_pos i with h | h
    · exact .inr h
    · exact .inl (by simpa using Nat.pow_le_pow_right B_pos h)
  rw [Nat.mul_comm B]
  rcases h6 with h6 | rfl
  · have hbb : b = 0 ∨ 0 < b := by omega
    by_cases hb0 : b = 0
    · subst hb0; simp only [Nat.mul_zero, Nat.zero_add]; exact Nat.lt_of_lt_of_le hc (Nat.le_trans h6 (Nat.le_mul_of_pos_right _ B_pos))
    · by_cases hcb : c < b
      · omega
      · omega
  · simp [Nat.mod_one]; exact hc
theorem lc_step (n b c i : Nat) : dg n i * b + lc n b c i = dg (n * b + c) i + B * lc n b c (i + 1) := by
  have hn := Nat.div_add_mod n (B ^ i)
  have h1 : n * b + c = B ^ i * (n / B ^ i * b) + (n % B ^ i * b + c) := by
    rw [← Nat.mul_assoc, ← Nat.add_assoc, ← Nat.add_mul, hn]
  have h2 : (n * b + c) / B ^ i = n / B ^ i * b + lc n b c i := by
    rw [h1, Nat.mul_add_div (Bp_pos i)]; rfl
  have h3 : n % B ^ (i + 1) * b + c = B ^ i * (dg n i * b) + (n % B ^ i * b + c) := by
    rw [mod_succ, Nat.add_mul, Nat.mul_assoc]; omega
  have h4 : lc n b c (i + 1) = (dg n i * b + lc n b c i) / B := by
    unfold lc
    rw [h3, Nat.pow_succ, ← Nat.div_div_eq_div_mul, Nat.mul_add_div (Bp_pos i)]
  have h5 : dg (n * b + c) i = (dg n i * b + lc n b c i) % B := by
    unfold dg
    rw [h2]
    have h6 : n / B ^ i = B * (n / B ^ i / B) + n / B ^ i % B := (Nat.div_add_mod _ _).symm
    have h7 : n / B ^ i * b + lc n b c i = (n / B ^ i % B * b + lc n b c i) + B * (n / B ^ i / B * b) := by
      conv => lhs; rw [h6]
      rw [Nat.add_mul, Nat.mul_assoc]; omega
    rw [h7, Nat.add_mul_mod_self_left]
  rw [h4, h5]
  exact (Nat.mod_add_div _ _).symm
theorem lc_top {n b c i : Nat} (h : n < B ^ i) (hb : b < B) (hc : c < B) : lc n b c i = dg (n * b + c) i := by
  have h1 := lc_lt (n := n) (i := i) hb hc
  have h2 : lc n b c i = (n * b + c) / B ^ i := by unfold lc; rw [Nat.mod_eq_of_lt h]
  unfold dg
  rw [← h2, Nat.mod_eq_of_lt h1]
theorem lc_fit {n b c i : Nat} (h : n < B ^ i) (hb : b < B) (hc : c < B) : n * b + c < B ^ (i + 1) := by
  have h1 := lc_lt (n := n) (i := i) hb hc
  unfold lc at h1
  rw [Nat.mod_eq_of_lt h] at h1
  rw [Nat.div_lt_iff_lt_mul (Bp_pos i)] at h1
  rw [Nat.pow_succ, Nat.mul_comm (B ^ i)]
  exact h1

/-! A list turned round, step by step -/
def rv (l : List Int) (i : Nat) : List Int := (List.range l.length).map fun p => if p < i ∨ l.length - i ≤ p then l.getD (l.length - 1 - p) 0 else l.getD p 0
theorem rv_length (l : List Int) (i : Nat) : (rv l i).length = l.length := by simp [rv]
theorem rv_get {l : List Int} {i p : Nat} (h : p < l.length) : (rv l i)[p]'(by rw [rv_length]; exact h) = if p < i ∨ l.length - i ≤ p then l.getD (l.length - 1 - p) 0 else l.getD p 0 := by simp [rv]
theorem rv_zero (l : List Int) : rv l 0 = l := by
  refine List.ext_getElem (rv_length _ _) fun p h1 h2 => ?_
  rw [rv_get h2, if_neg (by omega)]
  simp [List.getD, h2]
theorem rv_end {l : List Int} {i : Nat} (h : l.length ≤ 2 * i + 1) (hi : i ≤ l.length) : rv l i = l.reverse := by
  refine List.ext_getElem (by simp [rv_length]) fun p h1 h2 => ?_
  rw [rv_length] at h1
  rw [rv_get h1, List.getElem_reverse]
  have h3 : l.length - 1 - p < l.length := by omega
  by_cases hp : p < i ∨ l.length - i ≤ p
  · rw [if_pos hp]; simp [List.getD, h3]
  · rw [if_neg hp]
    have e : l.length - 1 - p = p := by omega
    simp [List.getD, h1, e]
theorem rv_set {l : List Int} {i : Nat} (h : 2 * i + 1 < l.length) : ((rv l i).set i (l.getD (l.length - 1 - i) 0)).set (l.length - 1 - i) (l.getD i 0) = rv l (i + 1) := by
  refine List.ext_getElem (by simp [rv_length]) fun p h1 h2 => ?_
  rw [rv_length] at h2
  rw [rv_get h2, List.getElem_set, List.getElem_set, rv_get h2]
  by_cases h3 : l.length - 1 - i = p
  · subst h3
    rw [if_pos rfl, if_pos (by omega)]
    congr 1
    omega
  · rw [if_neg h3]
    by_cases h4 : i = p
    · subst h4
      rw [if_pos rfl, if_pos (by omega)]
    · rw [if_neg h4]
      by_cases h5 : p < i ∨ l.length - i ≤ p
      · rw [if_pos h5, if_pos (by omega)]
      · rw [if_neg h5, if_neg (by omega)]
end Go.Av

/-! Bit lengths, the steps of the binary greatest common divisor, bits from the top. -/
set_option linter.unusedVariables false
set_option linter.unusedSimpArgs false
set_option exponentiation.threshold 100000
namespace Go.Av
def bl (n : Nat) : Nat := (ds 2 n).length
theorem bl_zero : bl 0 = 0 := by simp [bl, ds_zero]
theorem bl_half {n : Nat} (h : 0 < n) : bl n = bl (n / 2) + 1 := by simp [bl, ds_pos (b := 2) (by decide) h]
theorem bl_mono : ∀ {a b : Nat}, a ≤ b → bl a ≤ bl b
  | 0, b, _ => by rw [bl_zero]; exact Nat.zero_le _
  | a + 1, b, h => by
    have hb : 0 < b := by omega
    rw [bl_half (n := a + 1) (by omega), bl_half hb]
    have := bl_mono (a := (a + 1) / 2) (b := b / 2) (Nat.div_le_div_right h)
    omega
  termination_by a b _ => a
  decreasing_by omega
theorem bl_ln (n : Nat) : bl n ≤ 32 * ln n := by
  have := lt_ln n
  rw [B_pow] at this
  exact ds_len (by decide) _ n this
def mu (a b : Nat) : Nat := 2 * (bl a + bl b) + (if a % 2 = 1 ∧ b % 2 = 1 then 1 else 0)
theorem mu_le (a b : Nat) : mu a b ≤ 64 * (ln a + ln b) + 1 := by
  have h1 := bl_ln a
  have h2 := bl_ln b
  unfold mu
  split <;> omega
theorem mu_ha {a b : Nat} (h : 0 < a) (he : a % 2 = 0) : mu (a / 2) b + 1 ≤ mu a b := by
  have := bl_half h
  unfold mu
  split <;> split <;> omega
theorem mu_hb {a b : Nat} (h : 0 < b) (he : b % 2 = 0) : mu a (b / 2) + 1 ≤ mu a b := by
  have := bl_half h
  unfold mu
  split <;> split <;> omega
theorem mu_sa {a b : Nat} (ha : a % 2 = 1) (hb : b % 2 = 1) (h : b ≤ a) : mu (a - b) b + 1 ≤ mu a b := by
  have := bl_mono (Nat.sub_le a b)
  unfold mu
  rw [if_neg (by omega), if_pos ⟨ha, hb⟩]
  omega
theorem mu_sb {a b : Nat} (ha : a % 2 = 1) (hb : b % 2 = 1) (h : a ≤ b) : mu a (b - a) + 1 ≤ mu a b := by
  have := bl_mono (Nat.sub_le b a)
  unfold mu
  rw [if_neg (by omega), if_pos ⟨ha, hb⟩]
  omega
/-- Twice a number and a bit more, limb by limb. -/
theorem sh_step {n c i : Nat} (hc : c ≤ 1) : (dg n i * 2 + lc n 2 c i) % 4294967296 = dg (n * 2 + c) i ∧ dg n i / 2147483648 = lc n 2 c (i + 1) ∧ lc n 2 c i ≤ 1 := by
  have h1 := lc_step n 2 c i
  have h2 := dg_lt n i
  have h3 := dg_lt (n * 2 + c) i
  have h4 : lc n 2 c i ≤ 1 := by
    unfold lc
    have h5 := Nat.mod_lt n (Bp_pos i)
    have h6 : n % B ^ i * 2 + c < 2 * B ^ i := by omega
    have h7 : (n % B ^ i * 2 + c) / B ^ i < 2 := (Nat.div_lt_iff_lt_mul (Bp_pos i)).2 h6
    omega
  unfold B at h1 h2 h3
  omega
/-- A bit of a limb, from its top. -/
theorem top_bit {d k : Nat} (h : d < 4294967296) (hk : k ≤ 31) : d * 2 ^ k % 4294967296 / 2147483648 = d / 2 ^ (31 - k) % 2 := by
  have h1 : (4294967296 : Nat) = 2 ^ (32 - k) * 2 ^ k := by rw [← Nat.pow_add, show 32 - k + k = 32 by omega]
  have h2 : (2147483648 : Nat) = 2 ^ (31 - k) * 2 ^ k := by rw [← Nat.pow_add, show 31 - k + k = 31 by omega]
  have h3 : 2 ^ (32 - k) = 2 ^ (31 - k) * 2 := by rw [← Nat.pow_succ]; congr 1; omega
  rw [h1, h2, Nat.mul_mod_mul_right, Nat.mul_div_mul_right _ _ (Nat.pow_pos (by decide)), h3, Nat.mod_mul_right_div_self]
theorem limb_next {d k : Nat} : d * 2 ^ k % 4294967296 * 2 % 4294967296 = d * 2 ^ (k + 1) % 4294967296 := by
  rw [Nat.pow_succ, ← Nat.mul_assoc, Nat.mod_mul_mod]
end Go.Av

set_option maxHeartbeats 8000000
set_option exponentiation.threshold 100000
set_option maxRecDepth 100000
set_option linter.unusedVariables false
set_option linter.unusedSimpArgs false
namespace Go.Av
open Go Go.Proofs
/-! The reference of the fractions: its limbs -/
theorem trim3_c (l : List Int) (hw : wf l) (hl : l.length < 4294967296) : Con Tryz.prog 76 [Li l] (M (val l)) := by
  refine con_of Tryz.func76 rfl rfl rfl rfl rfl ?_
  repeat (first | refine seq_ ?_ | refine region_ ?_ | refine nil_ ?_ | refine block_ ?_ | refine stepY (y_move rfl) rfl ?_ | refine stepY (y_assign rfl) rfl ?_ | refine stepY (y_len_si rfl) rfl ?_)
  refine loop_ (α := Nat) (fun k => ([(0, .p (Li l)), (3, .p (I k))], [])) (fun k => k ≤ l.length ∧ val (l.take k) = val l) id l.length ⟨Nat.le_refl _, by simp⟩ ?_ ?_ ?_
  · (repeat (first | exact sub_nil | refine sub_cons rfl ?_))
  · (repeat (exact subH_nil))
  intro k ⟨hk, hv⟩
  have hlen : (l.take k).length = k := by simp; omega
  have hwk : wf (l.take k) := fun x hx => hw x (List.mem_of_mem_take hx)
  have hfin : (k = 0 ∨ rd l ((k : Int) - 1) ≠ 0) → M (val l) = Li (l.take k) := by
    intro h
    unfold M
    rw [← hv, limbs_val hwk]
    rcases h with h | h
    · subst h; exact .inl rfl
    · by_cases h0 : k = 0
      · subst h0; exact .inl rfl
      · right
        rw [hlen, List.getD_eq_getElem?_getD, List.getElem?_take_of_lt (by omega), ← List.getD_eq_getElem?_getD]
        unfold rd at h
        rwa [show ((k : Int) - 1).toNat = k - 1 by omega] at h
  by_cases h0 : (0 : Int) < (k : Int)
  · by_cases h1 : rd l ((k : Int) - 1) = 0
    · repeat (first | refine seq_ ?_ | refine region_ ?_ | refine nil_ ?_ | refine skip_ ?_ | refine block_ ?_ | refine cond_t rfl ?_ | refine guard_t rfl rfl rfl ?_ | refine stepY (y_move rfl) rfl ?_ | refine stepY (y_assign rfl) rfl ?_ | refine stepY (y_load_rc1 rfl rfl) rfl ?_ | refine stepY (y_pick_t rfl rfl) rfl ?_ | refine stepY (y_index_si rfl rfl (by omega) (by omega)) rfl ?_ | refine stepY (y_binn rfl rfl rfl (by simp only [InK, loK, hiK]; omega)) rfl ?_ | refine stepY (y_cmpT rfl rfl rfl (by omega)) rfl ?_ | refine stepY (y_cmpT rfl rfl rfl (by omega)) rfl ?_)
      obtain ⟨j, rfl⟩ : ∃ j, k = j + 1 := ⟨k - 1, by omega⟩
      refine ⟨j, ⟨by omega, ?_⟩, Nat.lt_succ_self j, ?_, ?_⟩
      · rw [← hv, List.take_add_one, val_append, List.getElem?_eq_getElem (by omega)]
        unfold rd at h1
        rw [show (((j + 1 : Nat) : Int) - 1).toNat = j by omega, List.getD_eq_getElem?_getD, List.getElem?_eq_getElem (by omega)] at h1
        simp only [Option.getD_some] at h1
        simp [h1, val]
      · (repeat (first | exact sub_nil | refine sub_cons rfl ?_ | refine sub_conse rfl (by (congr 3; omega)) ?_))
      · (repeat (exact subH_nil))
    · rw [hfin (.inr h1)]
      repeat (first | refine seq_ ?_ | refine region_ ?_ | refine nil_ ?_ | refine exit_ ?_ | refine ret_ ?_ | refine cond_f rfl ?_ | refine guard_t rfl rfl rfl ?_ | refine stepY (y_move rfl) rfl ?_ | refine stepY (y_assign rfl) rfl ?_ | refine stepY (y_load_rc1 rfl rfl) rfl ?_ | refine stepY (y_pick_t rfl rfl) rfl ?_ | refine stepY (y_index_si rfl rfl (by omega) (by omega)) rfl ?_ | refine stepY (y_slice_si_h rfl rfl (by omega) (by omega)) rfl ?_ | refine stepY (y_binn rfl rfl rfl (by simp only [InK, loK, hiK]; omega)) rfl ?_ | refine stepY (y_cmpF rfl rfl rfl (by omega)) rfl ?_ | refine stepY (y_cmpT rfl rfl rfl (by omega)) rfl ?_)
      rw [Int.toNat_natCast]
      ((apply fin_r); (repeat (first | exact .nil | exact .tmp rfl | apply ResL.cons)); (repeat (exact .refl _)))
  · rw [hfin (.inl (by omega))]
    repeat (first | refine seq_ ?_ | refine region_ ?_ | refine nil_ ?_ | refine exit_ ?_ | refine ret_ ?_ | refine cond_f rfl ?_ | refine guard_f rfl rfl rfl rfl ?_ | refine stepY (y_move rfl) rfl ?_ | refine stepY (y_assign rfl) rfl ?_ | refine stepY (y_pick_f rfl rfl) rfl ?_ | refine stepY (y_slice_si_h rfl rfl (by omega) (by omega)) rfl ?_ | refine stepY (y_cmpF rfl rfl rfl (by omega)) rfl ?_)
    rw [Int.toNat_natCast]
    ((apply fin_r); (repeat (first | exact .nil | exact .tmp rfl | apply ResL.cons)); (repeat (exact .refl _)))
theorem compare3_c (a b : Nat) : Con Tryz.prog 50 [M a, M b] (I (sg a b)) := by
  refine con_of Tryz.func50 rfl rfl rfl rfl rfl ?_
  refine len_C (i := 0) rfl (fun hL => ?_)
  refine len_C (i := 1) rfl (fun hL' => ?_)
  have la : ((limbs a).length : Int) = ln a := by rw [limbs_length]
  have lb : ((limbs b).length : Int) = ln b := by rw [limbs_length]
  rw [limbs_length] at hL hL'
  by_cases hlt : ln a < ln b
  · rw [sg_lt (ln_lt hlt)]
    repeat (first | refine seq_ ?_ | refine region_ ?_ | refine nil_ ?_ | refine ret_ ?_ | refine cond_t rfl ?_ | refine stepY (y_move rfl) rfl ?_ | refine stepY (y_assign rfl) rfl ?_ | refine stepY (y_len_si rfl) rfl ?_ | refine stepY (y_cmpT rfl rfl rfl (by omega)) rfl ?_)
    ((apply fin_r); (repeat (first | exact .nil | exact .tmp rfl | apply ResL.cons)); (repeat (exact .refl _)))
  by_cases hgt : ln b < ln a
  · rw [sg_gt (ln_lt hgt)]
    repeat (first | refine seq_ ?_ | refine region_ ?_ | refine nil_ ?_ | refine skip_ ?_ | refine ret_ ?_ | refine cond_t rfl ?_ | refine cond_f rfl ?_ | refine stepY (y_move rfl) rfl ?_ | refine stepY (y_assign rfl) rfl ?_ | refine stepY (y_len_si rfl) rfl ?_ | refine stepY (y_cmpF rfl rfl rfl (by omega)) rfl ?_ | refine stepY (y_cmpT rfl rfl rfl (by omega)) rfl ?_)
    ((apply fin_r); (repeat (first | exact .nil | exact .tmp rfl | apply ResL.cons)); (repeat (exact .refl _)))
  repeat (first | refine seq_ ?_ | refine region_ ?_ | refine nil_ ?_ | refine skip_ ?_ | refine block_ ?_ | refine cond_f rfl ?_ | refine stepY (y_move rfl) rfl ?_ | refine stepY (y_assign rfl) rfl ?_ | refine stepY (y_len_si rfl) rfl ?_ | refine stepY (y_binn rfl rfl rfl (by simp only [InK, loK, hiK]; omega)) rfl ?_ | refine stepY (y_cmpF rfl rfl rfl (by omega)) rfl ?_ | refine stepY (y_cmpF rfl rfl rfl (by omega)) rfl ?_)
  refine loop_ (α := Nat) (fun k => ([(0, .p (M a)), (1, .p (M b)), (5, .p (I ((k : Int) - 1)))], [])) (fun k => k ≤ ln a ∧ a / B ^ k = b / B ^ k) id (ln a) ⟨Nat.le_refl _, ?_⟩ ?_ ?_ ?_
  · rw [Nat.div_eq_of_lt (lt_ln a), Nat.div_eq_of_lt (by have := lt_ln b; rwa [show ln b = ln a by omega] at this)]
  · rw [la]; (repeat (first | exact sub_nil | refine sub_cons rfl ?_))
  · (repeat (exact subH_nil))
  intro k ⟨hk, he⟩
  by_cases h0 : k = 0
  · subst h0
    have hab : a = b := by simpa using he
    subst hab
    repeat (first | refine seq_ ?_ | refine region_ ?_ | refine nil_ ?_ | refine exit_ ?_ | refine ret_ ?_ | refine cond_f rfl ?_ | refine stepY (y_move rfl) rfl ?_ | refine stepY (y_assign rfl) rfl ?_ | refine stepY (y_cmpF rfl rfl rfl (by omega)) rfl ?_)
    rw [sg_eq]
    ((apply fin_r); (repeat (first | exact .nil | exact .tmp rfl | apply ResL.cons)); (repeat (exact .refl _)))
  · obtain ⟨j, rfl⟩ : ∃ j, k = j + 1 := ⟨k - 1, by omega⟩
    rw [show (((j + 1 : Nat) : Int) - 1) = (j : Int) by omega]
    have ra : rd (limbs a) (j : Int) = ((dg a j : Nat) : Int) := rd_limbs a (by omega)
    have rb : rd (limbs b) (j : Int) = ((dg b j : Nat) : Int) := rd_limbs b (by omega)
    by_cases h1 : dg a j = dg b j
    · repeat (first | refine seq_ ?_ | refine region_ ?_ | refine nil_ ?_ | refine skip_ ?_ | refine block_ ?_ | refine cond_t rfl ?_ | refine stepY (y_move rfl) rfl ?_ | refine stepY (y_cmpT rfl rfl rfl (by omega)) rfl ?_)
      refine draw_ [(0, true), (1, true), (2, true), (3, true), (4, true), (5, true), (6, true), (7, true), (8, true)] 1000 [] mixed (by kernel_rfl) rfl ?_
      ((refine dY rfl (y_move rfl) rfl rfl rfl rfl ?_); refine dY rfl (y_move rfl) rfl rfl rfl rfl ?_; refine dY rfl (y_index_si rfl rfl (by omega) (by omega)) rfl rfl rfl rfl ?_; refine dY rfl (y_load_rc1 rfl rfl) rfl rfl rfl rfl ?_; refine dY rfl (y_move rfl) rfl rfl rfl rfl ?_; refine dY rfl (y_move rfl) rfl rfl rfl rfl ?_; refine dY rfl (y_index_si rfl rfl (by omega) (by omega)) rfl rfl rfl rfl ?_; refine dY rfl (y_load_rc1 rfl rfl) rfl rfl rfl rfl ?_; refine dY rfl (y_cmpF rfl rfl rfl (by omega)) rfl rfl rfl rfl ?_; refine dEnd ?_)
      repeat (first | refine seq_ ?_ | refine skip_ ?_ | refine cond_f rfl ?_)
      refine draw_ [(0, true), (1, true), (2, true), (3, true), (4, true), (5, true), (6, true), (7, true), (8, true)] 1000 [] mixed (by kernel_rfl) rfl ?_
      ((refine dY rfl (y_move rfl) rfl rfl rfl rfl ?_); refine dY rfl (y_move rfl) rfl rfl rfl rfl ?_; refine dY rfl (y_index_si rfl rfl (by omega) (by omega)) rfl rfl rfl rfl ?_; refine dY rfl (y_load_rc1 rfl rfl) rfl rfl rfl rfl ?_; refine dY rfl (y_move rfl) rfl rfl rfl rfl ?_; refine dY rfl (y_move rfl) rfl rfl rfl rfl ?_; refine dY rfl (y_index_si rfl rfl (by omega) (by omega)) rfl rfl rfl rfl ?_; refine dY rfl (y_load_rc1 rfl rfl) rfl rfl rfl rfl ?_; refine dY rfl (y_cmpF rfl rfl rfl (by omega)) rfl rfl rfl rfl ?_; refine dEnd ?_)
      repeat (first | refine region_ ?_ | refine nil_ ?_ | refine skip_ ?_ | refine cond_f rfl ?_ | refine stepY (y_move rfl) rfl ?_ | refine stepY (y_assign rfl) rfl ?_ | refine stepY (y_binn rfl rfl rfl (by simp only [InK, loK, hiK]; omega)) rfl ?_)
      refine ⟨j, ⟨by omega, ?_⟩, by simp only [id]; omega, ?_, ?_⟩
      · rw [div_split, div_split b, he, h1]
      · (repeat (first | exact sub_nil | refine sub_cons rfl ?_))
      · (repeat (exact subH_nil))
    · by_cases h2 : dg a j < dg b j
      · rw [sg_lt (top_lt he h2)]
        repeat (first | refine seq_ ?_ | refine region_ ?_ | refine nil_ ?_ | refine skip_ ?_ | refine block_ ?_ | refine cond_t rfl ?_ | refine stepY (y_move rfl) rfl ?_ | refine stepY (y_cmpT rfl rfl rfl (by omega)) rfl ?_)
        refine draw_ [(0, true), (1, true), (2, true), (3, true), (4, true), (5, true), (6, true), (7, true), (8, true)] 1000 [] mixed (by kernel_rfl) rfl ?_
        ((refine dY rfl (y_move rfl) rfl rfl rfl rfl ?_); refine dY rfl (y_move rfl) rfl rfl rfl rfl ?_; refine dY rfl (y_index_si rfl rfl (by omega) (by omega)) rfl rfl rfl rfl ?_; refine dY rfl (y_load_rc1 rfl rfl) rfl rfl rfl rfl ?_; refine dY rfl (y_move rfl) rfl rfl rfl rfl ?_; refine dY rfl (y_move rfl) rfl rfl rfl rfl ?_; refine dY rfl (y_index_si rfl rfl (by omega) (by omega)) rfl rfl rfl rfl ?_; refine dY rfl (y_load_rc1 rfl rfl) rfl rfl rfl rfl ?_; refine dY rfl (y_cmpT rfl rfl rfl (by omega)) rfl rfl rfl rfl ?_; refine dEnd ?_)
        repeat (first | refine seq_ ?_ | refine region_ ?_ | refine nil_ ?_ | refine ret_ ?_ | refine cond_t rfl ?_ | refine stepY (y_assign rfl) rfl ?_)
        ((apply fin_r); (repeat (first | exact .nil | exact .tmp rfl | apply ResL.cons)); (repeat (exact .refl _)))
      · rw [sg_gt (top_lt he.symm (by omega))]
        repeat (first | refine seq_ ?_ | refine region_ ?_ | refine nil_ ?_ | refine skip_ ?_ | refine block_ ?_ | refine cond_t rfl ?_ | refine stepY (y_move rfl) rfl ?_ | refine stepY (y_cmpT rfl rfl rfl (by omega)) rfl ?_)
        refine draw_ [(0, true), (1, true), (2, true), (3, true), (4, true), (5, true), (6, true), (7, true), (8, true)] 1000 [] mixed (by kernel_rfl) rfl ?_
        ((refine dY rfl (y_move rfl) rfl rfl rfl rfl ?_); refine dY rfl (y_move rfl) rfl rfl rfl rfl ?_; refine dY rfl (y_index_si rfl rfl (by omega) (by omega)) rfl rfl rfl rfl ?_; refine dY rfl (y_load_rc1 rfl rfl) rfl rfl rfl rfl ?_; refine dY rfl (y_move rfl) rfl rfl rfl rfl ?_; refine dY rfl (y_move rfl) rfl rfl rfl rfl ?_; refine dY rfl (y_index_si rfl rfl (by omega) (by omega)) rfl rfl rfl rfl ?_; refine dY rfl (y_load_rc1 rfl rfl) rfl rfl rfl rfl ?_; refine dY rfl (y_cmpF rfl rfl rfl (by omega)) rfl rfl rfl rfl ?_; refine dEnd ?_)
        repeat (first | refine seq_ ?_ | refine skip_ ?_ | refine cond_f rfl ?_)
        refine draw_ [(0, true), (1, true), (2, true), (3, true), (4, true), (5, true), (6, true), (7, true), (8, true)] 1000 [] mixed (by kernel_rfl) rfl ?_
        ((refine dY rfl (y_move rfl) rfl rfl rfl rfl ?_); refine dY rfl (y_move rfl) rfl rfl rfl rfl ?_; refine dY rfl (y_index_si rfl rfl (by omega) (by omega)) rfl rfl rfl rfl ?_; refine dY rfl (y_load_rc1 rfl rfl) rfl rfl rfl rfl ?_; refine dY rfl (y_move rfl) rfl rfl rfl rfl ?_; refine dY rfl (y_move rfl) rfl rfl rfl rfl ?_; refine dY rfl (y_index_si rfl rfl (by omega) (by omega)) rfl rfl rfl rfl ?_; refine dY rfl (y_load_rc1 rfl rfl) rfl rfl rfl rfl ?_; refine dY rfl (y_cmpT rfl rfl rfl (by omega)) rfl rfl rfl rfl ?_; refine dEnd ?_)
        repeat (first | refine seq_ ?_ | refine region_ ?_ | refine nil_ ?_ | refine ret_ ?_ | refine cond_t rfl ?_ | refine stepY (y_assign rfl) rfl ?_)
        ((apply fin_r); (repeat (first | exact .nil | exact .tmp rfl | apply ResL.cons)); (repeat (exact .refl _)))
theorem even3_c (n : Nat) : Con Tryz.prog 48 [M n] (Bo (decide (n % 2 = 0))) := by
  refine con_of Tryz.func48 rfl rfl rfl rfl rfl ?_
  refine len_C (i := 0) rfl (fun hL => ?_)
  have la : ((limbs n).length : Int) = ln n := by rw [limbs_length]
  by_cases h0 : n = 0
  · subst h0
    have : ln 0 = 0 := rfl
    rw [decide_eq_true (by omega)]
    repeat (first | refine seq_ ?_ | refine region_ ?_ | refine nil_ ?_ | refine ret_ ?_ | refine guard_f rfl rfl rfl rfl ?_ | refine stepY (y_move rfl) rfl ?_ | refine stepY (y_assign rfl) rfl ?_ | refine stepY (y_len_si rfl) rfl ?_ | refine stepY (y_pick_t rfl rfl) rfl ?_ | refine stepY (y_cmpT rfl rfl rfl (by omega)) rfl ?_)
    ((apply fin_r); (repeat (first | exact .nil | exact .tmp rfl | apply ResL.cons)); (repeat (exact .refl _)))
  · have h1 := ln_pos.2 (Nat.pos_of_ne_zero h0)
    have r0 : rd (limbs n) 0 = ((dg n 0 : Nat) : Int) := rd_limbs n (by omega)
    have hd : dg n 0 % 2 = n % 2 := by unfold dg; rw [Nat.pow_zero, Nat.div_one]; unfold B; omega
    by_cases he : n % 2 = 0
    · rw [decide_eq_true he]
      repeat (first | refine seq_ ?_ | refine region_ ?_ | refine nil_ ?_ | refine ret_ ?_ | refine guard_t rfl rfl rfl ?_ | refine stepY (y_move rfl) rfl ?_ | refine stepY (y_assign rfl) rfl ?_ | refine stepY (y_load_rc1 rfl rfl) rfl ?_ | refine stepY (y_len_si rfl) rfl ?_ | refine stepY (y_pick_f rfl rfl) rfl ?_ | refine stepY (y_index_si rfl rfl (by omega) (by omega)) rfl ?_ | refine stepY (y_remp rfl rfl (by omega) (by omega)) rfl ?_ | (first | refine stepY (y_cmpT rfl rfl rfl (by omega)) rfl ?_ | refine stepY (y_cmpF rfl rfl rfl (by omega)) rfl ?_))
      ((apply fin_r); (repeat (first | exact .nil | exact .tmp rfl | apply ResL.cons)); (repeat (exact .refl _)))
    · rw [decide_eq_false he]
      repeat (first | refine seq_ ?_ | refine region_ ?_ | refine nil_ ?_ | refine ret_ ?_ | refine guard_t rfl rfl rfl ?_ | refine stepY (y_move rfl) rfl ?_ | refine stepY (y_assign rfl) rfl ?_ | refine stepY (y_load_rc1 rfl rfl) rfl ?_ | refine stepY (y_len_si rfl) rfl ?_ | refine stepY (y_pick_f rfl rfl) rfl ?_ | refine stepY (y_index_si rfl rfl (by omega) (by omega)) rfl ?_ | refine stepY (y_remp rfl rfl (by omega) (by omega)) rfl ?_ | refine stepY (y_cmpF rfl rfl rfl (by omega)) rfl ?_)
      ((apply fin_r); (repeat (first | exact .nil | exact .tmp rfl | apply ResL.cons)); (repeat (exact .refl _)))
theorem minus3_c (a b : Nat) (hla : ln a < 4294967290) (hab : b ≤ a) : Con Tryz.prog 51 [M a, M b] (M (a - b)) := by
  refine con_of Tryz.func51 rfl rfl rfl rfl rfl ?_
  have la : ((limbs a).length : Int) = ln a := by rw [limbs_length]
  have lb : ((limbs b).length : Int) = ln b := by rw [limbs_length]
  repeat (first | refine seq_ ?_ | refine region_ ?_ | refine nil_ ?_ | refine block_ ?_ | refine stepY (y_assign rfl) rfl ?_)
  refine nil_C (i := 5) 65 .u32 rfl rfl rfl ?_
  refine loop_ (α := Nat) (fun k => ([(0, .p (M a)), (1, .p (M b)), (5, .vec 5), (6, .p (UU (bw a b k))), (7, .p (I k))], [(5, .vi 65 .u32 (padd k (a - b)))])) (fun k => k ≤ ln a) (fun k => ln a - k) 0 (Nat.zero_le _) ?_ ?_ ?_
  · rw [bw_zero]; (repeat (first | exact sub_nil | refine sub_cons rfl ?_))
  · (repeat (first | exact subH_nil | refine subH_cons rfl ?_))
  intro k hk
  have hlp : (padd k (a - b)).length = k := padd_length _ _
  by_cases hlt : k < ln a
  · have ra : rd (limbs a) (k : Int) = ((dg a k : Nat) : Int) := rd_limbs a (by omega)
    have rb : rd (limbs b) (k : Int) = ((dg b k : Nat) : Int) := rd_limbs b (by omega)
    have ba := dg_bd a k
    have bb := dg_bd b k
    have bd := dg_bd (a - b) k
    have hst := bw_step hab k
    have h1 := bw_le a b k
    have h2 := bw_le a b (k + 1)
    by_cases hkb : k < ln b
    · by_cases hlo : dg a k < dg b k + bw a b k
      · have hb1 : bw a b (k + 1) = 1 := by omega
        repeat (first | refine seq_ ?_ | refine region_ ?_ | refine nil_ ?_ | refine skip_ ?_ | refine block_ ?_ | refine cond_t rfl ?_ | refine stepY (y_move rfl) rfl ?_ | refine stepY (y_assign rfl) rfl ?_ | refine stepY (y_load_rc1 rfl rfl) rfl ?_ | refine stepY (y_len_si rfl) rfl ?_ | refine stepY (y_convn rfl (by simp only [InK, loK, hiK]; omega)) rfl ?_ | refine stepY (y_index_si rfl rfl (by omega) (by omega)) rfl ?_ | refine stepY (y_binn rfl rfl rfl (by simp only [InK, loK, hiK]; omega)) rfl ?_ | refine stepY (y_binn rfl rfl rfl (by simp only [InK, loK, hiK]; omega)) rfl ?_ | refine stepY (y_cmpT rfl rfl rfl (by omega)) rfl ?_ | refine stepE (e_bs_vi (k := .u32) rfl rfl rfl rfl rfl) ?_)
        rw [show rd (limbs a) (k : Int) + 4294967296 - ((bw a b k : Int) + rd (limbs b) (k : Int)) = ((dg (a - b) k : Nat) : Int) by omega]
        refine stepE (e_app_vi rfl rfl rfl (src_vi rfl rfl) (by simp only [List.length_cons, List.length_nil]; omega) rfl rfl) ?_
        repeat (first | refine region_ ?_ | refine nil_ ?_ | refine stepY (y_move rfl) rfl ?_ | refine stepY (y_assign rfl) rfl ?_ | refine stepY (y_binn rfl rfl rfl (by simp only [InK, loK, hiK]; omega)) rfl ?_)
        rw [← padd_succ]
        refine ⟨k + 1, by omega, by omega, ?_, ?_⟩
        · rw [hb1]; (repeat (first | exact sub_nil | refine sub_cons rfl ?_))
        · (repeat (first | exact subH_nil | refine subH_cons rfl ?_))
      · have hb1 : bw a b (k + 1) = 0 := by omega
        repeat (first | refine seq_ ?_ | refine region_ ?_ | refine nil_ ?_ | refine skip_ ?_ | refine block_ ?_ | refine cond_t rfl ?_ | refine cond_f rfl ?_ | refine stepY (y_move rfl) rfl ?_ | refine stepY (y_assign rfl) rfl ?_ | refine stepY (y_load_rc1 rfl rfl) rfl ?_ | refine stepY (y_len_si rfl) rfl ?_ | refine stepY (y_convn rfl (by simp only [InK, loK, hiK]; omega)) rfl ?_ | refine stepY (y_index_si rfl rfl (by omega) (by omega)) rfl ?_ | refine stepY (y_binn rfl rfl rfl (by simp only [InK, loK, hiK]; omega)) rfl ?_ | refine stepY (y_binn rfl rfl rfl (by simp only [InK, loK, hiK]; omega)) rfl ?_ | (first | refine stepY (y_cmpT rfl rfl rfl (by omega)) rfl ?_ | refine stepY (y_cmpF rfl rfl rfl (by omega)) rfl ?_) | refine stepE (e_bs_vi (k := .u32) rfl rfl rfl rfl rfl) ?_)
        rw [show rd (limbs a) (k : Int) - ((bw a b k : Int) + rd (limbs b) (k : Int)) = ((dg (a - b) k : Nat) : Int) by omega]
        refine stepE (e_app_vi rfl rfl rfl (src_vi rfl rfl) (by simp only [List.length_cons, List.length_nil]; omega) rfl rfl) ?_
        repeat (first | refine region_ ?_ | refine nil_ ?_ | refine stepY (y_move rfl) rfl ?_ | refine stepY (y_assign rfl) rfl ?_ | refine stepY (y_binn rfl rfl rfl (by simp only [InK, loK, hiK]; omega)) rfl ?_)
        rw [← padd_succ]
        refine ⟨k + 1, by omega, by omega, ?_, ?_⟩
        · rw [hb1]; (repeat (first | exact sub_nil | refine sub_cons rfl ?_))
        · (repeat (first | exact subH_nil | refine subH_cons rfl ?_))
    · have hz : dg b k = 0 := dg_big (by omega)
      by_cases hlo : dg a k < bw a b k
      · have hb1 : bw a b (k + 1) = 1 := by omega
        repeat (first | refine seq_ ?_ | refine region_ ?_ | refine nil_ ?_ | refine skip_ ?_ | refine block_ ?_ | refine cond_t rfl ?_ | refine cond_f rfl ?_ | refine stepY (y_move rfl) rfl ?_ | refine stepY (y_assign rfl) rfl ?_ | refine stepY (y_load_rc1 rfl rfl) rfl ?_ | refine stepY (y_len_si rfl) rfl ?_ | refine stepY (y_convn rfl (by simp only [InK, loK, hiK]; omega)) rfl ?_ | refine stepY (y_index_si rfl rfl (by omega) (by omega)) rfl ?_ | refine stepY (y_binn rfl rfl rfl (by simp only [InK, loK, hiK]; omega)) rfl ?_ | refine stepY (y_binn rfl rfl rfl (by simp only [InK, loK, hiK]; omega)) rfl ?_ | (first | refine stepY (y_cmpT rfl rfl rfl (by omega)) rfl ?_ | refine stepY (y_cmpF rfl rfl rfl (by omega)) rfl ?_) | refine stepE (e_bs_vi (k := .u32) rfl rfl rfl rfl rfl) ?_)
        rw [show rd (limbs a) (k : Int) + 4294967296 - (bw a b k : Int) = ((dg (a - b) k : Nat) : Int) by omega]
        refine stepE (e_app_vi rfl rfl rfl (src_vi rfl rfl) (by simp only [List.length_cons, List.length_nil]; omega) rfl rfl) ?_
        repeat (first | refine region_ ?_ | refine nil_ ?_ | refine stepY (y_move rfl) rfl ?_ | refine stepY (y_assign rfl) rfl ?_ | refine stepY (y_binn rfl rfl rfl (by simp only [InK, loK, hiK]; omega)) rfl ?_)
        rw [← padd_succ]
        refine ⟨k + 1, by omega, by omega, ?_, ?_⟩
        · rw [hb1]; (repeat (first | exact sub_nil | refine sub_cons rfl ?_))
        · (repeat (first | exact subH_nil | refine subH_cons rfl ?_))
      · have hb1 : bw a b (k + 1) = 0 := by omega
        repeat (first | refine seq_ ?_ | refine region_ ?_ | refine nil_ ?_ | refine skip_ ?_ | refine block_ ?_ | refine cond_t rfl ?_ | refine cond_f rfl ?_ | refine stepY (y_move rfl) rfl ?_ | refine stepY (y_assign rfl) rfl ?_ | refine stepY (y_load_rc1 rfl rfl) rfl ?_ | refine stepY (y_len_si rfl) rfl ?_ | refine stepY (y_convn rfl (by simp only [InK, loK, hiK]; omega)) rfl ?_ | refine stepY (y_index_si rfl rfl (by omega) (by omega)) rfl ?_ | refine stepY (y_binn rfl rfl rfl (by simp only [InK, loK, hiK]; omega)) rfl ?_ | (first | refine stepY (y_cmpT rfl rfl rfl (by omega)) rfl ?_ | refine stepY (y_cmpF rfl rfl rfl (by omega)) rfl ?_) | refine stepE (e_bs_vi (k := .u32) rfl rfl rfl rfl rfl) ?_)
        rw [show rd (limbs a) (k : Int) - (bw a b k : Int) = ((dg (a - b) k : Nat) : Int) by omega]
        refine stepE (e_app_vi rfl rfl rfl (src_vi rfl rfl) (by simp only [List.length_cons, List.length_nil]; omega) rfl rfl) ?_
        repeat (first | refine region_ ?_ | refine nil_ ?_ | refine stepY (y_move rfl) rfl ?_ | refine stepY (y_assign rfl) rfl ?_ | refine stepY (y_binn rfl rfl rfl (by simp only [InK, loK, hiK]; omega)) rfl ?_)
        rw [← padd_succ]
        refine ⟨k + 1, by omega, by omega, ?_, ?_⟩
        · rw [hb1]; (repeat (first | exact sub_nil | refine sub_cons rfl ?_))
        · (repeat (first | exact subH_nil | refine subH_cons rfl ?_))
  · obtain rfl : k = ln a := by omega
    have ht := trim3_c (padd (ln a) (a - b)) (wf_padd _ _) (by rw [padd_length]; omega)
    rw [val_padd, Nat.mod_eq_of_lt (Nat.lt_of_le_of_lt (Nat.sub_le _ _) (lt_ln a))] at ht
    repeat (first | refine seq_ ?_ | refine region_ ?_ | refine nil_ ?_ | refine exit_ ?_ | refine cond_f rfl ?_ | refine stepY (y_move rfl) rfl ?_ | refine stepY (y_len_si rfl) rfl ?_ | refine stepY (y_cmpF rfl rfl rfl (by omega)) rfl ?_)
    refine seal_L (i := 45) (h := 5) rfl rfl rfl rfl ?_
    refine call_ Tryz.func76 rfl rfl ht rfl (by repeat (first | exact .tag _ _ | apply Les.cons | exact .nil)) rfl ?_
    repeat (first | refine nil_ ?_ | refine ret_ ?_ | refine stepY (y_assign rfl) rfl ?_)
    ((apply fin_r); (repeat (first | exact .nil | exact .tmp rfl | apply ResL.cons)); (repeat (exact .refl _)))
end Go.Av

set_option maxHeartbeats 8000000
set_option exponentiation.threshold 100000
set_option maxRecDepth 100000
set_option linter.unusedVariables false
set_option linter.unusedSimpArgs false
namespace Go.Av
open Go Go.Proofs
/-! The reference of the fractions: shift, halve, plus, times -/
theorem shift3_c (n c : Nat) (hl : ln n < 4294967290) (hc : c ≤ 1) : Con Tryz.prog 52 [M n, U c] (M (n * 2 + c)) := by
  refine con_of Tryz.func52 rfl rfl rfl rfl rfl ?_
  have la : ((limbs n).length : Int) = ln n := by rw [limbs_length]
  repeat (first | refine seq_ ?_ | refine region_ ?_ | refine nil_ ?_ | refine block_ ?_ | (apply stepY (op := .assign _); (focus (exact y_assign rfl)); (focus exact rfl)))
  refine nil_C (i := 5) 65 .u32 rfl rfl rfl ?_
  refine loop_ (α := Nat) (fun k => ([(0, .p (M n)), (1, .p (U (lc n 2 c k))), (5, .vec 5), (6, .p (I k))], [(5, .vi 65 .u32 (padd k (n * 2 + c)))])) (fun k => k ≤ ln n) (fun k => ln n - k) 0 (Nat.zero_le _) ?_ ?_ ?_
  · rw [lc_zero]; (repeat (first | exact sub_nil | refine sub_cons rfl ?_))
  · (repeat (first | exact subH_nil | refine subH_cons rfl ?_))
  intro k hk
  have hlp : (padd k (n * 2 + c)).length = k := padd_length _ _
  obtain ⟨s1, s2, s3⟩ := sh_step (n := n) (i := k) hc
  by_cases hlt : k < ln n
  · have ra : rd (limbs n) (k : Int) = ((dg n k : Nat) : Int) := rd_limbs n (by omega)
    have ba := dg_bd n k
    have bd := dg_bd (n * 2 + c) k
    have e1 : IntKind.wrap .u32 (rd (limbs n) (k : Int) * 2) = ((dg n k * 2 % 4294967296 : Nat) : Int) := by rw [wrap_u32, ra]; omega
    have e3 : rd (limbs n) (k : Int) / 2147483648 = ((lc n 2 c (k + 1) : Nat) : Int) := by rw [ra, ← s2]; omega
    repeat (first | refine seq_ ?_ | refine region_ ?_ | refine nil_ ?_ | refine skip_ ?_ | refine block_ ?_ | refine cond_t rfl ?_ | (apply stepY (op := .move _); (focus (exact y_move rfl)); (focus exact rfl)) | (apply stepY (op := .load _ _); (focus (exact y_load_rc1 rfl rfl)); (focus exact rfl)) | (apply stepY (op := .call _); (focus (exact y_len_si rfl)); (focus exact rfl)) | (apply stepY (op := .indexAddr _ _ _); (focus (exact y_index_si rfl rfl (by omega) (by omega))); (focus exact rfl)) | (apply stepY (op := .binOp .add _ _ _ _); (focus (exact y_binn rfl rfl rfl (by simp only [InK, loK, hiK]; omega))); (focus exact rfl)) | (apply stepY (op := .binOp .mul _ _ _ _); (focus (exact y_bin rfl rfl rfl)); (focus exact rfl)) | (apply stepY (op := .binOp .lss _ _ _ _); (focus (exact y_cmpT rfl rfl rfl (by omega))); (focus exact rfl)) | refine stepE (e_bs_vi (k := .u32) rfl rfl rfl rfl rfl) ?_)
    rw [e1, show ((dg n k * 2 % 4294967296 : Nat) : Int) + (lc n 2 c k : Int) = ((dg (n * 2 + c) k : Nat) : Int) by omega]
    refine stepE (e_app_vi rfl rfl rfl (src_vi rfl rfl) (by simp only [List.length_cons, List.length_nil]; omega) rfl rfl) ?_
    repeat (first | refine region_ ?_ | refine nil_ ?_ | (apply stepY (op := .move _); (focus (exact y_move rfl)); (focus exact rfl)) | (apply stepY (op := .assign _); (focus (exact y_assign rfl)); (focus exact rfl)) | (apply stepY (op := .load _ _); (focus (exact y_load_rc1 rfl rfl)); (focus exact rfl)) | (apply stepY (op := .indexAddr _ _ _); (focus (exact y_index_si rfl rfl (by omega) (by omega))); (focus exact rfl)) | (apply stepY (op := .binOp .add _ _ _ _); (focus (exact y_binn rfl rfl rfl (by simp only [InK, loK, hiK]; omega))); (focus exact rfl)) | (apply stepY (op := .binOp .quo _ _ _ _); (focus (exact y_quop rfl rfl (by omega) (by omega) (by simp only [InK, loK, hiK]; omega))); (focus exact rfl)))
    rw [← padd_succ, e3]
    refine ⟨k + 1, by omega, by omega, ?_, ?_⟩ <;> (repeat (first | exact sub_nil | exact subH_nil | refine sub_cons rfl ?_ | refine subH_cons rfl ?_))
  · obtain rfl : k = ln n := by omega
    have h1 := lc_top (n := n) (b := 2) (c := c) (lt_ln n) (by decide) (by unfold B; omega)
    have h2 := lc_fit (n := n) (b := 2) (c := c) (lt_ln n) (by decide) (by unfold B; omega)
    have ht := trim3_c (padd (ln n + 1) (n * 2 + c)) (wf_padd _ _) (by rw [padd_length]; omega)
    rw [val_padd, Nat.mod_eq_of_lt h2] at ht
    repeat (first | refine seq_ ?_ | refine region_ ?_ | refine nil_ ?_ | refine exit_ ?_ | refine cond_f rfl ?_ | (apply stepY (op := .move _); (focus (exact y_move rfl)); (focus exact rfl)) | (apply stepY (op := .call _); (focus (exact y_len_si rfl)); (focus exact rfl)) | (apply stepY (op := .binOp .lss _ _ _ _); (focus (exact y_cmpF rfl rfl rfl (by omega))); (focus exact rfl)) | refine stepE (e_bs_vi (k := .u32) rfl rfl rfl rfl rfl) ?_)
    refine stepE (e_app_vi rfl rfl rfl (src_vi rfl rfl) (by simp only [List.length_cons, List.length_nil]; omega) rfl rfl) ?_
    repeat (first | refine seq_ ?_ | refine region_ ?_ | refine nil_ ?_ | (apply stepY (op := .move _); (focus (exact y_move rfl)); (focus exact rfl)) | (apply stepY (op := .assign _); (focus (exact y_assign rfl)); (focus exact rfl)))
    rw [h1, ← padd_succ]
    refine seal_L (i := 32) (h := 5) rfl rfl rfl rfl ?_
    refine call_ Tryz.func76 rfl rfl (ht) rfl (by repeat (first | exact .tag _ _ | apply Les.cons | exact .nil)) rfl ?_
    repeat (first | refine nil_ ?_ | refine ret_ ?_ | (apply stepY (op := .assign _); (focus (exact y_assign rfl)); (focus exact rfl)))
    ((apply fin_r); (repeat (first | exact .nil | exact .tmp rfl | apply ResL.cons)); (repeat (exact .refl _)))
theorem dg_half (n k : Nat) : dg (n / 2) k = dg n k / 2 + dg n (k + 1) % 2 * 2147483648 := by
  unfold dg
  rw [Nat.pow_succ, ← Nat.div_div_eq_div_mul n (B ^ k) B, Nat.div_div_eq_div_mul, Nat.mul_comm, ← Nat.div_div_eq_div_mul]
  generalize n / B ^ k = q
  unfold B
  omega
theorem halve3_c (n : Nat) (hl : ln n < 4294967290) : Con Tryz.prog 49 [M n] (M (n / 2)) := by
  refine con_of Tryz.func49 rfl rfl rfl rfl rfl ?_
  have la : ((limbs n).length : Int) = ln n := by rw [limbs_length]
  repeat (first | refine seq_ ?_ | refine region_ ?_ | refine nil_ ?_ | refine block_ ?_ | (apply stepY (op := .assign _); (focus (exact y_assign rfl)); (focus exact rfl)))
  refine nil_C (i := 3) 65 .u32 rfl rfl rfl ?_
  refine loop_ (α := Nat) (fun k => ([(0, .p (M n)), (3, .vec 3), (4, .p (I k))], [(3, .vi 65 .u32 (padd k (n / 2)))])) (fun k => k ≤ ln n) (fun k => ln n - k) 0 (Nat.zero_le _) ?_ ?_ ?_
  · (repeat (first | exact sub_nil | refine sub_cons rfl ?_))
  · (repeat (first | exact subH_nil | refine subH_cons rfl ?_))
  intro k hk
  have hlp : (padd k (n / 2)).length = k := padd_length _ _
  have hd := dg_half n k
  by_cases hlt : k < ln n
  · have ra : rd (limbs n) (k : Int) = ((dg n k : Nat) : Int) := rd_limbs n (by omega)
    have ba := dg_bd n k
    by_cases h2 : k + 1 < ln n
    · have rb : rd (limbs n) ((k : Int) + 1) = ((dg n (k + 1) : Nat) : Int) := rd_limbs n (by omega)
      have bb := dg_bd n (k + 1)
      repeat (first | refine seq_ ?_ | refine region_ ?_ | refine nil_ ?_ | refine skip_ ?_ | refine block_ ?_ | refine cond_t rfl ?_ | (apply stepY (op := .move _); (focus (exact y_move rfl)); (focus exact rfl)) | (apply stepY (op := .assign _); (focus (exact y_assign rfl)); (focus exact rfl)) | (apply stepY (op := .load _ _); (focus (exact y_load_rc1 rfl rfl)); (focus exact rfl)) | (apply stepY (op := .call _); (focus (exact y_len_si rfl)); (focus exact rfl)) | (apply stepY (op := .indexAddr _ _ _); (focus (exact y_index_si rfl rfl (by omega) (by omega))); (focus exact rfl)) | (apply stepY (op := .binOp .add _ _ _ _); (focus (exact y_binn rfl rfl rfl (by simp only [InK, loK, hiK]; omega))); (focus exact rfl)) | (apply stepY (op := .binOp .mul _ _ _ _); (focus (exact y_binn rfl rfl rfl (by simp only [InK, loK, hiK]; omega))); (focus exact rfl)) | (apply stepY (op := .binOp .quo _ _ _ _); (focus (exact y_quop rfl rfl (by omega) (by omega) (by simp only [InK, loK, hiK]; omega))); (focus exact rfl)) | (apply stepY (op := .binOp .rem _ _ _ _); (focus (exact y_remp rfl rfl (by omega) (by omega))); (focus exact rfl)) | (apply stepY (op := .binOp .lss _ _ _ _); (focus (exact y_cmpT rfl rfl rfl (by omega))); (focus exact rfl)) | refine stepE (e_bs_vi (k := .u32) rfl rfl rfl rfl rfl) ?_)
      rw [show rd (limbs n) (k : Int) / 2 + rd (limbs n) ((k : Int) + 1) % 2 * 2147483648 = ((dg (n / 2) k : Nat) : Int) by omega]
      refine stepE (e_app_vi rfl rfl rfl (src_vi rfl rfl) (by simp only [List.length_cons, List.length_nil]; omega) rfl rfl) ?_
      repeat (first | refine region_ ?_ | refine nil_ ?_ | (apply stepY (op := .move _); (focus (exact y_move rfl)); (focus exact rfl)) | (apply stepY (op := .assign _); (focus (exact y_assign rfl)); (focus exact rfl)) | (apply stepY (op := .binOp .add _ _ _ _); (focus (exact y_binn rfl rfl rfl (by simp only [InK, loK, hiK]; omega))); (focus exact rfl)))
      rw [← padd_succ]
      refine ⟨k + 1, by omega, by omega, ?_, ?_⟩ <;> (repeat (first | exact sub_nil | exact subH_nil | refine sub_cons rfl ?_ | refine subH_cons rfl ?_))
    · have hz : dg n (k + 1) = 0 := dg_big (by omega)
      rw [hz] at hd
      repeat (first | refine seq_ ?_ | refine region_ ?_ | refine nil_ ?_ | refine skip_ ?_ | refine block_ ?_ | refine cond_t rfl ?_ | refine cond_f rfl ?_ | (apply stepY (op := .move _); (focus (exact y_move rfl)); (focus exact rfl)) | (apply stepY (op := .assign _); (focus (exact y_assign rfl)); (focus exact rfl)) | (apply stepY (op := .load _ _); (focus (exact y_load_rc1 rfl rfl)); (focus exact rfl)) | (apply stepY (op := .call _); (focus (exact y_len_si rfl)); (focus exact rfl)) | (apply stepY (op := .indexAddr _ _ _); (focus (exact y_index_si rfl rfl (by omega) (by omega))); (focus exact rfl)) | (apply stepY (op := .binOp .add _ _ _ _); (focus (exact y_binn rfl rfl rfl (by simp only [InK, loK, hiK]; omega))); (focus exact rfl)) | (apply stepY (op := .binOp .quo _ _ _ _); (focus (exact y_quop rfl rfl (by omega) (by omega) (by simp only [InK, loK, hiK]; omega))); (focus exact rfl)) | (apply stepY (op := .binOp .lss _ _ _ _); (focus (first | exact y_cmpT rfl rfl rfl (by omega) | exact y_cmpF rfl rfl rfl (by omega))); (focus exact rfl)) | refine stepE (e_bs_vi (k := .u32) rfl rfl rfl rfl rfl) ?_)
      rw [show rd (limbs n) (k : Int) / 2 = ((dg (n / 2) k : Nat) : Int) by omega]
      refine stepE (e_app_vi rfl rfl rfl (src_vi rfl rfl) (by simp only [List.length_cons, List.length_nil]; omega) rfl rfl) ?_
      repeat (first | refine region_ ?_ | refine nil_ ?_ | (apply stepY (op := .move _); (focus (exact y_move rfl)); (focus exact rfl)) | (apply stepY (op := .assign _); (focus (exact y_assign rfl)); (focus exact rfl)) | (apply stepY (op := .binOp .add _ _ _ _); (focus (exact y_binn rfl rfl rfl (by simp only [InK, loK, hiK]; omega))); (focus exact rfl)))
      rw [← padd_succ]
      refine ⟨k + 1, by omega, by omega, ?_, ?_⟩ <;> (repeat (first | exact sub_nil | exact subH_nil | refine sub_cons rfl ?_ | refine subH_cons rfl ?_))
  · obtain rfl : k = ln n := by omega
    have ht := trim3_c (padd (ln n) (n / 2)) (wf_padd _ _) (by rw [padd_length]; omega)
    rw [val_padd, Nat.mod_eq_of_lt (Nat.lt_of_le_of_lt (Nat.div_le_self _ _) (lt_ln n))] at ht
    repeat (first | refine seq_ ?_ | refine region_ ?_ | refine nil_ ?_ | refine exit_ ?_ | refine cond_f rfl ?_ | (apply stepY (op := .move _); (focus (exact y_move rfl)); (focus exact rfl)) | (apply stepY (op := .call _); (focus (exact y_len_si rfl)); (focus exact rfl)) | (apply stepY (op := .binOp .lss _ _ _ _); (focus (exact y_cmpF rfl rfl rfl (by omega))); (focus exact rfl)))
    refine seal_L (i := 35) (h := 3) rfl rfl rfl rfl ?_
    refine call_ Tryz.func76 rfl rfl (ht) rfl (by repeat (first | exact .tag _ _ | apply Les.cons | exact .nil)) rfl ?_
    repeat (first | refine nil_ ?_ | refine ret_ ?_ | (apply stepY (op := .assign _); (focus (exact y_assign rfl)); (focus exact rfl)))
    ((apply fin_r); (repeat (first | exact .nil | exact .tmp rfl | apply ResL.cons)); (repeat (exact .refl _)))
end Go.Av

set_option maxHeartbeats 8000000
set_option exponentiation.threshold 100000
set_option maxRecDepth 100000
set_option linter.unusedVariables false
set_option linter.unusedSimpArgs false
namespace Go.Av
open Go Go.Proofs
/-! The reference of the fractions: divide -/
def xs (a i k : Nat) : Nat := a / B ^ (i + 1) * 2 ^ k + dg a i / 2 ^ (32 - k)
theorem xs_zero (a i : Nat) : xs a i 0 = a / B ^ (i + 1) := by
  have h := dg_lt a i
  unfold xs
  rw [Nat.pow_zero, Nat.mul_one, show dg a i / 2 ^ (32 - 0) = 0 from Nat.div_eq_of_lt (by unfold B at h; exact h), Nat.add_zero]
theorem xs_top (a i : Nat) : xs a i 32 = a / B ^ i := by
  unfold xs
  rw [show 32 - 32 = 0 from rfl, Nat.pow_zero, Nat.div_one, Nat.pow_succ, ← Nat.div_div_eq_div_mul]
  unfold dg
  have := Nat.div_add_mod (a / B ^ i) B
  rw [Nat.mul_comm] at this
  exact this
theorem xs_step (a i : Nat) {k : Nat} (h : k < 32) : xs a i (k + 1) = xs a i k * 2 + dg a i / 2 ^ (31 - k) % 2 := by
  unfold xs
  have e1 : (2 : Nat) ^ (32 - k) = 2 ^ (31 - k) * 2 := by rw [← Nat.pow_succ]; congr 1; omega
  rw [show 32 - (k + 1) = 31 - k by omega, e1, ← Nat.div_div_eq_div_mul, show (2 : Nat) ^ (k + 1) = 2 ^ k * 2 from Nat.pow_succ 2 k, ← Nat.mul_assoc]
  generalize dg a i / 2 ^ (31 - k) = q
  generalize a / B ^ (i + 1) * 2 ^ k = p
  omega
theorem xs_le (a i k : Nat) (h : k ≤ 32) : xs a i k ≤ a := by
  have key : ∀ m, k + m = 32 → xs a i k ≤ a := by
    intro m
    induction m generalizing k with
    | zero => intro e; rw [show k = 32 by omega, xs_top]; exact Nat.div_le_self _ _
    | succ m ih =>
      intro e
      have h1 := ih (k + 1) (by omega) (by omega)
      rw [xs_step a i (by omega)] at h1
      omega
  exact key (32 - k) (by omega)
theorem dstep {X b t : Nat} (hb : 0 < b) (ht : t ≤ 1) : (b ≤ X % b * 2 + t → (X * 2 + t) / b = X / b * 2 + 1 ∧ (X * 2 + t) % b = X % b * 2 + t - b) ∧ (¬ b ≤ X % b * 2 + t → (X * 2 + t) / b = X / b * 2 + 0 ∧ (X * 2 + t) % b = X % b * 2 + t) := by
  have h1 := Nat.div_add_mod X b
  have h2 := Nat.mod_lt X hb
  generalize X / b = q at *
  generalize X % b = r at *
  have e : X * 2 + t = b * (q * 2) + (r * 2 + t) := by rw [← h1, Nat.add_mul, Nat.mul_assoc]; omega
  refine ⟨fun h => ?_, fun h => ?_⟩
  · have e2 : X * 2 + t = b * (q * 2 + 1) + (r * 2 + t - b) := by rw [e, Nat.mul_add, Nat.mul_one]; omega
    have h3 : r * 2 + t - b < b := by omega
    rw [e2]
    exact ⟨by rw [Nat.mul_add_div hb, Nat.div_eq_of_lt h3], by rw [Nat.mul_add_mod, Nat.mod_eq_of_lt h3]⟩
  · have h3 : r * 2 + t < b := by omega
    rw [e]
    exact ⟨by rw [Nat.mul_add_div hb, Nat.div_eq_of_lt h3], by rw [Nat.mul_add_mod, Nat.mod_eq_of_lt h3]⟩
theorem ln_twice {r b t : Nat} (h : r < b) (ht : t ≤ 1) : ln (r * 2 + t) ≤ ln b + 1 := by
  rw [ln_le]
  have h1 := lt_ln b
  have h2 : r * 2 + t < 2 * b := by omega
  have h3 : 2 * b ≤ B * B ^ ln b := Nat.mul_le_mul (by decide) (Nat.le_of_lt h1)
  rw [Nat.pow_succ, Nat.mul_comm (B ^ ln b)]
  omega
theorem sg_ge {a b : Nat} : (0 ≤ sg a b) ↔ b ≤ a := by unfold sg; split <;> (try split) <;> constructor <;> intro h <;> omega
theorem divide3_c (a b : Nat) (hb : 0 < b) (hla : ln a < 4294967200) (hlb : ln b < 4294967200) : Con Tryz.prog 100 [M a, M b] (.tp [M (a / b), M (a % b)]) := by
  refine con_of Tryz.func100 rfl rfl rfl rfl rfl ?_
  have la : ((limbs a).length : Int) = ln a := by rw [limbs_length]
  repeat (first | refine seq_ ?_ | refine region_ ?_ | refine nil_ ?_ | refine block_ ?_ | refine stepY (y_move rfl) rfl ?_ | refine stepY (y_assign rfl) rfl ?_ | refine stepY (y_len_si rfl) rfl ?_ | refine stepY (y_binn rfl rfl rfl (by simp only [InK, loK, hiK]; omega)) rfl ?_)
  refine le_C (i := 6) (M 0) rfl (.nil _ _) ?_
  refine le_C (i := 7) (M 0) rfl (.nil _ _) ?_
  refine loop_ (α := Nat) (fun j => ([(0, .p (M a)), (1, .p (M b)), (6, .p (M (a / B ^ j / b))), (7, .p (M (a / B ^ j % b))), (8, .p (I ((j : Int) - 1)))], [])) (fun j => j ≤ ln a) id (ln a) (Nat.le_refl _) ?_ ?_ ?_
  · rw [la, Nat.div_eq_of_lt (lt_ln a), Nat.zero_div, Nat.zero_mod]; (repeat (first | exact sub_nil | refine sub_cons rfl ?_))
  · (repeat (exact subH_nil))
  intro j hj
  by_cases h0 : j = 0
  · subst h0
    rw [Nat.pow_zero, Nat.div_one]
    repeat (first | refine seq_ ?_ | refine region_ ?_ | refine nil_ ?_ | refine exit_ ?_ | refine ret_ ?_ | refine cond_f rfl ?_ | refine stepY (y_move rfl) rfl ?_ | refine stepY (y_assign rfl) rfl ?_ | refine stepY (y_cmpF rfl rfl rfl (by omega)) rfl ?_)
    ((apply fin_r); (repeat (first | exact .nil | exact .tmp rfl | apply ResL.cons)); (repeat (exact .refl _)))
  obtain ⟨i, rfl⟩ : ∃ i, j = i + 1 := ⟨j - 1, by omega⟩
  rw [show (((i + 1 : Nat) : Int) - 1) = (i : Int) by omega]
  have ra : rd (limbs a) (i : Int) = ((dg a i : Nat) : Int) := rd_limbs a (by omega)
  have ba := dg_lt a i
  repeat (first | refine seq_ ?_ | refine region_ ?_ | refine nil_ ?_ | refine skip_ ?_ | refine block_ ?_ | refine cond_t rfl ?_ | refine stepY (y_move rfl) rfl ?_ | refine stepY (y_assign rfl) rfl ?_ | refine stepY (y_load_rc1 rfl rfl) rfl ?_ | refine stepY (y_index_si rfl rfl (by omega) (by omega)) rfl ?_ | refine stepY (y_cmpT rfl rfl rfl (by omega)) rfl ?_)
  rw [ra]
  refine loop_ (α := Nat) (fun k => ([(0, .p (M a)), (1, .p (M b)), (6, .p (M (xs a i k / b))), (7, .p (M (xs a i k % b))), (8, .p (I (i : Int))), (9, .p (U ((dg a i * 2 ^ k % 4294967296 : Nat) : Int))), (10, .p (I k))], [])) (fun k => k ≤ 32) (fun k => 32 - k) 0 (Nat.zero_le _) ?_ ?_ ?_
  · rw [xs_zero, Nat.pow_zero, Nat.mul_one, show dg a i % 4294967296 = dg a i from Nat.mod_eq_of_lt (by unfold B at ba; exact ba)]; (repeat (first | exact sub_nil | refine sub_cons rfl ?_))
  · (repeat (exact subH_nil))
  intro k hk
  by_cases hk2 : k < 32
  · have hlm : dg a i * 2 ^ k % 4294967296 < 4294967296 := Nat.mod_lt _ (by decide)
    have htd := top_bit (d := dg a i) (k := k) (by unfold B at ba; exact ba) (by omega)
    have hln := limb_next (d := dg a i) (k := k)
    have ht1 : dg a i * 2 ^ k % 4294967296 / 2147483648 ≤ 1 := by omega
    have hds := dstep (X := xs a i k) hb ht1
    have hr := Nat.mod_lt (xs a i k) hb
    have l1 : ln (xs a i k % b) ≤ ln b := ln_mono (Nat.le_of_lt hr)
    have l2 : ln (xs a i k / b) ≤ ln a := ln_mono (Nat.le_trans (Nat.div_le_self _ _) (xs_le a i k hk))
    have hs1 := shift3_c (xs a i k % b) (dg a i * 2 ^ k % 4294967296 / 2147483648) (by omega) ht1
    have l3 := ln_twice hr ht1
    have hcm := compare3_c (xs a i k % b * 2 + dg a i * 2 ^ k % 4294967296 / 2147483648) b
    have hlw : IntKind.wrap .u32 (((dg a i * 2 ^ k % 4294967296 : Nat) : Int) * 2) = ((dg a i * 2 ^ k % 4294967296 * 2 % 4294967296 : Nat) : Int) := by rw [wrap_u32]; omega
    by_cases hge : b ≤ xs a i k % b * 2 + dg a i * 2 ^ k % 4294967296 / 2147483648
    · have hd := hds.1 hge
      have hg := sg_ge.2 hge
      have hmn := minus3_c _ b (by omega) hge
      have hs2 := shift3_c (xs a i k / b) 1 (by omega) (by omega)
      repeat (first | refine seq_ ?_ | refine region_ ?_ | refine nil_ ?_ | refine skip_ ?_ | refine block_ ?_ | refine cond_t rfl ?_ | refine stepY (y_move rfl) rfl ?_ | refine stepY (y_quop rfl rfl (by omega) (by omega) (by simp only [InK, loK, hiK]; omega)) rfl ?_ | refine stepY (y_cmpT rfl rfl rfl (by omega)) rfl ?_)
      refine call_ Tryz.func52 rfl rfl (hs1) rfl (by repeat (first | exact .refl _ | apply Les.cons | exact .nil)) rfl ?_
      repeat (first | refine seq_ ?_ | refine region_ ?_ | refine nil_ ?_ | refine stepY (y_move rfl) rfl ?_ | refine stepY (y_assign rfl) rfl ?_ | refine stepY (y_bin rfl rfl rfl) rfl ?_)
      rw [hlw]
      refine call_ Tryz.func50 rfl rfl (hcm) rfl (by repeat (first | exact .refl _ | apply Les.cons | exact .nil)) rfl ?_
      repeat (first | refine seq_ ?_ | refine region_ ?_ | refine nil_ ?_ | refine cond_t rfl ?_ | refine stepY (y_move rfl) rfl ?_ | refine stepY (y_cmpT rfl rfl rfl (by omega)) rfl ?_)
      refine call_ Tryz.func51 rfl rfl (hmn) rfl (by repeat (first | exact .refl _ | apply Les.cons | exact .nil)) rfl ?_
      repeat (first | refine region_ ?_ | refine nil_ ?_ | refine stepY (y_move rfl) rfl ?_ | refine stepY (y_assign rfl) rfl ?_)
      refine call_ Tryz.func52 rfl rfl (hs2) rfl (by repeat (first | exact .refl _ | apply Les.cons | exact .nil)) rfl ?_
      repeat (first | refine region_ ?_ | refine nil_ ?_ | refine stepY (y_move rfl) rfl ?_ | refine stepY (y_assign rfl) rfl ?_ | refine stepY (y_binn rfl rfl rfl (by simp only [InK, loK, hiK]; omega)) rfl ?_)
      rw [limb_next]
      refine ⟨k + 1, by omega, by omega, ?_, ?_⟩
      · rw [xs_step a i hk2, ← htd, hd.1, hd.2]; (repeat (first | exact sub_nil | refine sub_cons rfl ?_))
      · (repeat (exact subH_nil))
    · have hd := hds.2 hge
      have hg : ¬ 0 ≤ sg (xs a i k % b * 2 + dg a i * 2 ^ k % 4294967296 / 2147483648) b := fun h => hge (sg_ge.1 h)
      have hs2 := shift3_c (xs a i k / b) 0 (by omega) (by omega)
      repeat (first | refine seq_ ?_ | refine region_ ?_ | refine nil_ ?_ | refine skip_ ?_ | refine block_ ?_ | refine cond_t rfl ?_ | refine stepY (y_move rfl) rfl ?_ | refine stepY (y_quop rfl rfl (by omega) (by omega) (by simp only [InK, loK, hiK]; omega)) rfl ?_ | refine stepY (y_cmpT rfl rfl rfl (by omega)) rfl ?_)
      refine call_ Tryz.func52 rfl rfl (hs1) rfl (by repeat (first | exact .refl _ | apply Les.cons | exact .nil)) rfl ?_
      repeat (first | refine seq_ ?_ | refine region_ ?_ | refine nil_ ?_ | refine stepY (y_move rfl) rfl ?_ | refine stepY (y_assign rfl) rfl ?_ | refine stepY (y_bin rfl rfl rfl) rfl ?_)
      rw [hlw]
      refine call_ Tryz.func50 rfl rfl (hcm) rfl (by repeat (first | exact .refl _ | apply Les.cons | exact .nil)) rfl ?_
      repeat (first | refine region_ ?_ | refine nil_ ?_ | refine skip_ ?_ | refine cond_f rfl ?_ | refine stepY (y_move rfl) rfl ?_ | refine stepY (y_cmpF rfl rfl rfl (by omega)) rfl ?_)
      refine call_ Tryz.func52 rfl rfl (hs2) rfl (by repeat (first | exact .refl _ | apply Les.cons | exact .nil)) rfl ?_
      repeat (first | refine region_ ?_ | refine nil_ ?_ | refine stepY (y_move rfl) rfl ?_ | refine stepY (y_assign rfl) rfl ?_ | refine stepY (y_binn rfl rfl rfl (by simp only [InK, loK, hiK]; omega)) rfl ?_)
      rw [limb_next]
      refine ⟨k + 1, by omega, by omega, ?_, ?_⟩
      · rw [xs_step a i hk2, ← htd, hd.1, hd.2]; (repeat (first | exact sub_nil | refine sub_cons rfl ?_))
      · (repeat (exact subH_nil))
  · obtain rfl : k = 32 := by omega
    rw [xs_top]
    repeat (first | refine seq_ ?_ | refine region_ ?_ | refine nil_ ?_ | refine exit_ ?_ | refine cond_f rfl ?_ | refine stepY (y_move rfl) rfl ?_ | refine stepY (y_assign rfl) rfl ?_ | refine stepY (y_binn rfl rfl rfl (by simp only [InK, loK, hiK]; omega)) rfl ?_ | refine stepY (y_cmpF rfl rfl rfl (by omega)) rfl ?_)
    refine ⟨i, by omega, by simp only [id]; omega, ?_, ?_⟩
    · (repeat (first | exact sub_nil | refine sub_cons rfl ?_))
    · (repeat (exact subH_nil))
end Go.Av

set_option linter.unusedVariables false
set_option linter.unusedSimpArgs false
namespace Go.Av
open Go Go.RowKit
/-- What is told behind a piece of code, of something that exists. -/
theorem cutK_ {P : Program} {N : Nat} {E : Env} {H : Hp} {Q : Exit → Env → Hp → Prop} {x y : Code} (K : Env → Hp → Prop) (h1 : Tr P N x E H (fun e E' H' => e = .normal ∧ K E' H')) (h2 : ∀ E' H', K E' H' → Tr P N y E' H' Q) : Tr P N (.seq x y) E H Q := by
  refine seq_ (h1.conseq fun e E' H' ⟨h, k⟩ => ?_)
  subst h
  exact h2 E' H' k
end Go.Av

set_option linter.unusedVariables false
set_option linter.unusedSimpArgs false
/-! Regions that draw their order, every order gone through: for operations that make memory at any time. -/
namespace Go.Av
open Go Go.RowKit
section
variable {P : Program} {N : Nat} {E : Env} {H : Hp} {Q : Exit → Env → Hp → Prop} {ops : Array Oper} {sx fuel : Nat} {listed : Array Bool} {ob ph : Bool} {St : List Nat}
def TrX (P : Program) (N : Nat) (ops : Array Oper) (x fuel : Nat) (listed : Array Bool) (op ph : Bool) (St : List Nat) (E : Env) (H : Hp) (Q : Exit → Env → Hp → Prop) : Prop :=
  ∀ okA w0 ρ tmps w (w1 : World) (stab : Nat → Prop), Rep okA w0 N ρ E H tmps w →
    (op = true → ∀ b, stab b → b < w.heap.size ∧ w.heap[b]? = w1.heap[b]?) → (op = true → ∀ h ∈ St, ∀ m b, hk h H = some m → blk (ρ h) = some b → stab b) → (op = true → ∀ h m b, hk h H = some m → h ∉ St → blk (ρ h) = some b → ¬ stab b) →
    (op = true → ph = true → ∀ f b, okF okA w0.heap.size ρ H w.heap.size f b → stab b) → listed.getD x false = !op →
    wpAnyS P .any ops (Post okA w0 N Q) x (fun W => ∀ b, stab b → W.heap[b]? = w1.heap[b]?) fuel listed ⟨tmps, []⟩ w
def TrI (P : Program) (N : Nat) (ops : Array Oper) (x fuel : Nat) (listed : Array Bool) (i : Nat) (op ph : Bool) (St : List Nat) (E : Env) (H : Hp) (Q : Exit → Env → Hp → Prop) : Prop :=
  ∀ okA w0 ρ tmps w (w1 : World) (stab : Nat → Prop), Rep okA w0 N ρ E H tmps w →
    (op = true → ∀ b, stab b → b < w.heap.size ∧ w.heap[b]? = w1.heap[b]?) → (op = true → ∀ h ∈ St, ∀ m b, hk h H = some m → blk (ρ h) = some b → stab b) → (op = true → ∀ h m b, hk h H = some m → h ∉ St → blk (ρ h) = some b → ¬ stab b) →
    (op = true → ph = true → ∀ f b, okF okA w0.heap.size ρ H w.heap.size f b → stab b) → listed.getD x false = !op →
    wpOp P ops (Post okA w0 N Q) i (fun a' w' => ((listed.setIfInBounds i true).getD x false = false → (fun W : World => ∀ b, stab b → W.heap[b]? = w1.heap[b]?) w') ∧ wpAnyS P .any ops (Post okA w0 N Q) x (fun W => ∀ b, stab b → W.heap[b]? = w1.heap[b]?) fuel (listed.setIfInBounds i true) a' w') ⟨tmps, []⟩ w
def AllX (P : Program) (N : Nat) (ops : Array Oper) (x fuel : Nat) (listed : Array Bool) (op ph : Bool) (St : List Nat) (E : Env) (H : Hp) (Q : Exit → Env → Hp → Prop) : List Nat → Prop
  | [] => True
  | i :: r => TrI P N ops x fuel listed i op ph St E H Q ∧ AllX P N ops x fuel listed op ph St E H Q r
theorem AllX.mem : ∀ {rs : List Nat}, AllX P N ops sx fuel listed ob ph St E H Q rs → ∀ i ∈ rs, TrI P N ops sx fuel listed i ob ph St E H Q
  | [], _, i, hi => by simp at hi
  | j :: r, h, i, hi => by
    rcases List.mem_cons.1 hi with rfl | hi
    · exact h.1
    · exact h.2.mem i hi
theorem xAll {rs : List Nat} (hr : Region.ready .any ops listed = rs) (hne : rs.isEmpty = false) (h : AllX P N ops sx fuel listed ob ph St E H Q rs) : TrX P N ops sx (fuel + 1) listed ob ph St E H Q := by
  intro okA w0 ρ tmps w w1 stab r h1 h2 h3 h4 h5
  refine wpAnyS_all hr (by intro e; rw [e] at hne; cases hne) (fun i hi => ?_)
  exact h.mem i hi okA w0 ρ tmps w w1 stab r h1 h2 h3 h4 h5
theorem xEnd (hr : (Region.ready .any ops listed).isEmpty = true) (h : Q .normal E H) : TrX P N ops sx fuel listed ob ph St E H Q := by
  intro okA w0 ρ tmps w w1 stab r _ _ _ _ _
  exact wpAnyS_done (List.isEmpty_iff.1 hr) ⟨by simp, by simp, rfl, ρ, E, H, r, h⟩ _
theorem xDraw {id : Nat} {l : List Oper} (sx : Nat) (St : List Nat) (hm : P.follows .mixedOrders = true)
    (h : TrX P N l.toArray sx l.length (Array.replicate l.toArray.size false) true true St E H Q) : Tr P N (.region id l.toArray true) E H Q := by
  unfold Tr
  intro okA w0 ρ tmps w r
  have r' : Rep okA w0 N ρ E H tmps { w with drawn := w.drawn + 1 } := r.world ((Below.refl _ _).drew)
  refine wp_region_any hm (wpAny_of_S (x := sx) (T := fun W => ∀ b, (b < w.heap.size ∧ ∀ h m, hk h H = some m → h ∉ St → blk (ρ h) ≠ some b) → W.heap[b]? = w.heap[b]?) _ _ _ _ ?_)
  have := h okA w0 ρ tmps _ w (fun b => b < w.heap.size ∧ ∀ h m, hk h H = some m → h ∉ St → blk (ρ h) ≠ some b) r' (fun _ b hb => ⟨hb.1, rfl⟩) ?_ ?_ ?_ ?_
  · simpa using this
  · intro _ h hs m b hm hb
    refine ⟨(r.blk_lt hm hb).2, fun h' m' hm' hn e => ?_⟩
    exact r.disj h h' m m' b hm hm' (fun e => hn (e ▸ hs)) hb e
  · intro _ h m b hm hn hb hc
    exact hc.2 h m hm hn hb
  · intro _ _ f b hb
    exact ⟨hb.1, fun h m hm hn => hb.2.1 h m hm⟩
  · rw [Array.getD_eq_getD_getElem?]
    cases hq : (Array.replicate l.toArray.size false)[sx]? with
    | none => rfl
    | some v =>
      rw [Array.getElem?_replicate] at hq
      split at hq
      · simp at hq; subst hq; rfl
      · cases hq
/-- Taken first: it yields the same whenever it comes up. -/
theorem xY {i d : Nat} {op : Op} {ty : TypeId} {pos : String} {af : Array Edge} {g : Option (Nat × Bool)} {x : TV} {rd : Rd} (hi : ops[i]? = some ⟨some d, op, ty, pos, af, g⟩) (h : Yl P op ty E H x rd) (hg : wantB ops E g = some true) (hrd : rdOk ops sx i ob ph St rd = true) (hin : rdIn H rd = true) (hd : Nat.blt d N = true)
    (hf : (Region.noSelect ops && (Region.free .any ops listed i && (Region.ready .any ops listed).contains i)) = true)
    (k : TrX P N ops sx fuel (listed.setIfInBounds i true) ob ph St ((d, x) :: E) H Q) : TrX P N ops sx (fuel + 1) listed ob ph St E H Q := by
  intro okA w0 ρ tmps w w1 stab r h1 h2 h3 h4 h5
  simp only [Bool.and_eq_true] at hf
  obtain ⟨hs, hf, hr⟩ := hf
  have hne := rdOk_ne hrd
  obtain ⟨y, hrel, S', hS1, hS2, hS3, hrun⟩ := yields_if r (o := ⟨some d, op, ty, pos, af, g⟩) (i := i) rfl rfl h hrd (rdIn_spec hin) h1 h2 h4
  refine wpAnyS_take hi hne hs hf hr post_panic hS1 (.inl ⟨want_spec r hg, hrun⟩) hS2 (fun h => fun b hb => (h1 (by rw [h5] at h; simpa using h) b hb).2) (hS3.imp id (fun e => by rw [h5, e]; rfl)) ?_
  exact k okA w0 ρ _ w w1 stab (r.put (Nat.le_of_ble_eq_true hd) hrel) h1 h2 h3 h4 (by rw [getD_set_ne false hne]; exact h5)
theorem iY {i d : Nat} {op : Op} {ty : TypeId} {pos : String} {af : Array Edge} {g : Option (Nat × Bool)} {x : TV} {rd : Rd} (hi : ops[i]? = some ⟨some d, op, ty, pos, af, g⟩) (h : Yl P op ty E H x rd) (hg : wantB ops E g = some true) (hd : Nat.blt d N = true) (hx : Nat.beq i sx = false)
    (k : TrX P N ops sx fuel (listed.setIfInBounds i true) ob ph St ((d, x) :: E) H Q) : TrI P N ops sx fuel listed i ob ph St E H Q := by
  intro okA w0 ρ tmps w w1 stab r h1 h2 h3 h4 h5
  have hne : i ≠ sx := fun e => by subst e; rw [Nat.beq_refl] at hx; cases hx
  unfold Yl at h
  obtain ⟨y, hrun, hrel⟩ := h okA w0 N ρ tmps w r
  unfold wpOp
  simp only [hi]
  rw [if_pos (want_spec r hg)]
  refine .inl ?_
  have := hrun w (rd.same_refl _ _ _) (some d) pos af g
  simp only [Oper.wp, this, Oper.upon]
  exact ⟨fun h b hb => (h1 (notT h5 hne h) b hb).2, k okA w0 ρ _ w w1 stab (r.put (Nat.le_of_ble_eq_true hd) hrel) h1 h2 h3 h4 (by rw [getD_set_ne false hne]; exact h5)⟩
theorem iE {i : Nat} {dst : Option Tmp} {op : Op} {ty : TypeId} {pos : String} {af : Array Edge} {g : Option (Nat × Bool)} {E' : Env} {H' : Hp} {W : List Nat} (hi : ops[i]? = some ⟨dst, op, ty, pos, af, g⟩) (h : Eff P N dst op ty E H E' H' W) (hg : wantB ops E g = some true) (hW : (!(Nat.beq i sx) && W.all fun h => !St.any (Nat.beq h)) = true)
    (k : TrX P N ops sx fuel (listed.setIfInBounds i true) ob false St E' H' Q) : TrI P N ops sx fuel listed i ob ph St E H Q := by
  intro okA w0 ρ tmps w w1 stab r h1 h2 h3 h4 h5
  rw [Bool.and_eq_true] at hW
  obtain ⟨hx, hW⟩ := hW
  have hne : i ≠ sx := fun e => by subst e; rw [Nat.beq_refl] at hx; cases hx
  have hWS : ∀ h ∈ W, h ∉ St := by
    intro h hw hst
    have := List.all_eq_true.1 hW h hw
    simp only [Bool.not_eq_true', List.any_eq_false] at this
    exact this h hst (by simp)
  unfold Eff at h
  obtain ⟨n, y, ρ', w', hrun, hn, hr', hfr, hsz, hag, hold, hnew⟩ := h okA w0 ρ tmps w r
  have h1' : ob = true → ∀ b, stab b → b < w'.heap.size ∧ w'.heap[b]? = w1.heap[b]? := fun ho b hb => by
    obtain ⟨hb1, hb2⟩ := h1 ho b hb
    refine ⟨Nat.lt_of_lt_of_le hb1 hsz, ?_⟩
    rw [hfr b hb1 (fun h hw m hm e => h3 ho h m b hm (hWS h hw) e hb)]
    exact hb2
  have hk' := k okA w0 ρ' _ w' w1 stab hr' h1' (fun ho h hs m b hm hb => by
      have hnw : h ∉ W := fun hw => hWS h hw hs
      obtain ⟨m0, hm0⟩ := hold h m hm hnw
      rw [hag h hnw] at hb
      exact h2 ho h hs m0 b hm0 hb)
    (fun ho h m b hm hn' hb hst => by
      by_cases hw : h ∈ W
      · rcases hnew h hw b hb with h5 | ⟨m0, h5, h6⟩
        · have := (h1 ho b hst).1; omega
        · exact h3 ho h m0 b h5 hn' h6 hst
      · obtain ⟨m0, hm0⟩ := hold h m hm hw
        rw [hag h hw] at hb
        exact h3 ho h m0 b hm0 hn' hb hst) (fun _ e => by cases e) (by rw [getD_set_ne false hne]; exact h5)
  unfold wpOp
  simp only [hi]
  rw [if_pos (want_spec r hg)]
  refine .inl ?_
  have := hrun pos af g
  simp only [Oper.wp, this]
  rcases hn with rfl | ⟨rfl, rfl⟩
  · simp only [Oper.upon]
    rw [put_nil]
    exact ⟨fun h b hb => (h1' (notT h5 hne h) b hb).2, hk'⟩
  · simp only [Oper.upon]
    rw [put_nil]
    exact ⟨fun h b hb => (h1' (notT h5 hne h) b hb).2, hk'⟩
theorem iC {i d : Nat} {f : FuncId} {fn : Func} {os : Array Operand} {ts : Array TypeId} {ty : TypeId} {pos : String} {af : Array Edge} {g : Option (Nat × Bool)} {args xs : List PV} {res : PV} (hi : ops[i]? = some ⟨some d, .call { callee := .value (.func f), args := os, argTypes := ts }, ty, pos, af, g⟩)
    (hf : P.funcs[f]? = some fn) (hn : (fn.name == "runtime.NumGoroutine") = false) (hb : fn.body.isNone = false) (hc : Con P f args res) (hx : evs E os.toList = some xs) (hle : Les xs args) (hg : wantB ops E g = some true) (hd : (Nat.blt d N && !(Nat.beq i sx)) = true)
    (k : TrX P N ops sx fuel (listed.setIfInBounds i true) ob false St ((d, .p res) :: E) H Q) : TrI P N ops sx fuel listed i ob ph St E H Q := by
  intro okA w0 ρ tmps w w1 stab r h1 h2 h3 h4 h5
  rw [Bool.and_eq_true] at hd
  obtain ⟨hd, hx'⟩ := hd
  have hne : i ≠ sx := fun e => by subst e; rw [Nat.beq_refl] at hx'; cases hx'
  have hcall := call_rep r hc hx hle
  have hrun : (execOp (Act.eval ⟨tmps, []⟩) ⟨some d, .call { callee := .value (.func f), args := os, argTypes := ts }, ty, pos, af, g⟩).run P w = .ok (.enter f (os.map (Act.eval ⟨tmps, []⟩))) w := by
    have hn' : ¬ fn.name = "runtime.NumGoroutine" := by simpa using hn
    have hb' : ¬ fn.body = none := by intro h; rw [h] at hb; simp at hb
    simp [execOp, resolve, Deferred.ofValue, Act.eval, invoke, callFunc, hf, hn', hb']
  unfold wpOp
  simp only [hi]
  rw [if_pos (want_spec r hg)]
  refine .inl ?_
  simp only [Oper.wp, hrun, Oper.upon]
  have harr : os.map (Act.eval ⟨tmps, []⟩) = (os.toList.map (Act.eval ⟨tmps, []⟩)).toArray := by apply Array.ext'; simp
  rw [harr]
  refine hcall.mono fun e w' ⟨y, he, hr', hrel, hbel⟩ => ?_
  subst he
  have h1' : ob = true → ∀ b, stab b → b < w'.heap.size ∧ w'.heap[b]? = w1.heap[b]? := fun ho b hb => ⟨Nat.lt_of_lt_of_le (h1 ho b hb).1 hbel.size, by rw [hbel.block b (h1 ho b hb).1]; exact (h1 ho b hb).2⟩
  exact ⟨fun h b hb => (h1' (notT h5 hne h) b hb).2, k okA w0 ρ _ w' w1 stab (hr'.put (Nat.le_of_ble_eq_true hd) (x := .p res) (by simpa only [RelT] using hrel)) h1' h2 h3 (fun _ e => by cases e) (by rw [getD_set_ne false hne]; exact h5)⟩
/-- What is told behind a piece of code, whatever way it took. -/
def subQ (E1 : Env) (H1 : Hp) : Exit → Env → Hp → Prop := fun e E' H' => e = .normal ∧ (∀ i y, lk i E1 = some y → lk i E' = some y) ∧ (∀ i m, hk i H1 = some m → hk i H' = some m)
theorem cut_ {x y : Code} (E1 : Env) (H1 : Hp) (h1 : Tr P N x E H (subQ E1 H1)) (h2 : Tr P N y E1 H1 Q) : Tr P N x E H (then_ (fun E H => Tr P N y E H Q) Q) := by
  refine h1.conseq fun e E' H' hq => ?_
  obtain ⟨rfl, h3, h4⟩ := hq
  exact h2.sub h3 h4
end
attribute [irreducible] TrX TrI
end Go.Av

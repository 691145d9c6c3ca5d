import Derived.Test.YtckngipgcnhfpaaLa
set_option maxHeartbeats 4000000
set_option maxRecDepth 100000
set_option linter.unusedVariables false
set_option linter.unusedSimpArgs false
namespace Go.Av
open Go Go.Proofs
/-- is a value of api.Int in normal form? -/
def vldB (neg : Bool) (l : List Int) : Bool := decide (l.length ≤ 512) && (if l.length = 0 then !neg else decide (rd l (l.length - 1) ≠ 0))
theorem vld_iv {z : Int} (h : ln z.natAbs ≤ 512) : vldB (decide (z < 0)) (limbs z.natAbs) = true := by
  unfold vldB
  rw [limbs_length, decide_eq_true h, Bool.true_and]
  split
  · rename_i h0
    have : ¬ 0 < z.natAbs := fun h1 => by have := ln_pos.2 h1; omega
    simp; omega
  · rename_i h0
    have h1 := top_ne (n := z.natAbs) (ln_pos.1 (by omega))
    rw [rd_limbs _ (by omega), show ((ln z.natAbs : Int) - 1).toNat = ln z.natAbs - 1 by omega]
    simp; omega
theorem iv_vld {neg : Bool} {l : List Int} (hw : wf l) (h : vldB neg l = true) : AV neg l = IV (sgn neg (val l)) ∧ ln (sgn neg (val l)).natAbs ≤ 512 := by
  unfold vldB at h
  rw [Bool.and_eq_true, decide_eq_true_eq] at h
  obtain ⟨h1, h2⟩ := h
  have hlim : limbs (val l) = l := by
    refine limbs_val hw ?_
    split at h2
    · rename_i h0; exact .inl (List.eq_nil_of_length_eq_zero h0)
    · rename_i h0
      rw [decide_eq_true_eq] at h2
      right
      unfold rd at h2
      rwa [show ((l.length : Int) - 1).toNat = l.length - 1 by omega] at h2
  have hln : ln (val l) = l.length := by rw [← limbs_length, hlim]
  refine ⟨?_, by rw [sgn_abs, hln]; exact h1⟩
  unfold IV AV M
  rw [sgn_abs, hlim, sgn_neg]
  congr 3
  cases neg with
  | false => rfl
  | true =>
    have : 0 < val l := by
      split at h2
      · simp at h2
      · rename_i h0; exact ln_pos.1 (by omega)
    simp [this]

theorem Valid_c (neg : Bool) (l : List Int) : Con Try.prog 29 [AV neg l] (Bo (vldB neg l)) := by
  refine con_of Try.func29 rfl rfl rfl rfl rfl ?_
  refine len_Ca (i := 0) rfl (fun hL => ?_)
  by_cases h1 : l.length ≤ 512
  · by_cases h0 : l.length = 0
    · have e : vldB neg l = !neg := by unfold vldB; rw [decide_eq_true h1, if_pos h0]; rfl
      rw [e]
      have h2 : ¬ (0 : Int) < l.length := by omega
      cases neg <;> (
      repeat (first | refine seq_ ?_ | refine region_ ?_ | refine nil_ ?_ | refine ret_ ?_ | refine guard_t rfl rfl rfl ?_ | refine guard_f rfl rfl rfl rfl ?_ | refine guard_u rfl rfl rfl ?_ | refine stepY (y_move rfl) rfl ?_ | refine stepY (y_assign rfl) rfl ?_ | refine stepY (y_load1 rfl rfl rfl) rfl ?_ | refine stepY (y_fieldAddr rfl) rfl ?_ | refine stepY (y_len_si rfl) rfl ?_ | refine stepY (y_not rfl) rfl ?_ | (first | refine stepY (y_pick_t rfl rfl) rfl ?_ | refine stepY (y_pick_f rfl rfl) rfl ?_) | refine stepY (y_cmpT rfl rfl rfl (by omega)) rfl ?_ | refine stepY (y_cmpT rfl rfl rfl (by omega)) rfl ?_ | refine stepY (y_cmpF rfl rfl rfl (by omega)) rfl ?_ | refine stepE (e_box rfl rfl rfl rfl rfl rfl) ?_)
      ((apply fin_r); (repeat (first | exact .nil | exact .tmp rfl | apply ResL.cons)); (repeat (exact .refl _))))
    · by_cases h3 : rd l ((l.length : Int) - 1) = 0
      · have e : vldB neg l = false := by unfold vldB; rw [decide_eq_true h1, if_neg h0, decide_eq_false (by simpa using h3)]; rfl
        rw [e]
        repeat (first | refine seq_ ?_ | refine region_ ?_ | refine nil_ ?_ | refine ret_ ?_ | refine guard_t rfl rfl rfl ?_ | refine guard_f rfl rfl rfl rfl ?_ | refine stepY (y_move rfl) rfl ?_ | refine stepY (y_assign rfl) rfl ?_ | (first | refine stepY (y_load1 rfl rfl rfl) rfl ?_ | refine stepY (y_load_rc1 rfl rfl) rfl ?_) | refine stepY (y_fieldAddr rfl) rfl ?_ | refine stepY (y_len_si rfl) rfl ?_ | (first | refine stepY (y_pick_t rfl rfl) rfl ?_ | refine stepY (y_pick_f rfl rfl) rfl ?_) | refine stepY (y_index_si rfl rfl (by omega) (by omega)) rfl ?_ | refine stepY (y_binn rfl rfl rfl (by simp only [InK, loK, hiK]; omega)) rfl ?_ | refine stepY (y_cmpF rfl rfl rfl (by omega)) rfl ?_ | refine stepY (y_cmpF rfl rfl rfl (by omega)) rfl ?_ | refine stepY (y_cmpT rfl rfl rfl (by omega)) rfl ?_ | refine stepY (y_cmpT rfl rfl rfl (by omega)) rfl ?_ | refine stepE (e_box rfl rfl rfl rfl rfl rfl) ?_)
        ((apply fin_r); (repeat (first | exact .nil | exact .tmp rfl | apply ResL.cons)); (repeat (exact .refl _)))
      · have e : vldB neg l = true := by unfold vldB; rw [decide_eq_true h1, if_neg h0, decide_eq_true h3]; rfl
        rw [e]
        repeat (first | refine seq_ ?_ | refine region_ ?_ | refine nil_ ?_ | refine ret_ ?_ | refine guard_t rfl rfl rfl ?_ | refine guard_f rfl rfl rfl rfl ?_ | refine stepY (y_move rfl) rfl ?_ | refine stepY (y_assign rfl) rfl ?_ | (first | refine stepY (y_load1 rfl rfl rfl) rfl ?_ | refine stepY (y_load_rc1 rfl rfl) rfl ?_) | refine stepY (y_fieldAddr rfl) rfl ?_ | refine stepY (y_len_si rfl) rfl ?_ | (first | refine stepY (y_pick_t rfl rfl) rfl ?_ | refine stepY (y_pick_f rfl rfl) rfl ?_) | refine stepY (y_index_si rfl rfl (by omega) (by omega)) rfl ?_ | refine stepY (y_binn rfl rfl rfl (by simp only [InK, loK, hiK]; omega)) rfl ?_ | refine stepY (y_cmpF rfl rfl rfl (by omega)) rfl ?_ | refine stepY (y_cmpT rfl rfl rfl (by omega)) rfl ?_ | refine stepY (y_cmpT rfl rfl rfl (by omega)) rfl ?_ | refine stepY (y_cmpT rfl rfl rfl (by omega)) rfl ?_ | refine stepE (e_box rfl rfl rfl rfl rfl rfl) ?_)
        ((apply fin_r); (repeat (first | exact .nil | exact .tmp rfl | apply ResL.cons)); (repeat (exact .refl _)))
  · have e : vldB neg l = false := by unfold vldB; rw [decide_eq_false h1]; rfl
    rw [e]
    repeat (first | refine seq_ ?_ | refine region_ ?_ | refine nil_ ?_ | refine ret_ ?_ | refine guard_f rfl rfl rfl rfl ?_ | refine guard_u rfl rfl rfl ?_ | refine stepY (y_move rfl) rfl ?_ | refine stepY (y_assign rfl) rfl ?_ | refine stepY (y_load1 rfl rfl rfl) rfl ?_ | refine stepY (y_fieldAddr rfl) rfl ?_ | refine stepY (y_len_si rfl) rfl ?_ | refine stepY (y_pick_f rfl rfl) rfl ?_ | refine stepY (y_cmpF rfl rfl rfl (by omega)) rfl ?_ | refine stepE (e_box rfl rfl rfl rfl rfl rfl) ?_)
    ((apply fin_r); (repeat (first | exact .nil | exact .tmp rfl | apply ResL.cons)); (repeat (exact .refl _)))
theorem RValid_c (neg : Bool) (l : List Int) : Con Try.prog 33 [AV neg l] (Bo (vldB neg l)) := by
  refine con_of Try.func33 rfl rfl rfl rfl rfl ?_
  refine len_Ca (i := 0) rfl (fun hL => ?_)
  by_cases h1 : l.length ≤ 512
  · by_cases h0 : l.length = 0
    · have e : vldB neg l = !neg := by unfold vldB; rw [decide_eq_true h1, if_pos h0]; rfl
      rw [e]
      have h2 : ¬ (0 : Int) < l.length := by omega
      cases neg <;> (
      repeat (first | refine seq_ ?_ | refine region_ ?_ | refine nil_ ?_ | refine ret_ ?_ | refine cond_t rfl ?_ | refine stepY (y_move rfl) rfl ?_ | refine stepY (y_assign rfl) rfl ?_ | refine stepY (y_load1 rfl rfl rfl) rfl ?_ | refine stepY (y_fieldAddr rfl) rfl ?_ | refine stepY (y_len_si rfl) rfl ?_ | refine stepY (y_not rfl) rfl ?_ | refine stepY (y_cmpT rfl rfl rfl (by omega)) rfl ?_ | refine stepE (e_box rfl rfl rfl rfl rfl rfl) ?_)
      ((apply fin_r); (repeat (first | exact .nil | exact .tmp rfl | apply ResL.cons)); (repeat (exact .refl _))))
    · by_cases h3 : rd l ((l.length : Int) - 1) = 0
      · have e : vldB neg l = false := by unfold vldB; rw [decide_eq_true h1, if_neg h0, decide_eq_false (by simpa using h3)]; rfl
        rw [e]
        repeat (first | refine seq_ ?_ | refine region_ ?_ | refine nil_ ?_ | refine skip_ ?_ | refine ret_ ?_ | refine cond_f rfl ?_ | refine guard_t rfl rfl rfl ?_ | refine stepY (y_move rfl) rfl ?_ | refine stepY (y_assign rfl) rfl ?_ | (first | refine stepY (y_load1 rfl rfl rfl) rfl ?_ | refine stepY (y_load_rc1 rfl rfl) rfl ?_) | refine stepY (y_fieldAddr rfl) rfl ?_ | refine stepY (y_len_si rfl) rfl ?_ | refine stepY (y_pick_t rfl rfl) rfl ?_ | refine stepY (y_index_si rfl rfl (by omega) (by omega)) rfl ?_ | refine stepY (y_binn rfl rfl rfl (by simp only [InK, loK, hiK]; omega)) rfl ?_ | refine stepY (y_cmpF rfl rfl rfl (by omega)) rfl ?_ | refine stepY (y_cmpF rfl rfl rfl (by omega)) rfl ?_ | refine stepY (y_cmpT rfl rfl rfl (by omega)) rfl ?_ | refine stepE (e_box rfl rfl rfl rfl rfl rfl) ?_)
        ((apply fin_r); (repeat (first | exact .nil | exact .tmp rfl | apply ResL.cons)); (repeat (exact .refl _)))
      · have e : vldB neg l = true := by unfold vldB; rw [decide_eq_true h1, if_neg h0, decide_eq_true h3]; rfl
        rw [e]
        repeat (first | refine seq_ ?_ | refine region_ ?_ | refine nil_ ?_ | refine skip_ ?_ | refine ret_ ?_ | refine cond_f rfl ?_ | refine guard_t rfl rfl rfl ?_ | refine stepY (y_move rfl) rfl ?_ | refine stepY (y_assign rfl) rfl ?_ | (first | refine stepY (y_load1 rfl rfl rfl) rfl ?_ | refine stepY (y_load_rc1 rfl rfl) rfl ?_) | refine stepY (y_fieldAddr rfl) rfl ?_ | refine stepY (y_len_si rfl) rfl ?_ | refine stepY (y_pick_t rfl rfl) rfl ?_ | refine stepY (y_index_si rfl rfl (by omega) (by omega)) rfl ?_ | refine stepY (y_binn rfl rfl rfl (by simp only [InK, loK, hiK]; omega)) rfl ?_ | refine stepY (y_cmpF rfl rfl rfl (by omega)) rfl ?_ | refine stepY (y_cmpT rfl rfl rfl (by omega)) rfl ?_ | refine stepY (y_cmpT rfl rfl rfl (by omega)) rfl ?_ | refine stepE (e_box rfl rfl rfl rfl rfl rfl) ?_)
        ((apply fin_r); (repeat (first | exact .nil | exact .tmp rfl | apply ResL.cons)); (repeat (exact .refl _)))
  · have e : vldB neg l = false := by unfold vldB; rw [decide_eq_false h1]; rfl
    rw [e]
    repeat (first | refine seq_ ?_ | refine region_ ?_ | refine nil_ ?_ | refine skip_ ?_ | refine ret_ ?_ | refine cond_f rfl ?_ | refine guard_f rfl rfl rfl rfl ?_ | refine stepY (y_move rfl) rfl ?_ | refine stepY (y_assign rfl) rfl ?_ | refine stepY (y_load1 rfl rfl rfl) rfl ?_ | refine stepY (y_fieldAddr rfl) rfl ?_ | refine stepY (y_len_si rfl) rfl ?_ | refine stepY (y_pick_f rfl rfl) rfl ?_ | refine stepY (y_cmpF rfl rfl rfl (by omega)) rfl ?_ | refine stepY (y_cmpF rfl rfl rfl (by omega)) rfl ?_ | refine stepE (e_box rfl rfl rfl rfl rfl rfl) ?_)
    ((apply fin_r); (repeat (first | exact .nil | exact .tmp rfl | apply ResL.cons)); (repeat (exact .refl _)))
theorem Valid_t {z : Int} (h : ln z.natAbs ≤ 512) : Con Try.prog 29 [IV z] (Bo true) := by
  have := Valid_c (decide (z < 0)) (limbs z.natAbs); rwa [vld_iv h] at this
theorem RValid_t {z : Int} (h : ln z.natAbs ≤ 512) : Con Try.prog 33 [IV z] (Bo true) := by
  have := RValid_c (decide (z < 0)) (limbs z.natAbs); rwa [vld_iv h] at this
end Go.Av

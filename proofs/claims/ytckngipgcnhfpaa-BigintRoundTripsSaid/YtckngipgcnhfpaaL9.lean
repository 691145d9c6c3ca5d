import Derived.Test.YtckngipgcnhfpaaL8
set_option maxHeartbeats 4000000
set_option maxRecDepth 100000
set_option linter.unusedVariables false
set_option linter.unusedSimpArgs false
namespace Go.Av
open Go Go.Proofs
/-- a whole number with a sign -/
def sgn (neg : Bool) (n : Nat) : Int := if neg then -(n : Int) else n
theorem sgn_abs (neg : Bool) (n : Nat) : (sgn neg n).natAbs = n := by unfold sgn; split <;> omega
theorem sgn_neg (neg : Bool) (n : Nat) : decide (sgn neg n < 0) = (neg && decide (0 < n)) := by
  unfold sgn; cases neg <;> simp <;> omega
theorem sgn_zero (neg : Bool) : sgn neg 0 = 0 := by unfold sgn; split <;> rfl
abbrev AV (neg : Bool) (l : List Int) : PV := .ag [Bo neg, Li l]
abbrev IV (z : Int) : PV := .ag [Bo (decide (z < 0)), M z.natAbs]
abbrev FIV (z : Int) : PV := .ag [Bo (decide (z < 0)), FM z.natAbs]
abbrev E_ (n : Int) : PV := .v (.int .i64 n)
theorem FIV_pos (n : Nat) : FIV (n : Int) = .ag [Bo false, FM n] := by
  unfold FIV; rw [Int.natAbs_natCast, show decide ((n : Int) < 0) = false from decide_eq_false (by omega)]
theorem FIV_neg {n : Nat} (h : 0 < n) : FIV (-(n : Int)) = .ag [Bo true, FM n] := by
  unfold FIV; rw [Int.natAbs_neg, Int.natAbs_natCast, show decide (-(n : Int) < 0) = true from decide_eq_true (by omega)]
/-- what is returned if the result is not too long -/
def resI (z : Int) : PV := if ln z.natAbs ≤ 512 then .tp [FIV z, E_ 0] else .tp [FIV 0, E_ 4]

/-! slices.Clone -/
theorem Clone_c (l : List Int) (hl : l.length < 4294967296) : Con Try.prog 89 [Li l] (FLi l) := by
  refine con_of Try.func89 rfl rfl rfl rfl rfl ?_
  by_cases h : 0 < l.length
  · repeat (first | refine seq_ ?_ | refine region_ ?_ | refine nil_ ?_ | refine stepY (y_move rfl) rfl ?_ | refine stepY (y_assign rfl) rfl ?_)
    refine stepY (y_nil_ne rfl h) rfl ?_
    repeat (first | refine seq_ ?_ | refine region_ ?_ | refine nil_ ?_ | refine skip_ ?_ | refine cond_f rfl ?_ | refine stepY (y_move rfl) rfl ?_ | refine stepE (e_bs_vi (k := .u32) rfl rfl rfl rfl rfl) ?_)
    refine stepE (e_app_vi rfl rfl rfl (src_si rfl) (by simp only [List.length_nil]; omega) rfl rfl) ?_
    repeat (first | refine nil_ ?_ | refine ret_ ?_ | refine stepY (y_assign rfl) rfl ?_)
    rw [List.nil_append]
    ((apply fin_r); (repeat (first | exact .nil | exact .vi rfl rfl rfl | apply ResL.cons)); (repeat (exact .refl _)))
  · obtain rfl : l = [] := List.eq_nil_of_length_eq_zero (by omega)
    repeat (first | refine seq_ ?_ | refine region_ ?_ | refine nil_ ?_ | refine stepY (y_move rfl) rfl ?_ | refine stepY (y_assign rfl) rfl ?_)
    refine stepNil rfl rfl (fun b => ?_)
    cases b
    · repeat (first | refine seq_ ?_ | refine region_ ?_ | refine nil_ ?_ | refine skip_ ?_ | refine cond_f rfl ?_ | refine stepY (y_move rfl) rfl ?_ | refine stepE (e_bs_vi (k := .u32) rfl rfl rfl rfl rfl) ?_)
      refine stepE (e_app_vi rfl rfl rfl (src_si rfl) (by simp) rfl rfl) ?_
      repeat (first | refine nil_ ?_ | refine ret_ ?_ | refine stepY (y_assign rfl) rfl ?_)
      ((apply fin_r); (repeat (first | exact .nil | exact .vi rfl rfl rfl | apply ResL.cons)); (repeat (exact .refl _)))
    · repeat (first | refine seq_ ?_ | refine region_ ?_ | refine nil_ ?_ | refine ret_ ?_ | refine cond_t rfl ?_ | refine stepY (y_assign rfl) rfl ?_)
      ((apply fin_r); (repeat (first | exact .nil | exact .tmp rfl | apply ResL.cons)); (repeat (exact .nil _ _)))

/-! bigint.made, bigint.result -/
theorem made_c (neg : Bool) (l : List Int) (hw : wf l) (hl : l.length < 4294967296) : Con Try.prog 54 [Bo neg, Li l] (FIV (sgn neg (val l))) := by
  refine con_of Try.func54 rfl rfl rfl rfl rfl ?_
  have ht := Trim_c l hw
  have hlv : ln (val l) < 4294967296 := by have := ln_le.2 (val_lt hw); omega
  have hc := Clone_c (limbs (val l)) (by rw [limbs_length]; exact hlv)
  cases neg with
  | false =>
    repeat (first | refine seq_ ?_ | refine region_ ?_ | refine nil_ ?_ | refine stepY (y_move rfl) rfl ?_ | refine stepE (e_alloc rfl rfl rfl) ?_)
    refine call_ Try.func79 rfl rfl ht rfl (by repeat (first | exact .refl _ | apply Les.cons | exact .nil)) rfl ?_
    refine call_ Try.func89 rfl rfl hc rfl (by repeat (first | exact .refl _ | apply Les.cons | exact .nil)) rfl ?_
    repeat (first | refine seq_ ?_ | refine region_ ?_ | refine nil_ ?_ | refine ret_ ?_ | refine guard_f rfl rfl rfl rfl ?_ | refine stepY (y_move rfl) rfl ?_ | refine stepY (y_assign rfl) rfl ?_ | refine stepY (y_pick_f rfl rfl) rfl ?_ | refine stepY (y_build rfl rfl rfl) rfl ?_ | refine stepE (e_store rfl rfl rfl rfl rfl rfl rfl) ?_)
    have e : sgn false (val l) = (val l : Int) := rfl
    rw [e, FIV_pos]
    ((apply fin_r); (repeat (first | exact .nil | exact .agg rfl rfl rfl | apply ResL.cons)); (repeat (exact .refl _)))
  | true =>
    by_cases h0 : 0 < val l
    · have h1 : (0 : Int) < ((limbs (val l)).length : Int) := by rw [limbs_length]; have := ln_pos.2 h0; omega
      repeat (first | refine seq_ ?_ | refine region_ ?_ | refine nil_ ?_ | refine stepY (y_move rfl) rfl ?_ | refine stepE (e_alloc rfl rfl rfl) ?_)
      refine call_ Try.func79 rfl rfl ht rfl (by repeat (first | exact .refl _ | apply Les.cons | exact .nil)) rfl ?_
      refine call_ Try.func89 rfl rfl hc rfl (by repeat (first | exact .refl _ | apply Les.cons | exact .nil)) rfl ?_
      repeat (first | refine seq_ ?_ | refine region_ ?_ | refine nil_ ?_ | refine ret_ ?_ | refine guard_t rfl rfl rfl ?_ | refine stepY (y_move rfl) rfl ?_ | refine stepY (y_assign rfl) rfl ?_ | refine stepY (y_len_si rfl) rfl ?_ | refine stepY (y_pick_t rfl rfl) rfl ?_ | refine stepY (y_build rfl rfl rfl) rfl ?_ | refine stepY (y_cmpT rfl rfl rfl (by omega)) rfl ?_ | refine stepE (e_store rfl rfl rfl rfl rfl rfl rfl) ?_)
      have e : sgn true (val l) = -(val l : Int) := rfl
      rw [e, FIV_neg h0]
      ((apply fin_r); (repeat (first | exact .nil | exact .agg rfl rfl rfl | apply ResL.cons)); (repeat (exact .refl _)))
    · have h2 : val l = 0 := by omega
      rw [h2] at ht hc ⊢
      have h1 : ¬ (0 : Int) < ((limbs 0).length : Int) := by decide
      repeat (first | refine seq_ ?_ | refine region_ ?_ | refine nil_ ?_ | refine stepY (y_move rfl) rfl ?_ | refine stepE (e_alloc rfl rfl rfl) ?_)
      refine call_ Try.func79 rfl rfl ht rfl (by repeat (first | exact .refl _ | apply Les.cons | exact .nil)) rfl ?_
      refine call_ Try.func89 rfl rfl hc rfl (by repeat (first | exact .refl _ | apply Les.cons | exact .nil)) rfl ?_
      repeat (first | refine seq_ ?_ | refine region_ ?_ | refine nil_ ?_ | refine ret_ ?_ | refine guard_t rfl rfl rfl ?_ | refine stepY (y_move rfl) rfl ?_ | refine stepY (y_assign rfl) rfl ?_ | refine stepY (y_len_si rfl) rfl ?_ | refine stepY (y_pick_t rfl rfl) rfl ?_ | refine stepY (y_build rfl rfl rfl) rfl ?_ | refine stepY (y_cmpF rfl rfl rfl (by omega)) rfl ?_ | refine stepE (e_store rfl rfl rfl rfl rfl rfl rfl) ?_)
      ((apply fin_r); (repeat (first | exact .nil | exact .agg rfl rfl rfl | apply ResL.cons)); (repeat (exact .refl _)))

theorem resI_ok {z : Int} (h : ln z.natAbs ≤ 512) : resI z = .tp [FIV z, E_ 0] := by unfold resI; rw [if_pos h]
theorem resI_no {z : Int} (h : ¬ ln z.natAbs ≤ 512) : resI z = .tp [FIV 0, E_ 4] := by unfold resI; rw [if_neg h]
theorem result_c (neg : Bool) (l : List Int) (hw : wf l) (hl : l.length < 4294967296) : Con Try.prog 70 [Bo neg, Li l] (resI (sgn neg (val l))) := by
  refine con_of Try.func70 rfl rfl rfl rfl rfl ?_
  have hm := made_c neg l hw hl
  have hlen : ((limbs (sgn neg (val l)).natAbs).length : Int) = ln (sgn neg (val l)).natAbs := by rw [limbs_length]
  generalize sgn neg (val l) = z at *
  by_cases h : ln z.natAbs ≤ 512
  · rw [resI_ok h]
    repeat (first | refine seq_ ?_ | refine region_ ?_ | refine nil_ ?_ | refine stepY (y_move rfl) rfl ?_ | refine stepY (y_assign rfl) rfl ?_ | refine stepE (e_alloc rfl rfl rfl) ?_)
    refine call_ Try.func54 rfl rfl hm rfl (by repeat (first | exact .refl _ | apply Les.cons | exact .nil)) rfl ?_
    repeat (first | refine seq_ ?_ | refine region_ ?_ | refine nil_ ?_ | refine skip_ ?_ | refine ret_ ?_ | refine cond_f rfl ?_ | refine stepY (y_assign rfl) rfl ?_ | (first | refine stepY (y_load1 rfl rfl rfl) rfl ?_ | refine stepY (y_loadA rfl rfl rfl) rfl ?_) | refine stepY (y_fieldAddr rfl) rfl ?_ | refine stepY (y_len_si rfl) rfl ?_ | refine stepY (y_cmpF rfl rfl rfl (by omega)) rfl ?_ | refine stepE (e_alloc rfl rfl rfl) ?_ | refine stepE (e_store rfl rfl rfl rfl rfl rfl rfl) ?_)
    ((apply fin_r); (repeat (first | exact .nil | exact .tmp rfl | exact .agg rfl rfl rfl | apply ResL.cons)); (repeat (exact .refl _)))
  · rw [resI_no h]
    repeat (first | refine seq_ ?_ | refine region_ ?_ | refine nil_ ?_ | refine stepY (y_move rfl) rfl ?_ | refine stepY (y_assign rfl) rfl ?_ | refine stepE (e_alloc rfl rfl rfl) ?_)
    refine call_ Try.func54 rfl rfl hm rfl (by repeat (first | exact .refl _ | apply Les.cons | exact .nil)) rfl ?_
    repeat (first | refine seq_ ?_ | refine region_ ?_ | refine nil_ ?_ | refine ret_ ?_ | refine cond_t rfl ?_ | refine stepY (y_assign rfl) rfl ?_ | refine stepY (y_load1 rfl rfl rfl) rfl ?_ | refine stepY (y_fieldAddr rfl) rfl ?_ | refine stepY (y_len_si rfl) rfl ?_ | refine stepY (y_build rfl rfl rfl) rfl ?_ | refine stepY (y_cmpT rfl rfl rfl (by omega)) rfl ?_ | refine stepE (e_alloc rfl rfl rfl) ?_ | refine stepE (e_store rfl rfl rfl rfl rfl rfl rfl) ?_)
    ((apply fin_r); (repeat (first | exact .nil | exact .tmp rfl | exact .agg rfl rfl rfl | apply ResL.cons)); (repeat (first | exact .refl _ | exact .nil _ _ | apply Le.ag | apply Le.tp | apply Les.cons | exact .nil)))

/-! barscanref02.Trim, signed, limit -/
theorem RTrim_c (l : List Int) (hw : wf l) (hl : l.length < 4294967296) : Con Try.prog 91 [Li l] (FM (val l)) := by
  refine con_of Try.func91 rfl rfl rfl rfl rfl ?_
  repeat (first | refine seq_ ?_ | refine region_ ?_ | refine nil_ ?_ | refine block_ ?_ | refine stepY (y_move rfl) rfl ?_ | refine stepY (y_assign rfl) rfl ?_ | refine stepY (y_len_si rfl) rfl ?_)
  refine loop_ (α := Nat) (fun k => ([(0, .p (Li l)), (3, .p (I k))], [])) (fun k => k ≤ l.length ∧ val (l.take k) = val l) id l.length ⟨Nat.le_refl _, by simp⟩ ?_ ?_ ?_
  · (repeat (first | exact sub_nil | refine sub_cons rfl ?_))
  · (repeat (exact subH_nil))
  intro k ⟨hk, hv⟩
  have hlen : (l.take k).length = k := by simp; omega
  have hwk : wf (l.take k) := fun x hx => hw x (List.mem_of_mem_take hx)
  have hfin : (k = 0 ∨ rd l ((k : Int) - 1) ≠ 0) → FM (val l) = FLi (l.take k) := by
    intro h
    unfold FM
    rw [← hv, limbs_val hwk]
    rcases h with h | h
    · subst h; exact .inl rfl
    · by_cases h0 : k = 0
      · subst h0; exact .inl rfl
      · right
        rw [hlen, List.getD_eq_getElem?_getD, List.getElem?_take_of_lt (by omega), ← List.getD_eq_getElem?_getD]
        unfold rd at h
        rwa [show ((k : Int) - 1).toNat = k - 1 by omega] at h
  by_cases h0 : (0 : Int) < (k : Int)
  · by_cases h1 : rd l ((k : Int) - 1) = 0
    · repeat (first | refine seq_ ?_ | refine region_ ?_ | refine nil_ ?_ | refine skip_ ?_ | refine block_ ?_ | refine cond_t rfl ?_ | refine guard_t rfl rfl rfl ?_ | refine stepY (y_move rfl) rfl ?_ | refine stepY (y_assign rfl) rfl ?_ | refine stepY (y_load_rc1 rfl rfl) rfl ?_ | refine stepY (y_pick_t rfl rfl) rfl ?_ | refine stepY (y_index_si rfl rfl (by omega) (by omega)) rfl ?_ | refine stepY (y_binn rfl rfl rfl (by simp only [InK, loK, hiK]; omega)) rfl ?_ | refine stepY (y_cmpT rfl rfl rfl (by omega)) rfl ?_ | refine stepY (y_cmpT rfl rfl rfl (by omega)) rfl ?_)
      obtain ⟨j, rfl⟩ : ∃ j, k = j + 1 := ⟨k - 1, by omega⟩
      refine ⟨j, ⟨by omega, ?_⟩, Nat.lt_succ_self j, ?_, ?_⟩
      · rw [← hv, List.take_add_one, val_append, List.getElem?_eq_getElem (by omega)]
        unfold rd at h1
        rw [show (((j + 1 : Nat) : Int) - 1).toNat = j by omega, List.getD_eq_getElem?_getD, List.getElem?_eq_getElem (by omega)] at h1
        simp only [Option.getD_some] at h1
        simp [h1, val]
      · (repeat (first | exact sub_nil | refine sub_cons rfl ?_ | refine sub_conse rfl (by (congr 3; omega)) ?_))
      · (repeat (exact subH_nil))
    · rw [hfin (.inr h1)]
      have ht : (l.take k).length ≤ 4294967296 := by omega
      repeat (first | refine seq_ ?_ | refine region_ ?_ | refine nil_ ?_ | refine exit_ ?_ | refine cond_f rfl ?_ | refine guard_t rfl rfl rfl ?_ | refine stepY (y_move rfl) rfl ?_ | refine stepY (y_load_rc1 rfl rfl) rfl ?_ | refine stepY (y_pick_t rfl rfl) rfl ?_ | refine stepY (y_index_si rfl rfl (by omega) (by omega)) rfl ?_ | refine stepY (y_slice_si_h rfl rfl (by omega) (by omega)) rfl ?_ | refine stepY (y_binn rfl rfl rfl (by simp only [InK, loK, hiK]; omega)) rfl ?_ | refine stepY (y_cmpF rfl rfl rfl (by omega)) rfl ?_ | refine stepY (y_cmpT rfl rfl rfl (by omega)) rfl ?_ | refine stepE (e_bs_vi (k := .u32) rfl rfl rfl rfl rfl) ?_)
      rw [Int.toNat_natCast]
      refine stepE (e_app_vi rfl rfl rfl (src_si rfl) (by simp only [List.length_nil]; omega) rfl rfl) ?_
      repeat (first | refine nil_ ?_ | refine ret_ ?_ | refine stepY (y_assign rfl) rfl ?_)
      rw [List.nil_append]
      ((apply fin_r); (repeat (first | exact .nil | exact .vi rfl rfl rfl | apply ResL.cons)); (repeat (exact .refl _)))
  · rw [hfin (.inl (by omega))]
    have ht : (l.take k).length ≤ 4294967296 := by omega
    repeat (first | refine seq_ ?_ | refine region_ ?_ | refine nil_ ?_ | refine exit_ ?_ | refine cond_f rfl ?_ | refine guard_f rfl rfl rfl rfl ?_ | refine stepY (y_move rfl) rfl ?_ | refine stepY (y_pick_f rfl rfl) rfl ?_ | refine stepY (y_slice_si_h rfl rfl (by omega) (by omega)) rfl ?_ | refine stepY (y_cmpF rfl rfl rfl (by omega)) rfl ?_ | refine stepE (e_bs_vi (k := .u32) rfl rfl rfl rfl rfl) ?_)
    rw [Int.toNat_natCast]
    refine stepE (e_app_vi rfl rfl rfl (src_si rfl) (by simp only [List.length_nil]; omega) rfl rfl) ?_
    repeat (first | refine nil_ ?_ | refine ret_ ?_ | refine stepY (y_assign rfl) rfl ?_)
    rw [List.nil_append]
    ((apply fin_r); (repeat (first | exact .nil | exact .vi rfl rfl rfl | apply ResL.cons)); (repeat (exact .refl _)))
theorem signed_c (neg : Bool) (l : List Int) (hw : wf l) (hl : l.length < 4294967296) : Con Try.prog 56 [Bo neg, Li l] (FIV (sgn neg (val l))) := by
  refine con_of Try.func56 rfl rfl rfl rfl rfl ?_
  have ht := RTrim_c l hw hl
  have hc := ht
  cases neg with
  | false =>
    repeat (first | refine seq_ ?_ | refine region_ ?_ | refine nil_ ?_ | refine stepY (y_move rfl) rfl ?_ | refine stepE (e_alloc rfl rfl rfl) ?_)
    refine call_ Try.func91 rfl rfl ht rfl (by repeat (first | exact .refl _ | apply Les.cons | exact .nil)) rfl ?_
    repeat (first | refine seq_ ?_ | refine region_ ?_ | refine nil_ ?_ | refine ret_ ?_ | refine guard_f rfl rfl rfl rfl ?_ | refine stepY (y_move rfl) rfl ?_ | refine stepY (y_assign rfl) rfl ?_ | refine stepY (y_pick_f rfl rfl) rfl ?_ | refine stepY (y_build rfl rfl rfl) rfl ?_ | refine stepE (e_store rfl rfl rfl rfl rfl rfl rfl) ?_)
    have e : sgn false (val l) = (val l : Int) := rfl
    rw [e, FIV_pos]
    ((apply fin_r); (repeat (first | exact .nil | exact .agg rfl rfl rfl | apply ResL.cons)); (repeat (exact .refl _)))
  | true =>
    by_cases h0 : 0 < val l
    · have h1 : (0 : Int) < ((limbs (val l)).length : Int) := by rw [limbs_length]; have := ln_pos.2 h0; omega
      repeat (first | refine seq_ ?_ | refine region_ ?_ | refine nil_ ?_ | refine stepY (y_move rfl) rfl ?_ | refine stepE (e_alloc rfl rfl rfl) ?_)
      refine call_ Try.func91 rfl rfl ht rfl (by repeat (first | exact .refl _ | apply Les.cons | exact .nil)) rfl ?_
      repeat (first | refine seq_ ?_ | refine region_ ?_ | refine nil_ ?_ | refine ret_ ?_ | refine guard_t rfl rfl rfl ?_ | refine stepY (y_move rfl) rfl ?_ | refine stepY (y_assign rfl) rfl ?_ | refine stepY (y_len_si rfl) rfl ?_ | refine stepY (y_pick_t rfl rfl) rfl ?_ | refine stepY (y_build rfl rfl rfl) rfl ?_ | refine stepY (y_cmpT rfl rfl rfl (by omega)) rfl ?_ | refine stepE (e_store rfl rfl rfl rfl rfl rfl rfl) ?_)
      have e : sgn true (val l) = -(val l : Int) := rfl
      rw [e, FIV_neg h0]
      ((apply fin_r); (repeat (first | exact .nil | exact .agg rfl rfl rfl | apply ResL.cons)); (repeat (exact .refl _)))
    · have h2 : val l = 0 := by omega
      rw [h2] at ht hc ⊢
      have h1 : ¬ (0 : Int) < ((limbs 0).length : Int) := by decide
      repeat (first | refine seq_ ?_ | refine region_ ?_ | refine nil_ ?_ | refine stepY (y_move rfl) rfl ?_ | refine stepE (e_alloc rfl rfl rfl) ?_)
      refine call_ Try.func91 rfl rfl ht rfl (by repeat (first | exact .refl _ | apply Les.cons | exact .nil)) rfl ?_
      repeat (first | refine seq_ ?_ | refine region_ ?_ | refine nil_ ?_ | refine ret_ ?_ | refine guard_t rfl rfl rfl ?_ | refine stepY (y_move rfl) rfl ?_ | refine stepY (y_assign rfl) rfl ?_ | refine stepY (y_len_si rfl) rfl ?_ | refine stepY (y_pick_t rfl rfl) rfl ?_ | refine stepY (y_build rfl rfl rfl) rfl ?_ | refine stepY (y_cmpF rfl rfl rfl (by omega)) rfl ?_ | refine stepE (e_store rfl rfl rfl rfl rfl rfl rfl) ?_)
      ((apply fin_r); (repeat (first | exact .nil | exact .agg rfl rfl rfl | apply ResL.cons)); (repeat (exact .refl _)))
theorem limit_c (neg : Bool) (l : List Int) (hw : wf l) (hl : l.length < 4294967296) : Con Try.prog 71 [Bo neg, Li l] (resI (sgn neg (val l))) := by
  refine con_of Try.func71 rfl rfl rfl rfl rfl ?_
  have hm := signed_c neg l hw hl
  have hlen : ((limbs (sgn neg (val l)).natAbs).length : Int) = ln (sgn neg (val l)).natAbs := by rw [limbs_length]
  generalize sgn neg (val l) = z at *
  by_cases h : ln z.natAbs ≤ 512
  · rw [resI_ok h]
    repeat (first | refine seq_ ?_ | refine region_ ?_ | refine nil_ ?_ | refine stepY (y_move rfl) rfl ?_ | refine stepY (y_assign rfl) rfl ?_ | refine stepE (e_alloc rfl rfl rfl) ?_)
    refine call_ Try.func56 rfl rfl hm rfl (by repeat (first | exact .refl _ | apply Les.cons | exact .nil)) rfl ?_
    repeat (first | refine seq_ ?_ | refine region_ ?_ | refine nil_ ?_ | refine skip_ ?_ | refine ret_ ?_ | refine cond_f rfl ?_ | refine stepY (y_assign rfl) rfl ?_ | (first | refine stepY (y_load1 rfl rfl rfl) rfl ?_ | refine stepY (y_loadA rfl rfl rfl) rfl ?_) | refine stepY (y_fieldAddr rfl) rfl ?_ | refine stepY (y_len_si rfl) rfl ?_ | refine stepY (y_cmpF rfl rfl rfl (by omega)) rfl ?_ | refine stepE (e_alloc rfl rfl rfl) ?_ | refine stepE (e_store rfl rfl rfl rfl rfl rfl rfl) ?_)
    ((apply fin_r); (repeat (first | exact .nil | exact .tmp rfl | exact .agg rfl rfl rfl | apply ResL.cons)); (repeat (exact .refl _)))
  · rw [resI_no h]
    repeat (first | refine seq_ ?_ | refine region_ ?_ | refine nil_ ?_ | refine stepY (y_move rfl) rfl ?_ | refine stepY (y_assign rfl) rfl ?_ | refine stepE (e_alloc rfl rfl rfl) ?_)
    refine call_ Try.func56 rfl rfl hm rfl (by repeat (first | exact .refl _ | apply Les.cons | exact .nil)) rfl ?_
    repeat (first | refine seq_ ?_ | refine region_ ?_ | refine nil_ ?_ | refine ret_ ?_ | refine cond_t rfl ?_ | refine stepY (y_assign rfl) rfl ?_ | refine stepY (y_load1 rfl rfl rfl) rfl ?_ | refine stepY (y_fieldAddr rfl) rfl ?_ | refine stepY (y_len_si rfl) rfl ?_ | refine stepY (y_build rfl rfl rfl) rfl ?_ | refine stepY (y_cmpT rfl rfl rfl (by omega)) rfl ?_ | refine stepE (e_alloc rfl rfl rfl) ?_ | refine stepE (e_store rfl rfl rfl rfl rfl rfl rfl) ?_)
    ((apply fin_r); (repeat (first | exact .nil | exact .tmp rfl | exact .agg rfl rfl rfl | apply ResL.cons)); (repeat (first | exact .refl _ | exact .nil _ _ | apply Le.ag | apply Le.tp | apply Les.cons | exact .nil)))
end Go.Av

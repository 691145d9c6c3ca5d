/- Contracts of functions that the laws on fractions reach, and the plain arithmetic behind them: no conditions beyond those in each statement. -/
import Derived.Test.YtdbijjhhifegjaaGreatJ4
import Derived.Test.YtdbijjhhifegjaaGreatJ1
import Derived.Test.YtdbijjhhifegjaaGreatJ2
import Derived.Test.YtdbijjhhifegjaaGreatJ0
import Derived.Laws.RangeString
set_option maxHeartbeats 8000000
set_option exponentiation.threshold 100000
set_option maxRecDepth 100000
set_option linter.unusedVariables false
set_option linter.unusedSimpArgs false
namespace Go.Av
open Go Go.Proofs
/-! fractions: Floor, Round, Format -/
theorem dq_div (p : Bool) (m n : Nat) (hn : 0 < n) : dq p false m n = sgn p m / (n : Int) ∧ dr p false m n = sgn p m % (n : Int) := by
  have h1 := div_id p false m n hn
  have h2 := dr_ra p false m n
  have h3 := ra_lt (p := p) (q := false) (m := m) hn
  have e : sgn false n = (n : Int) := rfl
  have e2 : sgn false (ra p false m n) = ((ra p false m n : Nat) : Int) := rfl
  rw [e] at h1
  rw [e2] at h2
  have := (Int.ediv_emod_unique (a := sgn p m) (b := (n : Int)) (r := dr p false m n) (q := dq p false m n) (by omega)).2 ⟨by rw [← h1, Int.mul_comm]; omega, by omega, by omega⟩
  exact ⟨this.1.symm, this.2.symm⟩
theorem floor_num (x : Rat) : x.floor = x.num / (x.den : Int) := by
  unfold Rat.floor
  split
  · next h => rw [h]; simp
  · rfl
theorem DivMod_q (x : Rat) (hx : okQ x) : Con Tryz.prog 41 [SV (decide (x.num < 0)) x.num.natAbs, SV false x.den] (.tp [FIV x.floor, FIV ((x.num % (x.den : Int)).natAbs : Nat), E_ 0]) := by
  obtain ⟨b1, b2, b3, b4, b5, b6⟩ := vG_bd (vG_q hx)
  have := DivMod_s _ _ _ _ b5 b6 b3
  obtain ⟨e1, e2⟩ := dq_div (decide (x.num < 0)) x.num.natAbs x.den b3
  rw [e1, e2, sgn_self, ← floor_num] at this
  have h0 : 0 ≤ x.num % (x.den : Int) := Int.emod_nonneg _ (by omega)
  rwa [show (((x.num % (x.den : Int)).natAbs : Nat) : Int) = x.num % (x.den : Int) by omega]
theorem FFloor_e (p : Bool) (l : List Int) (q : Bool) (k : List Int) (hl : wf l) (hk : wf k) (h : vldF p l q k = false) : Con Tryz.prog 15 [AF p l q k] (.tp [FIV 0, E_ 1]) := by
  have hv := validS_c p l q k hl hk
  rw [h] at hv
  refine con_of Tryz.func15 rfl rfl rfl rfl rfl ?_
  repeat (first | refine seq_ ?_ | refine region_ ?_ | refine nil_ ?_ | refine stepY (y_assign rfl) rfl ?_ | refine stepY (y_loadA rfl rfl rfl) rfl ?_ | refine stepE (e_box rfl rfl rfl rfl rfl rfl) ?_ | refine stepE (e_alloc rfl rfl rfl) ?_ | refine stepE (e_bs_vs rfl rfl rfl rfl rfl rfl) ?_)
  refine seal_Ls (i := 8) (h := 8) rfl rfl rfl rfl ?_
  refine call_ Tryz.func33 rfl rfl (hv) rfl (by repeat (first | exact .tags _ _ | apply Les.cons | exact .nil)) rfl ?_
  repeat (first | refine seq_ ?_ | refine region_ ?_ | refine nil_ ?_ | refine ret_ ?_ | refine cond_t rfl ?_ | refine stepY (y_assign rfl) rfl ?_ | refine stepY (y_not rfl) rfl ?_ | refine stepY (y_build rfl rfl rfl) rfl ?_ | refine stepE (e_store rfl rfl rfl rfl rfl rfl rfl) ?_)
  ((apply fin_r); (repeat (first | exact .nil | exact .tmp rfl | exact .agg rfl rfl rfl | apply ResL.cons)); (repeat (first | exact .refl _ | exact .nil _ _ | apply Le.ag | apply Le.tp | apply Les.cons | exact .nil)))
theorem FFloor_q (x : Rat) (hx : okQ x) : Con Tryz.prog 15 [QV x] (.tp [FIV x.floor, E_ 0]) := by
  have hv := validS_t (vG_q hx)
  have hd := DivMod_q x hx
  refine con_of Tryz.func15 rfl rfl rfl rfl rfl ?_
  repeat (first | refine seq_ ?_ | refine region_ ?_ | refine nil_ ?_ | refine stepY (y_assign rfl) rfl ?_ | refine stepY (y_loadA rfl rfl rfl) rfl ?_ | refine stepE (e_box rfl rfl rfl rfl rfl rfl) ?_ | refine stepE (e_alloc rfl rfl rfl) ?_ | refine stepE (e_bs_vs rfl rfl rfl rfl rfl rfl) ?_)
  refine seal_Ls (i := 8) (h := 8) rfl rfl rfl rfl ?_
  refine call_ Tryz.func33 rfl rfl (hv) rfl (by repeat (first | exact .tags _ _ | apply Les.cons | exact .nil)) rfl ?_
  repeat (first | refine seq_ ?_ | refine region_ ?_ | refine nil_ ?_ | refine skip_ ?_ | refine cond_f rfl ?_ | refine stepY (y_loadA rfl rfl rfl) rfl ?_ | refine stepY (y_fieldAddr rfl) rfl ?_ | refine stepY (y_not rfl) rfl ?_)
  refine call_ Tryz.func41 rfl rfl (hd) rfl (by repeat (first | exact .refl _ | apply Les.cons | exact .nil)) rfl ?_
  repeat (first | refine seq_ ?_ | refine region_ ?_ | refine nil_ ?_ | refine ret_ ?_ | refine stepY (y_move rfl) rfl ?_ | refine stepY (y_assign rfl) rfl ?_ | refine stepY (y_loadA rfl rfl rfl) rfl ?_ | refine stepY (y_extract rfl rfl) rfl ?_ | refine stepE (e_alloc rfl rfl rfl) ?_ | refine stepE (e_store rfl rfl rfl rfl rfl rfl rfl) ?_)
  ((apply fin_r); (repeat (first | exact .nil | exact .tmp rfl | exact .agg rfl rfl rfl | apply ResL.cons)); (repeat (exact .refl _)))
/-- the nearest integer, halves upwards -/
def rnd (x : Rat) : Int := if 2 * (x.num % (x.den : Int)) < x.den then x.floor else x.floor + 1
theorem FRound_e (p : Bool) (l : List Int) (q : Bool) (k : List Int) (hl : wf l) (hk : wf k) (h : vldF p l q k = false) : Con Tryz.prog 16 [AF p l q k] (.tp [FIV 0, E_ 1]) := by
  have hv := validS_c p l q k hl hk
  rw [h] at hv
  refine con_of Tryz.func16 rfl rfl rfl rfl rfl ?_
  repeat (first | refine seq_ ?_ | refine region_ ?_ | refine nil_ ?_ | refine stepY (y_assign rfl) rfl ?_ | refine stepY (y_loadA rfl rfl rfl) rfl ?_ | refine stepE (e_box rfl rfl rfl rfl rfl rfl) ?_ | refine stepE (e_alloc rfl rfl rfl) ?_ | refine stepE (e_bs_vs rfl rfl rfl rfl rfl rfl) ?_)
  refine seal_Ls (i := 8) (h := 8) rfl rfl rfl rfl ?_
  refine call_ Tryz.func33 rfl rfl (hv) rfl (by repeat (first | exact .tags _ _ | apply Les.cons | exact .nil)) rfl ?_
  repeat (first | refine seq_ ?_ | refine region_ ?_ | refine nil_ ?_ | refine ret_ ?_ | refine cond_t rfl ?_ | refine stepY (y_assign rfl) rfl ?_ | refine stepY (y_not rfl) rfl ?_ | refine stepY (y_build rfl rfl rfl) rfl ?_ | refine stepE (e_store rfl rfl rfl rfl rfl rfl rfl) ?_)
  ((apply fin_r); (repeat (first | exact .nil | exact .tmp rfl | exact .agg rfl rfl rfl | apply ResL.cons)); (repeat (first | exact .refl _ | exact .nil _ _ | apply Le.ag | apply Le.tp | apply Les.cons | exact .nil)))
theorem floor_abs (x : Rat) : x.floor.natAbs ≤ x.num.natAbs := by
  rw [floor_num]
  have hd : 0 < (x.den : Int) := by have := x.den_pos; omega
  have h1 := Int.mul_ediv_add_emod x.num x.den
  have h2 := Int.emod_nonneg x.num (b := (x.den : Int)) (by omega)
  have h3 := Int.emod_lt_of_pos x.num hd
  rcases Int.lt_or_le x.num 0 with h | h
  · have h4 : x.num ≤ x.num / (x.den : Int) := by
      rw [Int.le_ediv_iff_mul_le hd]
      have : x.num * (x.den : Int) ≤ x.num * 1 := Int.mul_le_mul_of_nonpos_left (by omega) (by omega)
      omega
    have h5 : x.num / (x.den : Int) < 0 := Int.ediv_neg_of_neg_of_pos h hd
    omega
  · have h4 := Int.ediv_le_self (b := (x.den : Int)) h
    have h5 := Int.ediv_nonneg (b := (x.den : Int)) h (by omega)
    omega
theorem rnd_ok {x : Rat} (h : okQ x) (h2 : ¬ 2 * (x.num % (x.den : Int)) < x.den) : ln (x.floor + 1).natAbs ≤ 512 := by
  refine Nat.le_trans (ln_mono ?_) h.1
  have hd : 0 < (x.den : Int) := by have := x.den_pos; omega
  have h3 := Int.emod_lt_of_pos x.num hd
  have h0 := Int.emod_nonneg x.num (b := (x.den : Int)) (by omega)
  have hm := Int.mul_ediv_add_emod x.num x.den
  have hfa := floor_abs x
  rw [floor_num] at *
  rcases Int.lt_or_le x.num 0 with h | h
  · have h5 : x.num / (x.den : Int) < 0 := Int.ediv_neg_of_neg_of_pos h hd
    omega
  · have h5 := Int.ediv_nonneg (b := (x.den : Int)) h (by omega)
    have h6 : x.num / (x.den : Int) + 1 ≤ x.num := by
      have h7 : 2 ≤ (x.den : Int) := by
        rcases Int.lt_or_le (x.den : Int) 2 with h8 | h8
        · have : (x.den : Int) = 1 := by omega
          rw [this] at h2
          simp at h2
        · exact h8
      have h8 : 2 * (x.num / (x.den : Int)) ≤ (x.den : Int) * (x.num / (x.den : Int)) := Int.mul_le_mul_of_nonneg_right h7 h5
      have h9 : 0 < x.num % (x.den : Int) := by omega
      omega
    omega
theorem FRound_q (x : Rat) (hx : okQ x) : Con Tryz.prog 16 [QV x] (.tp [FIV (rnd x), E_ 0]) := by
  have hv := validS_t (vG_q hx)
  have hd := DivMod_q x hx
  have hd0 : 0 < (x.den : Int) := by have := x.den_pos; omega
  have h0 := Int.emod_nonneg x.num (b := (x.den : Int)) (by omega)
  have h3 := Int.emod_lt_of_pos x.num hd0
  have hfl := floor_abs x
  have hrn : rnd x = if 2 * (((x.num % (x.den : Int)).natAbs : Nat) : Int) < x.den then x.floor else x.floor + 1 := by
    rw [show (((x.num % (x.den : Int)).natAbs : Nat) : Int) = x.num % (x.den : Int) by omega]; rfl
  have hro := fun h => rnd_ok hx h
  rw [show x.num % (x.den : Int) = (((x.num % (x.den : Int)).natAbs : Nat) : Int) by omega] at hro h3
  rw [hrn]
  rw [FIV_pos] at hd
  generalize (x.num % (x.den : Int)).natAbs = r at *
  have hrl : ln r ≤ 512 := Nat.le_trans (ln_mono (by omega : r ≤ x.den)) hx.2
  have hs := Sum_c (limbs r) (limbs r) (wf_limbs _) (wf_limbs _) (by rw [limbs_length]; omega) (by rw [limbs_length]; omega)
  rw [val_limbs, limbs_length, Nat.max_self] at hs
  have ht := Trim_c (padd (ln r + 1) (r + r)) (wf_padd _ _)
  rw [val_padd, Nat.mod_eq_of_lt (sum_lt (lt_ln r) (lt_ln r))] at ht
  have hc := Compare_c (r + r) x.den
  by_cases h : 2 * (r : Int) < x.den
  · rw [if_pos h]
    rw [sg_lt (by omega)] at hc
    refine con_of Tryz.func16 rfl rfl rfl rfl rfl ?_
    repeat (first | refine seq_ ?_ | refine region_ ?_ | refine nil_ ?_ | refine stepY (y_assign rfl) rfl ?_ | refine stepY (y_loadA rfl rfl rfl) rfl ?_ | refine stepE (e_box rfl rfl rfl rfl rfl rfl) ?_ | refine stepE (e_alloc rfl rfl rfl) ?_ | refine stepE (e_bs_vs rfl rfl rfl rfl rfl rfl) ?_)
    refine seal_Ls (i := 8) (h := 8) rfl rfl rfl rfl ?_
    refine call_ Tryz.func33 rfl rfl (hv) rfl (by repeat (first | exact .tags _ _ | apply Les.cons | exact .nil)) rfl ?_
    repeat (first | refine seq_ ?_ | refine region_ ?_ | refine nil_ ?_ | refine skip_ ?_ | refine cond_f rfl ?_ | refine stepY (y_loadA rfl rfl rfl) rfl ?_ | refine stepY (y_fieldAddr rfl) rfl ?_ | refine stepY (y_not rfl) rfl ?_)
    refine call_ Tryz.func41 rfl rfl (hd) rfl (by repeat (first | exact .refl _ | apply Les.cons | exact .nil)) rfl ?_
    repeat (first | refine seq_ ?_ | refine nil_ ?_ | refine stepY (y_move rfl) rfl ?_ | refine stepY (y_assign rfl) rfl ?_ | refine stepY (y_extract rfl rfl) rfl ?_ | refine stepE (e_alloc rfl rfl rfl) ?_ | refine stepE (e_store rfl rfl rfl rfl rfl rfl rfl) ?_)
    refine draw_ [(0, true), (1, true), (2, true), (3, true), (6, true), (7, true), (8, true), (4, false), (5, false), (9, false), (10, true)] 1000 [5, 1] mixed (by kernel_rfl) rfl ?_
    ((refine dY rfl (y_fieldAddr rfl) rfl rfl rfl rfl ?_); refine dY rfl (y_load1 rfl rfl rfl) rfl rfl rfl rfl ?_; refine dY rfl (y_fieldAddr rfl) rfl rfl rfl rfl ?_; refine dY rfl (y_load1 rfl rfl rfl) rfl rfl rfl rfl ?_; refine dY rfl (y_fieldAddr rfl) rfl rfl rfl rfl ?_; refine dY rfl (y_fieldAddr rfl) rfl rfl rfl rfl ?_; refine dY rfl (y_load1 rfl rfl rfl) rfl rfl rfl rfl ?_)
    refine dC rfl Tryz.func44 rfl rfl (hs) rfl (by repeat (first | exact .tag _ _ | apply Les.cons | exact .nil)) rfl rfl ?_
    skip
    refine dC rfl Tryz.func43 rfl rfl (ht) rfl (by repeat (first | exact .tag _ _ | apply Les.cons | exact .nil)) rfl rfl ?_
    skip
    refine dC rfl Tryz.func42 rfl rfl (hc) rfl (by repeat (first | exact .refl _ | apply Les.cons | exact .nil)) rfl rfl ?_
    ((refine dY rfl (y_cmpT rfl rfl rfl (by omega)) rfl rfl rfl rfl ?_); refine dEnd ?_)
    repeat (first | refine seq_ ?_ | refine region_ ?_ | refine nil_ ?_ | refine ret_ ?_ | refine cond_t rfl ?_ | refine stepY (y_assign rfl) rfl ?_ | refine stepY (y_loadA rfl rfl rfl) rfl ?_ | refine stepE (e_store rfl rfl rfl rfl rfl rfl rfl) ?_)
    ((apply fin_r); (repeat (first | exact .nil | exact .tmp rfl | exact .agg rfl rfl rfl | apply ResL.cons)); (repeat (exact .refl _)))
  · rw [if_neg h]
    have hneg : ¬ sg (r + r) x.den < 0 := by unfold sg; split <;> (try split) <;> omega
    have hf1 := FromInt_c 1 (by omega)
    have hA := Add_s (decide (x.floor < 0)) false x.floor.natAbs 1 (vld_iv (Nat.le_trans (ln_mono hfl) hx.1)) (by decide)
    rw [sgn_self, show sgn false 1 = 1 from rfl, resI_ok (hro h)] at hA
    refine con_of Tryz.func16 rfl rfl rfl rfl rfl ?_
    repeat (first | refine seq_ ?_ | refine region_ ?_ | refine nil_ ?_ | refine stepY (y_assign rfl) rfl ?_ | refine stepY (y_loadA rfl rfl rfl) rfl ?_ | refine stepE (e_box rfl rfl rfl rfl rfl rfl) ?_ | refine stepE (e_alloc rfl rfl rfl) ?_ | refine stepE (e_bs_vs rfl rfl rfl rfl rfl rfl) ?_)
    refine seal_Ls (i := 8) (h := 8) rfl rfl rfl rfl ?_
    refine call_ Tryz.func33 rfl rfl (hv) rfl (by repeat (first | exact .tags _ _ | apply Les.cons | exact .nil)) rfl ?_
    repeat (first | refine seq_ ?_ | refine region_ ?_ | refine nil_ ?_ | refine skip_ ?_ | refine cond_f rfl ?_ | refine stepY (y_loadA rfl rfl rfl) rfl ?_ | refine stepY (y_fieldAddr rfl) rfl ?_ | refine stepY (y_not rfl) rfl ?_)
    refine call_ Tryz.func41 rfl rfl (hd) rfl (by repeat (first | exact .refl _ | apply Les.cons | exact .nil)) rfl ?_
    repeat (first | refine seq_ ?_ | refine nil_ ?_ | refine stepY (y_move rfl) rfl ?_ | refine stepY (y_assign rfl) rfl ?_ | refine stepY (y_extract rfl rfl) rfl ?_ | refine stepE (e_alloc rfl rfl rfl) ?_ | refine stepE (e_store rfl rfl rfl rfl rfl rfl rfl) ?_)
    refine draw_ [(0, true), (1, true), (2, true), (3, true), (6, true), (7, true), (8, true), (4, false), (5, false), (9, false), (10, true)] 1000 [5, 1] mixed (by kernel_rfl) rfl ?_
    ((refine dY rfl (y_fieldAddr rfl) rfl rfl rfl rfl ?_); refine dY rfl (y_load1 rfl rfl rfl) rfl rfl rfl rfl ?_; refine dY rfl (y_fieldAddr rfl) rfl rfl rfl rfl ?_; refine dY rfl (y_load1 rfl rfl rfl) rfl rfl rfl rfl ?_; refine dY rfl (y_fieldAddr rfl) rfl rfl rfl rfl ?_; refine dY rfl (y_fieldAddr rfl) rfl rfl rfl rfl ?_; refine dY rfl (y_load1 rfl rfl rfl) rfl rfl rfl rfl ?_)
    refine dC rfl Tryz.func44 rfl rfl (hs) rfl (by repeat (first | exact .tag _ _ | apply Les.cons | exact .nil)) rfl rfl ?_
    skip
    refine dC rfl Tryz.func43 rfl rfl (ht) rfl (by repeat (first | exact .tag _ _ | apply Les.cons | exact .nil)) rfl rfl ?_
    skip
    refine dC rfl Tryz.func42 rfl rfl (hc) rfl (by repeat (first | exact .refl _ | apply Les.cons | exact .nil)) rfl rfl ?_
    ((refine dY rfl (y_cmpF rfl rfl rfl (by omega)) rfl rfl rfl rfl ?_); refine dEnd ?_)
    repeat (first | refine seq_ ?_ | refine skip_ ?_ | refine cond_f rfl ?_)
    refine draw_ [(0, true), (1, false), (2, false), (3, true), (4, true), (5, false), (6, true)] 1000 [4] mixed (by kernel_rfl) rfl ?_
    ((refine dY rfl (y_loadA rfl rfl rfl) rfl rfl rfl rfl ?_))
    refine dC rfl Tryz.func46 rfl rfl (hf1) rfl (by repeat (first | exact .refl _ | apply Les.cons | exact .nil)) rfl rfl ?_
    skip
    refine dC rfl Tryz.func45 rfl rfl (hA) rfl (by repeat (first | exact .refl _ | exact .tag _ _ | apply Le.ag | apply Les.cons | exact .nil)) rfl rfl ?_
    ((refine dY rfl (y_extract rfl rfl) rfl rfl rfl rfl ?_); refine dY rfl (y_extract rfl rfl) rfl rfl rfl rfl ?_; (refine dE rfl (e_store rfl rfl rfl rfl rfl rfl rfl) rfl rfl ?_); refine dY rfl (y_assign rfl) rfl rfl rfl rfl ?_; refine dEnd ?_)
    repeat (refine ret_ ?_)
    ((apply fin_r); (repeat (first | exact .nil | exact .tmp rfl | exact .agg rfl rfl rfl | apply ResL.cons)); (repeat (exact .refl _)))
theorem dI10_len {m : Nat} (h : ln m ≤ 512) : (dI 10 m).length ≤ 16384 := by have := dI_len (b := 10) (by decide) h; omega
theorem fmt_le {p : Bool} {m : Nat} (h : ln m ≤ 512) : (fmt p m).size ≤ 20000 := by
  unfold fmt
  split
  · decide
  · have := dI10_len h
    rw [strOfNums_size, List.length_reverse]
    unfold fmtL
    rw [List.length_append, List.length_map]
    split <;> simp <;> omega
theorem whole_c (p : Bool) (m d : Nat) : Con Tryz.prog 57 [GF p m d] (Bo (d == 1)) := by
  have hlg : ((limbs d).length : Int) = ln d := by rw [limbs_length]
  refine con_of Tryz.func57 rfl rfl rfl rfl rfl ?_
  by_cases h4 : ln d = 1
  · have hb : d < B := by have := lt_ln d; rw [h4] at this; simpa using this
    have hd : rd (limbs d) 0 = (d : Int) := by
      have := rd_limbs d (i := 0) (by omega)
      rw [this, show dg d (0 : Int).toNat = d from by show d / B ^ 0 % B = d; rw [Nat.pow_zero, Nat.div_one, Nat.mod_eq_of_lt hb]]
    by_cases h5 : d = 1
    · rw [show (d == 1) = true from beq_iff_eq.2 h5]
      repeat (first | refine seq_ ?_ | refine region_ ?_ | refine nil_ ?_ | refine ret_ ?_ | refine guard_t rfl rfl rfl ?_ | refine stepY (y_move rfl) rfl ?_ | refine stepY (y_assign rfl) rfl ?_ | (first | refine stepY (y_load1 rfl rfl rfl) rfl ?_ | refine stepY (y_load_rc1 rfl rfl) rfl ?_) | refine stepY (y_fieldAddr rfl) rfl ?_ | refine stepY (y_len_si rfl) rfl ?_ | refine stepY (y_pick_t rfl rfl) rfl ?_ | refine stepY (y_index_si rfl rfl (by omega) (by omega)) rfl ?_ | refine stepY (y_cmpT rfl rfl rfl (by omega)) rfl ?_ | refine stepE (e_box rfl rfl rfl rfl rfl rfl) ?_)
      ((apply fin_r); (repeat (first | exact .nil | exact .tmp rfl | apply ResL.cons)); (repeat (exact .refl _)))
    · rw [show (d == 1) = false from beq_eq_false_iff_ne.2 h5]
      repeat (first | refine seq_ ?_ | refine region_ ?_ | refine nil_ ?_ | refine ret_ ?_ | refine guard_t rfl rfl rfl ?_ | refine stepY (y_move rfl) rfl ?_ | refine stepY (y_assign rfl) rfl ?_ | (first | refine stepY (y_load1 rfl rfl rfl) rfl ?_ | refine stepY (y_load_rc1 rfl rfl) rfl ?_) | refine stepY (y_fieldAddr rfl) rfl ?_ | refine stepY (y_len_si rfl) rfl ?_ | refine stepY (y_pick_t rfl rfl) rfl ?_ | refine stepY (y_index_si rfl rfl (by omega) (by omega)) rfl ?_ | (first | refine stepY (y_cmpT rfl rfl rfl (by omega)) rfl ?_ | refine stepY (y_cmpF rfl rfl rfl (by omega)) rfl ?_) | refine stepE (e_box rfl rfl rfl rfl rfl rfl) ?_)
      ((apply fin_r); (repeat (first | exact .nil | exact .tmp rfl | apply ResL.cons)); (repeat (exact .refl _)))
  · rw [show (d == 1) = false from beq_eq_false_iff_ne.2 (fun h => h4 (by rw [h]; rfl))]
    repeat (first | refine seq_ ?_ | refine region_ ?_ | refine nil_ ?_ | refine ret_ ?_ | refine guard_f rfl rfl rfl rfl ?_ | refine stepY (y_move rfl) rfl ?_ | refine stepY (y_assign rfl) rfl ?_ | refine stepY (y_load1 rfl rfl rfl) rfl ?_ | refine stepY (y_fieldAddr rfl) rfl ?_ | refine stepY (y_len_si rfl) rfl ?_ | refine stepY (y_pick_f rfl rfl) rfl ?_ | refine stepY (y_cmpF rfl rfl rfl (by omega)) rfl ?_ | refine stepE (e_box rfl rfl rfl rfl rfl rfl) ?_)
    ((apply fin_r); (repeat (first | exact .nil | exact .tmp rfl | apply ResL.cons)); (repeat (exact .refl _)))
def fmtQ (p : Bool) (m d : Nat) : ByteArray := if d = 1 then fmt p m else fmt p m ++ ⟨#[47]⟩ ++ fmt false d
theorem FFormat_e (p : Bool) (l : List Int) (q : Bool) (k : List Int) (hl : wf l) (hk : wf k) (h : vldF p l q k = false) : Con Tryz.prog 27 [AF p l q k] (.v (.string ⟨#[]⟩)) := by
  have hv := validS_c p l q k hl hk
  rw [h] at hv
  refine con_of Tryz.func27 rfl rfl rfl rfl rfl ?_
  repeat (first | refine seq_ ?_ | refine region_ ?_ | refine nil_ ?_ | refine block_ ?_ | refine stepY (y_assign rfl) rfl ?_ | refine stepY (y_loadA rfl rfl rfl) rfl ?_ | refine stepE (e_box rfl rfl rfl rfl rfl rfl) ?_ | refine stepE (e_bs_vs rfl rfl rfl rfl rfl rfl) ?_)
  refine seal_Ls (i := 5) (h := 5) rfl rfl rfl rfl ?_
  refine call_ Tryz.func33 rfl rfl (hv) rfl (by repeat (first | exact .tags _ _ | apply Les.cons | exact .nil)) rfl ?_
  repeat (first | refine seq_ ?_ | refine region_ ?_ | refine nil_ ?_ | refine ret_ ?_ | refine cond_t rfl ?_ | refine stepY (y_assign rfl) rfl ?_ | refine stepY (y_not rfl) rfl ?_)
  ((apply fin_r); (repeat (first | exact .nil | exact .tmp rfl | apply ResL.cons)); (repeat (exact .refl _)))
theorem FFormat_g (p : Bool) (m d : Nat) (h : vG p m d) : Con Tryz.prog 27 [GF p m d] (.v (.string (fmtQ p m d))) := by
  have hv := validS_t h
  obtain ⟨b1, b2, b3, b4, b5, b6⟩ := vG_bd h
  have hw := whole_c p m d
  have f1 := Format_s p m b5
  have f2 := Format_s false d b6
  unfold fmtQ
  by_cases h1 : d = 1
  · rw [if_pos h1]
    rw [show (d == 1) = true from beq_iff_eq.2 h1] at hw
    refine con_of Tryz.func27 rfl rfl rfl rfl rfl ?_
    repeat (first | refine seq_ ?_ | refine region_ ?_ | refine nil_ ?_ | refine block_ ?_ | refine stepY (y_assign rfl) rfl ?_ | refine stepY (y_loadA rfl rfl rfl) rfl ?_ | refine stepE (e_box rfl rfl rfl rfl rfl rfl) ?_ | refine stepE (e_bs_vs rfl rfl rfl rfl rfl rfl) ?_)
    refine seal_Ls (i := 5) (h := 5) rfl rfl rfl rfl ?_
    refine call_ Tryz.func33 rfl rfl (hv) rfl (by repeat (first | exact .tags _ _ | apply Les.cons | exact .nil)) rfl ?_
    repeat (first | refine seq_ ?_ | refine region_ ?_ | refine nil_ ?_ | refine cond_f rfl ?_ | refine stepY (y_assign rfl) rfl ?_ | refine stepY (y_loadA rfl rfl rfl) rfl ?_ | refine stepY (y_not rfl) rfl ?_)
    refine call_ Tryz.func57 rfl rfl (hw) rfl (by repeat (first | exact .refl _ | apply Les.cons | exact .nil)) rfl ?_
    repeat (first | refine seq_ ?_ | refine region_ ?_ | refine nil_ ?_ | refine cond_t rfl ?_ | refine stepY (y_assign rfl) rfl ?_ | refine stepY (y_loadA rfl rfl rfl) rfl ?_ | refine stepY (y_fieldAddr rfl) rfl ?_)
    refine call_ Tryz.func58 rfl rfl (f1) rfl (by repeat (first | exact .refl _ | apply Les.cons | exact .nil)) rfl ?_
    repeat (first | refine nil_ ?_ | refine ret_ ?_ | refine stepY (y_assign rfl) rfl ?_)
    ((apply fin_r); (repeat (first | exact .nil | exact .tmp rfl | apply ResL.cons)); (repeat (exact .refl _)))
  · rw [if_neg h1]
    rw [show (d == 1) = false from beq_eq_false_iff_ne.2 h1] at hw
    have s1 := fmt_le (p := p) b1
    have s2 := fmt_le (p := false) b2
    have s0 : (ByteArray.mk #[47]).size = 1 := rfl
    have s3 : (fmt p m ++ ByteArray.mk #[47]).size = (fmt p m).size + (ByteArray.mk #[47]).size := ByteArray.size_append
    refine con_of Tryz.func27 rfl rfl rfl rfl rfl ?_
    repeat (first | refine seq_ ?_ | refine region_ ?_ | refine nil_ ?_ | refine block_ ?_ | refine stepY (y_assign rfl) rfl ?_ | refine stepY (y_loadA rfl rfl rfl) rfl ?_ | refine stepE (e_box rfl rfl rfl rfl rfl rfl) ?_ | refine stepE (e_bs_vs rfl rfl rfl rfl rfl rfl) ?_)
    refine seal_Ls (i := 5) (h := 5) rfl rfl rfl rfl ?_
    refine call_ Tryz.func33 rfl rfl (hv) rfl (by repeat (first | exact .tags _ _ | apply Les.cons | exact .nil)) rfl ?_
    repeat (first | refine seq_ ?_ | refine region_ ?_ | refine nil_ ?_ | refine cond_f rfl ?_ | refine stepY (y_assign rfl) rfl ?_ | refine stepY (y_loadA rfl rfl rfl) rfl ?_ | refine stepY (y_not rfl) rfl ?_)
    refine call_ Tryz.func57 rfl rfl (hw) rfl (by repeat (first | exact .refl _ | apply Les.cons | exact .nil)) rfl ?_
    repeat (first | refine seq_ ?_ | refine nil_ ?_ | refine skip_ ?_ | refine cond_f rfl ?_ | refine stepY (y_assign rfl) rfl ?_)
    refine draw_ [(0, true), (1, true), (4, true), (5, true), (2, false), (3, true), (6, false), (7, true), (8, true)] 1000 [1] mixed (by kernel_rfl) rfl ?_
    ((refine dY rfl (y_fieldAddr rfl) rfl rfl rfl rfl ?_); refine dY rfl (y_loadA rfl rfl rfl) rfl rfl rfl rfl ?_; refine dY rfl (y_fieldAddr rfl) rfl rfl rfl rfl ?_; refine dY rfl (y_loadA rfl rfl rfl) rfl rfl rfl rfl ?_)
    refine dC rfl Tryz.func58 rfl rfl (f1) rfl (by repeat (first | exact .refl _ | apply Les.cons | exact .nil)) rfl rfl ?_
    ((refine dY rfl (y_adds rfl rfl (by omega)) rfl rfl rfl rfl ?_))
    refine dC rfl Tryz.func58 rfl rfl (f2) rfl (by repeat (first | exact .refl _ | apply Les.cons | exact .nil)) rfl rfl ?_
    ((refine dY rfl (y_adds rfl rfl (by omega)) rfl rfl rfl rfl ?_); refine dY rfl (y_assign rfl) rfl rfl rfl rfl ?_; refine dEnd ?_)
    repeat (refine ret_ ?_)
    ((apply fin_r); (repeat (first | exact .nil | exact .tmp rfl | apply ResL.cons)); (repeat (exact .refl _)))
end Go.Av

set_option linter.unusedVariables false
set_option linter.unusedSimpArgs false
/-! The simplest fraction of an interval: plain law -/
namespace Go.Av
def cl (z : Int) : Int := if ln z.natAbs ≤ 512 then z else 0
theorem cl_ok {z : Int} (h : ln z.natAbs ≤ 512) : cl z = z := by unfold cl; rw [if_pos h]
theorem cl_ln (z : Int) : ln (cl z).natAbs ≤ 512 := by
  unfold cl
  split
  · assumption
  · decide
def stI (s : Int × Int) (f : Int) : Int × Int := (cl (cl (f * s.1) + s.2), s.1)
def co1 (f : Nat) (s : Nat × Nat) : Nat × Nat := (f * s.1 + s.2, s.1)
def comb : List Nat → Nat × Nat → Nat × Nat
  | [], s => s
  | f :: fl, s => co1 f (comb fl s)
theorem comb_snoc : ∀ (fl : List Nat) (f : Nat) (s : Nat × Nat), comb (fl ++ [f]) s = comb fl (co1 f s)
  | [], f, s => rfl
  | g :: fl, f, s => by simp only [List.cons_append, comb, comb_snoc fl f s]
def sqF : Nat → Nat → Nat → Nat → Nat → Nat × Nat
  | 0, _, _, _, _ => (0, 1)
  | k + 1, n, d, u, v => if n % d = 0 then (n / d, 1) else if n / d = u / v then co1 (n / d) (sqF k v (u % v) d (n % d)) else (n / d + 1, 1)
structure Gd (n d u v : Nat) : Prop where
  dp : 0 < d
  vp : 0 < v
  le : n * v ≤ u * d
theorem Gd.step {n d u v : Nat} (h : Gd n d u v) (h1 : n % d ≠ 0) (h2 : n / d = u / v) : Gd v (u % v) d (n % d) ∧ u % v + n % d < d + v := by
  have hd := Nat.mod_lt n h.dp
  have hv := Nat.mod_lt u h.vp
  have e1 := Nat.div_add_mod n d
  have e2 := Nat.div_add_mod u v
  have hl := h.le
  rw [h2] at e1
  generalize n % d = r at *
  generalize u % v = s at *
  generalize u / v = f at *
  subst e1 e2
  have hk : r * v ≤ s * d := by
    rw [Nat.add_mul, Nat.add_mul, Nat.mul_right_comm d f v, Nat.mul_right_comm v f d, Nat.mul_comm d v] at hl
    omega
  have hs : 0 < s := by
    rcases Nat.eq_zero_or_pos s with h0 | h0
    · subst h0
      have := Nat.mul_pos (Nat.pos_of_ne_zero h1) h.vp
      omega
    · exact h0
  exact ⟨⟨hs, Nat.pos_of_ne_zero h1, by rw [Nat.mul_comm v, Nat.mul_comm d]; exact hk⟩, by omega⟩
theorem sqF_fuel : ∀ (k k' n d u v : Nat), Gd n d u v → d + v < k → d + v < k' → sqF k n d u v = sqF k' n d u v
  | 0, _, _, _, _, _, _, h, _ => by omega
  | _ + 1, 0, _, _, _, _, _, _, h => by omega
  | k + 1, k' + 1, n, d, u, v, hg, h1, h2 => by
    simp only [sqF]
    by_cases a : n % d = 0
    · rw [if_pos a, if_pos a]
    · rw [if_neg a, if_neg a]
      by_cases b : n / d = u / v
      · rw [if_pos b, if_pos b]
        obtain ⟨g, hlt⟩ := hg.step a b
        rw [sqF_fuel k k' _ _ _ _ g (by omega) (by omega)]
      · rw [if_neg b, if_neg b]
def sq (n d u v : Nat) : Nat × Nat := sqF (d + v + 1) n d u v
theorem sq_0 {n d u v : Nat} (h : n % d = 0) : sq n d u v = (n / d, 1) := by
  unfold sq
  rw [sqF, if_pos h]
theorem sq_1 {n d u v : Nat} (h : n % d ≠ 0) (h2 : n / d ≠ u / v) : sq n d u v = (n / d + 1, 1) := by
  unfold sq
  rw [sqF, if_neg h, if_neg h2]
theorem sq_2 {n d u v : Nat} (hg : Gd n d u v) (h : n % d ≠ 0) (h2 : n / d = u / v) : sq n d u v = co1 (n / d) (sq v (u % v) d (n % d)) := by
  obtain ⟨g, hlt⟩ := hg.step h h2
  unfold sq
  rw [sqF, if_neg h, if_pos h2, sqF_fuel _ (u % v + n % d + 1) _ _ _ _ g (by omega) (by omega)]
/-- within the bounds of a state -/
structure Bs (s : Nat × Nat) (n d u v : Nat) : Prop where
  a : s.1 ≤ n
  b : s.2 ≤ d
  c : s.1 ≤ u
  e : s.2 ≤ v
theorem Bs.end0 {n d u v : Nat} (hg : Gd n d u v) (h : n % d = 0) : Bs (n / d, 1) n d u v := by
  have e1 := Nat.div_add_mod n d
  have hl := hg.le
  rw [h, Nat.add_zero] at e1
  refine ⟨Nat.div_le_self _ _, hg.dp, ?_, hg.vp⟩
  show n / d ≤ u
  generalize n / d = f at *
  subst e1
  rw [Nat.mul_assoc, Nat.mul_comm u d] at hl
  have := Nat.le_of_mul_le_mul_left hl hg.dp
  exact Nat.le_trans (Nat.le_mul_of_pos_right f hg.vp) this
theorem div_le {n d u v : Nat} (hg : Gd n d u v) : n / d ≤ u / v := by
  rw [Nat.le_div_iff_mul_le hg.vp]
  have e1 := Nat.div_mul_le_self n d
  have hl := hg.le
  have : n / d * v * d ≤ u * d := by
    have : n / d * d * v ≤ n * v := Nat.mul_le_mul_right v e1
    rw [Nat.mul_right_comm]
    omega
  exact Nat.le_of_mul_le_mul_right this hg.dp
theorem Bs.end1 {n d u v : Nat} (hg : Gd n d u v) (h : n % d ≠ 0) (h2 : n / d ≠ u / v) : Bs (n / d + 1, 1) n d u v := by
  have e1 := Nat.div_add_mod n d
  have hd := Nat.mod_lt n hg.dp
  have h3 := div_le hg
  refine ⟨?_, hg.dp, ?_, hg.vp⟩
  · show n / d + 1 ≤ n
    have h4 : 2 * (n / d) ≤ d * (n / d) := Nat.mul_le_mul_right _ (by omega)
    omega
  · show n / d + 1 ≤ u
    have := Nat.div_le_self u v
    omega
theorem Bs.back {n d u v : Nat} {s : Nat × Nat} (hg : Gd n d u v) (h2 : n / d = u / v) (h : Bs s v (u % v) d (n % d)) : Bs (co1 (n / d) s) n d u v := by
  have e1 := Nat.div_add_mod n d
  have e2 := Nat.div_add_mod u v
  obtain ⟨x, y⟩ := s
  obtain ⟨a, b, c, e⟩ := h
  simp only at a b c e
  have m1 := Nat.mul_le_mul_left (n / d) c
  have m2 := Nat.mul_le_mul_left (u / v) a
  refine ⟨?_, c, ?_, a⟩
  · show n / d * x + y ≤ n
    rw [Nat.mul_comm d] at e1
    omega
  · show n / d * x + y ≤ u
    rw [h2, Nat.mul_comm] at *
    omega
theorem sqF_bs : ∀ (k n d u v : Nat), Gd n d u v → d + v < k → Bs (sqF k n d u v) n d u v
  | 0, _, _, _, _, _, h => by omega
  | k + 1, n, d, u, v, hg, h1 => by
    simp only [sqF]
    by_cases a : n % d = 0
    · rw [if_pos a]; exact .end0 hg a
    · rw [if_neg a]
      by_cases b : n / d = u / v
      · rw [if_pos b]
        obtain ⟨g, hlt⟩ := hg.step a b
        exact .back hg b (sqF_bs k _ _ _ _ g (by omega))
      · rw [if_neg b]; exact .end1 hg a b
theorem sq_bs {n d u v : Nat} (hg : Gd n d u v) : Bs (sq n d u v) n d u v := sqF_bs _ _ _ _ _ hg (by omega)
/-- no value on the way back is too long -/
def Bd : List Nat → Nat × Nat → Prop
  | [], s => ln s.1 ≤ 512
  | f :: fl, s => ln (comb (f :: fl) s).1 ≤ 512 ∧ Bd fl s
theorem Bd.top : ∀ {fl : List Nat} {s : Nat × Nat}, Bd fl s → ln (comb fl s).1 ≤ 512
  | [], _, h => h
  | _ :: _, _, h => h.1
theorem Bd.snoc : ∀ {fl : List Nat} {f : Nat} {s : Nat × Nat}, Bd fl (co1 f s) → ln s.1 ≤ 512 → Bd (fl ++ [f]) s
  | [], f, s, h, h1 => ⟨h, h1⟩
  | g :: fl, f, s, h, h1 => by
    refine ⟨?_, Bd.snoc h.2 h1⟩
    have := h.1
    rwa [← comb_snoc, List.cons_append] at this
def ic (s : Nat × Nat) : Int × Int := ((s.1 : Int), (s.2 : Int))
theorem fold_comb : ∀ {fl : List Nat} {s : Nat × Nat}, Bd fl s → (fl.reverse.map fun (f : Nat) => (f : Int)).foldl stI (ic s) = ic (comb fl s)
  | [], s, _ => rfl
  | f :: fl, s, h => by
    rw [List.reverse_cons, List.map_append, List.foldl_append, fold_comb h.2]
    have h1 := h.1
    simp only [comb, co1] at h1
    simp only [List.map_cons, List.map_nil, List.foldl_cons, List.foldl_nil, stI, ic, comb, co1]
    rw [cl_ok (z := (f : Int) * ((comb fl s).1 : Int)), cl_ok]
    · simp
    · rw [← Int.natCast_mul, ← Int.natCast_add, Int.natAbs_natCast]; exact h1
    · rw [← Int.natCast_mul, Int.natAbs_natCast]; exact Nat.le_trans (ln_mono (Nat.le_add_right _ _)) h1
end Go.Av

set_option linter.unusedVariables false
set_option linter.unusedSimpArgs false
namespace Go.Av
theorem half_mod {n d : Nat} (hd : 0 < d) (h : d ≤ n) : 2 * (n % d) ≤ n := by
  have h1 := Nat.mod_lt n hd
  have h2 := Nat.div_add_mod n d
  have h3 : 1 ≤ n / d := (Nat.one_le_div_iff hd).2 h
  have h4 : d * 1 ≤ d * (n / d) := Nat.mul_le_mul_left d h3
  omega
theorem ph_le {n d u v : Nat} : v * d * (u % v) * (n % d) ≤ n * u * d * v := by
  have h1 := Nat.mod_le n d
  have h2 := Nat.mod_le u v
  have : (u % v) * (n % d) ≤ u * n := Nat.mul_le_mul h2 h1
  have h3 := Nat.mul_le_mul_left (v * d) this
  calc v * d * (u % v) * (n % d) = v * d * ((u % v) * (n % d)) := by rw [Nat.mul_assoc]
    _ ≤ v * d * (u * n) := h3
    _ = n * u * d * v := by rw [Nat.mul_comm v d, Nat.mul_comm u n, Nat.mul_comm (d * v), Nat.mul_assoc (n * u)]
theorem ph_quarter {n d u v : Nat} (hd : 0 < d) (hv : 0 < v) (h1 : d ≤ n) (h2 : v ≤ u) : 4 * (v * d * (u % v) * (n % d)) ≤ n * u * d * v := by
  have a := half_mod hd h1
  have b := half_mod hv h2
  have : (2 * (u % v)) * (2 * (n % d)) ≤ u * n := Nat.mul_le_mul b a
  have h3 := Nat.mul_le_mul_left (v * d) this
  calc 4 * (v * d * (u % v) * (n % d)) = v * d * ((2 * (u % v)) * (2 * (n % d))) := by
        generalize v * d = p; generalize u % v = q; generalize n % d = r
        rw [show 2 * q * (2 * r) = 4 * (q * r) by rw [Nat.mul_mul_mul_comm], Nat.mul_left_comm p 4, Nat.mul_assoc]
    _ ≤ v * d * (u * n) := h3
    _ = n * u * d * v := by rw [Nat.mul_comm v d, Nat.mul_comm u n, Nat.mul_comm (d * v), Nat.mul_assoc (n * u)]
structure LI (r : Nat × Nat) (fl : List Nat) (n d u v : Nat) : Prop where
  gd : Gd n d u v
  np : 0 < n
  ln1 : ln n ≤ 512
  ln2 : ln d ≤ 512
  ln3 : ln u ≤ 512
  ln4 : ln v ≤ 512
  res : comb fl (sq n d u v) = r
  hb : ∀ s, Bs s n d u v → Bd fl s
  ph : 4 ^ fl.length * (n * u * d * v) ≤ 4 * B ^ 2048
  fst : fl = [] ∨ (d ≤ n ∧ v ≤ u)
  all : ∀ f ∈ fl, ln f ≤ 512
structure LX (r : Nat × Nat) (fl : List Nat) (e : Nat) : Prop where
  res : comb fl (e, 1) = r
  hb : Bd fl (e, 1)
  all : ∀ f ∈ fl, ln f ≤ 512
  len : fl.length ≤ 40000
  le : ln e ≤ 512
theorem LI.start {n d u v : Nat} (hg : Gd n d u v) (hn : 0 < n) (h1 : ln n ≤ 512) (h2 : ln d ≤ 512) (h3 : ln u ≤ 512) (h4 : ln v ≤ 512) : LI (sq n d u v) [] n d u v := by
  refine ⟨hg, hn, h1, h2, h3, h4, rfl, fun s hs => Nat.le_trans (ln_mono hs.a) h1, ?_, .inl rfl, by simp⟩
  have a := Nat.le_of_lt (ln_le.1 h1)
  have b := Nat.le_of_lt (ln_le.1 h2)
  have c := Nat.le_of_lt (ln_le.1 h3)
  have e := Nat.le_of_lt (ln_le.1 h4)
  have : n * u * d * v ≤ B ^ 512 * B ^ 512 * B ^ 512 * B ^ 512 := Nat.mul_le_mul (Nat.mul_le_mul (Nat.mul_le_mul a c) b) e
  rw [← Nat.pow_add, ← Nat.pow_add, ← Nat.pow_add, show 512 + 512 + 512 + 512 = 2048 from rfl] at this
  generalize B ^ 2048 = M at *
  simp only [List.length_nil, Nat.pow_zero, Nat.one_mul]
  exact Nat.le_trans this (Nat.le_mul_of_pos_left _ (by decide))
theorem LI.len {r : Nat × Nat} {fl : List Nat} {n d u v : Nat} (h : LI r fl n d u v) : fl.length ≤ 32769 := by
  have hu : 0 < u := by
    rcases Nat.eq_zero_or_pos u with h0 | h0
    · have := h.gd.le
      subst h0
      have := Nat.mul_pos h.np h.gd.vp
      omega
    · exact h0
  have hp : 1 ≤ n * u * d * v := Nat.mul_pos (Nat.mul_pos (Nat.mul_pos h.np hu) h.gd.dp) h.gd.vp
  have h1 : 4 ^ fl.length ≤ 4 * B ^ 2048 := Nat.le_trans (Nat.le_mul_of_pos_right _ hp) h.ph
  rw [B_pow, show (4 : Nat) = 2 ^ 2 from rfl, ← Nat.pow_mul, ← Nat.pow_add] at h1
  have := (Nat.pow_le_pow_iff_right (a := 2) (by decide)).1 h1
  omega
theorem LI.step {r : Nat × Nat} {fl : List Nat} {n d u v : Nat} (h : LI r fl n d u v) (h1 : n % d ≠ 0) (h2 : n / d = u / v) : LI r (fl ++ [n / d]) v (u % v) d (n % d) := by
  obtain ⟨g, hlt⟩ := h.gd.step h1 h2
  have m1 := Nat.mod_lt n h.gd.dp
  have m2 := Nat.mod_lt u h.gd.vp
  refine ⟨g, h.gd.vp, h.ln4, Nat.le_trans (ln_mono (Nat.mod_le _ _)) h.ln3, h.ln2, Nat.le_trans (ln_mono (Nat.mod_le _ _)) h.ln1, ?_, fun s hs => ?_, ?_, .inr ⟨Nat.le_of_lt m2, Nat.le_of_lt m1⟩, ?_⟩
  · rw [comb_snoc, ← sq_2 h.gd h1 h2]; exact h.res
  · exact Bd.snoc (h.hb _ (.back h.gd h2 hs)) (Nat.le_trans (ln_mono hs.a) h.ln4)
  · rw [List.length_append, List.length_singleton, Nat.pow_succ, Nat.mul_assoc]
    have e : v * d * (u % v) * (n % d) = v * d * (u % v) * (n % d) := rfl
    rcases h.fst with h3 | ⟨h3, h4⟩
    · subst h3
      have := h.ph
      simp only [List.length_nil, Nat.pow_zero, Nat.one_mul] at this ⊢
      refine Nat.mul_le_mul_left 4 ?_
      have a := Nat.le_of_lt (ln_le.1 h.ln1)
      have b := Nat.le_of_lt (ln_le.1 h.ln2)
      have c := Nat.le_of_lt (ln_le.1 h.ln3)
      have e := Nat.le_of_lt (ln_le.1 h.ln4)
      have hm : n * u * d * v ≤ B ^ 512 * B ^ 512 * B ^ 512 * B ^ 512 := Nat.mul_le_mul (Nat.mul_le_mul (Nat.mul_le_mul a c) b) e
      rw [← Nat.pow_add, ← Nat.pow_add, ← Nat.pow_add, show 512 + 512 + 512 + 512 = 2048 from rfl] at hm
      exact Nat.le_trans ph_le hm
    · exact Nat.le_trans (Nat.mul_le_mul_left _ (ph_quarter h.gd.dp h.gd.vp h3 h4)) h.ph
  · intro f hf
    rcases List.mem_append.1 hf with hf | hf
    · exact h.all f hf
    · simp only [List.mem_singleton] at hf
      subst hf
      exact Nat.le_trans (ln_mono (Nat.div_le_self _ _)) h.ln1
theorem LI.end0 {r : Nat × Nat} {fl : List Nat} {n d u v : Nat} (h : LI r fl n d u v) (h1 : n % d = 0) : LX r fl (n / d) :=
  ⟨by rw [← sq_0 h1]; exact h.res, h.hb _ (.end0 h.gd h1), h.all, by have := h.len; omega, Nat.le_trans (ln_mono (Nat.div_le_self _ _)) h.ln1⟩
theorem LI.end1 {r : Nat × Nat} {fl : List Nat} {n d u v : Nat} (h : LI r fl n d u v) (h1 : n % d ≠ 0) (h2 : n / d ≠ u / v) : LX r fl (n / d + 1) :=
  ⟨by rw [← sq_1 h1 h2]; exact h.res, h.hb _ (.end1 h.gd h1 h2), h.all, by have := h.len; omega, Nat.le_trans (ln_mono (Bs.end1 h.gd h1 h2).a) h.ln1⟩
end Go.Av

set_option maxHeartbeats 8000000
set_option exponentiation.threshold 100000
set_option maxRecDepth 100000
set_option linter.unusedVariables false
set_option linter.unusedSimpArgs false
namespace Go.Av
open Go Go.Proofs Go.RowKit
/-! fractions: simplest -/
abbrev Z4 : List PV := [Bo false, .v (.slice none 0 0), Bo false, .v (.slice none 0 0)]
abbrev cN (n : Nat) : List PV := [Bo false, M n]
abbrev fE (n : Nat) : PV := .ag [Bo false, FM n]
theorem vldN {n : Nat} (h : ln n ≤ 512) : vldB false (limbs n) = true := by
  have := vld_iv (z := (n : Int)) (by simpa using h)
  rwa [show decide ((n : Int) < 0) = false by rw [decide_eq_false]; omega, Int.natAbs_natCast] at this
theorem DivMod_n (n d : Nat) (hd : 0 < d) (h1 : ln n ≤ 512) (h2 : ln d ≤ 512) : Con Tryz.prog 41 [SV false n, SV false d] (.tp [fE (n / d), fE (n % d), E_ 0]) := by
  have := DivMod_s false false n d (vldN h1) (vldN h2) hd
  obtain ⟨e1, e2⟩ := dq_div false n d hd
  rw [e1, e2, show sgn false n / (d : Int) = ((n / d : Nat) : Int) by simp [sgn], show sgn false n % (d : Int) = ((n % d : Nat) : Int) by simp [sgn], FIV_pos, FIV_pos] at this
  exact this
theorem Cmp_n (n d : Nat) (h1 : ln n ≤ 512) (h2 : ln d ≤ 512) : Con Tryz.prog 67 [SV false n, SV false d] (I (sg n d)) := by
  have := Cmp_s false false n d (vldN h1) (vldN h2)
  rwa [icmp_pp] at this
theorem Add_n (n : Nat) (h1 : ln n ≤ 512) (h2 : ln (n + 1) ≤ 512) : Con Tryz.prog 45 [SV false n, SV false 1] (.tp [fE (n + 1), E_ 0]) := by
  have := Add_s false false n 1 (vldN h1) (vldN (by decide))
  rw [show sgn false n + sgn false 1 = ((n + 1 : Nat) : Int) by simp [sgn], resI_ok (by rw [Int.natAbs_natCast]; exact h2), FIV_pos] at this
  exact this
theorem Mul_cl (x : Nat) (z : Int) (hx : ln x ≤ 512) (hz : ln z.natAbs ≤ 512) : ∃ e, Con Tryz.prog 69 [SV false x, IV z] (.tp [FIV (cl ((x : Int) * z)), E_ e]) := by
  have h := Mul_s false (decide (z < 0)) x z.natAbs (vldN hx) (vld_iv hz)
  rw [sgn_self, show sgn false x = (x : Int) by simp [sgn]] at h
  by_cases h1 : ln ((x : Int) * z).natAbs ≤ 512
  · rw [resI_ok h1] at h
    rw [cl_ok h1]
    exact ⟨_, h⟩
  · rw [resI_no h1] at h
    rw [show cl ((x : Int) * z) = 0 by unfold cl; rw [if_neg h1]]
    exact ⟨_, h⟩
theorem Add_cl (y z : Int) (hy : ln y.natAbs ≤ 512) (hz : ln z.natAbs ≤ 512) : ∃ e, Con Tryz.prog 45 [IV y, IV z] (.tp [FIV (cl (y + z)), E_ e]) := by
  have h := Add_s (decide (y < 0)) (decide (z < 0)) y.natAbs z.natAbs (vld_iv hy) (vld_iv hz)
  rw [sgn_self, sgn_self] at h
  by_cases h1 : ln (y + z).natAbs ≤ 512
  · rw [resI_ok h1] at h
    rw [cl_ok h1]
    exact ⟨_, h⟩
  · rw [resI_no h1] at h
    rw [show cl (y + z) = 0 by unfold cl; rw [if_neg h1]]
    exact ⟨_, h⟩
abbrev cZ (z : Int) : List PV := [Bo (decide (z < 0)), FM z.natAbs]
abbrev hB (s : Int × Int) : Hp := [(4, .bx Z4), (18, .bx (cZ s.1)), (19, .bx (cZ s.2))]
abbrev eB : Env := [(4, .ptr 4 0), (18, .ptr 18 0), (19, .ptr 19 0)]
theorem uniq_z {w : World} {ok ok' : Bool → Nat → Prop} {x y : Int} {ys : List Value} (h : Rels w ok (cZ x) ys) (h' : Rels w ok' (cZ y) ys) : x = y := by
  obtain ⟨h1, h2⟩ := uniq_iv h h'
  have h3 := limbs_inj h2
  have h4 : (x < 0) ↔ (y < 0) := decide_eq_decide.1 h1
  omega
theorem fold_ln : ∀ (l : List Int) (s : Int × Int), ln s.1.natAbs ≤ 512 ∧ ln s.2.natAbs ≤ 512 → ln (l.foldl stI s).1.natAbs ≤ 512 ∧ ln (l.foldl stI s).2.natAbs ≤ 512
  | [], s, h => h
  | x :: l, s, h => fold_ln l _ ⟨cl_ln _, h.1⟩
theorem ofR_ex (n d : Int) : ∃ p m k e, ofR n d = .tp [.ag [Bo p, FM m, Bo false, FM k], E_ e] := by
  refine ofR_cases n d (P := fun r => ∃ p m k e, r = .tp [.ag [Bo p, FM m, Bo false, FM k], E_ e]) ⟨_, _, _, _, rfl⟩ (fun x => ⟨_, _, _, _, rfl⟩) ⟨_, _, _, _, rfl⟩
theorem preB_fold (fl : List Nat) (n : Nat) (hn : n = fl.length) : ((preB n 0).map fun x => ((fl.getD x.1 0 : Nat) : Int)) = fl.reverse.map fun (f : Nat) => (f : Int) := by
  subst hn
  rw [preB_zero, List.map_reverse, List.map_reverse]
  congr 1
  refine List.ext_getElem (by simp) fun j h1 h2 => ?_
  simp at h1
  simp [h1]
theorem hB_mem {s : Int × Int} {h : Nat} {m : MB} (hm : hk h (hB s) = some m) : h ∈ [4, 18, 19] := by
  rcases hk_cons hm with ⟨rfl, _⟩ | ⟨_, hm⟩
  · simp
  rcases hk_cons hm with ⟨rfl, _⟩ | ⟨_, hm⟩
  · simp
  rcases hk_cons hm with ⟨rfl, _⟩ | ⟨_, hm⟩
  · simp
  · simp [hk] at hm
theorem eB_mem {i : Nat} {x : TV} (hx : lk i eB = some x) : i ∈ [4, 18, 19] ∧ x = .ptr i 0 := by
  have key : ∀ (E : Env), (∀ q ∈ E, q.1 ∈ [4, 18, 19] ∧ q.2 = .ptr q.1 0) → lk i E = some x → i ∈ [4, 18, 19] ∧ x = .ptr i 0 := by
    intro E
    induction E with
    | nil => intro _ h; simp [lk] at h
    | cons q E ih =>
      obtain ⟨j, z⟩ := q
      intro hq h
      simp only [lk] at h
      cases hb : Nat.beq i j with
      | true =>
        rw [hb] at h
        simp only [cond_true, Option.some.injEq] at h
        have := Nat.eq_of_beq_eq_true hb
        subst this
        subst h
        exact hq (i, z) (by simp)
      | false =>
        rw [hb] at h
        exact ih (fun q hq' => hq q (by simp [hq'])) h
  exact key eB (by simp [eB]) hx
theorem back_rep {okA : Acc} {w0 : World} {ρ ρ' : Nat → Value} {s : Int × Int} {tmps T2 : Array Value} {W : World} (r : Rep okA w0 94 ρ' eB (hB s) tmps W) (ht : ∀ i ∈ [4, 18, 19], tmps[i]? = T2[i]?) (hρ : ∀ h ∈ [4, 18, 19], ρ' h = ρ h) (hs : 94 ≤ T2.size) (hl : ρ 1000000 = okA.row) : Rep okA w0 94 ρ eB (hB s) T2 W := by
  refine Rep.rho (r.tm (fun i x hx => ?_) hs) (fun k m hm => hρ k (hB_mem hm)) (fun i x hx k hk => ?_) hl
  · obtain ⟨y, hy, hr⟩ := r.env i x hx
    exact ⟨y, by rw [← ht i (eB_mem hx).1]; exact hy, hr⟩
  · obtain ⟨h1, rfl⟩ := eB_mem hx
    simp only [TV.says] at hk
    exact hρ k (by rw [Nat.eq_of_beq_eq_true hk]; exact h1)
theorem simplest_c (n d u v : Nat) (g1 : Gd n d u v) (hn : 0 < n) (l1 : ln n ≤ 512) (l2 : ln d ≤ 512) (l3 : ln u ≤ 512) (l4 : ln v ≤ 512) :
    Con Tryz.prog 39 [GF false n d, GF false u v] (ofR ((sq n d u v).1 : Int) ((sq n d u v).2 : Int)) := by
  have hf1 := FromInt_c 1 (by omega)
  rw [show FIV 1 = fE 1 from FIV_pos 1] at hf1
  refine conM_of Tryz.func39 rfl rfl rfl rfl ?_
  refine mcut_ [(2, .ptr 2 0), (3, .ptr 3 0), (4, .ptr 4 0), (5, .p (I 0))] [(2, .bx [Bo false, M n, Bo false, M d]), (3, .bx [Bo false, M u, Bo false, M v]), (4, .bx Z4)] (by
    repeat (first | refine region_ ?_ | refine nil_ ?_ | refine stepY (y_assign rfl) rfl ?_ | refine stepE (e_box rfl rfl rfl rfl rfl rfl) ?_ | refine stepE (e_alloc rfl rfl rfl) ?_)
    exact ⟨rfl, by (repeat (first | exact sub_nil | refine sub_cons rfl ?_)), by (repeat (first | exact subH_nil | refine subH_cons rfl ?_))⟩) ?_
  refine mcut_ [(2, .ptr 2 0), (3, .ptr 3 0), (4, .ptr 4 0), (5, .p (I 0)), (6, .p (.v (.slice none 0 0)))] [(2, .bx [Bo false, M n, Bo false, M d]), (3, .bx [Bo false, M u, Bo false, M v]), (4, .bx Z4)] (by
    repeat (first | refine region_ ?_ | refine nil_ ?_ | refine stepY (y_assign rfl) rfl ?_)
    exact ⟨rfl, by (repeat (first | exact sub_nil | refine sub_cons rfl ?_)), by (repeat (first | exact subH_nil | refine subH_cons rfl ?_))⟩) ?_
  refine mcut_ [(4, .ptr 4 0), (5, .p (I 0)), (6, .p (.v (.slice none 0 0))), (7, .ptr 7 0), (8, .ptr 8 0), (9, .ptr 9 0), (10, .ptr 10 0)] [(4, .bx Z4), (7, .bx (cN n)), (8, .bx (cN d)), (9, .bx (cN u)), (10, .bx (cN v))] (by
    refine xDraw 1000 [2, 3] mixed ?_
    refine xY (i := 0) (op := .fieldAddr _ _ _) rfl (by (exact y_fieldAddr rfl)) rfl rfl rfl rfl (by kernel_rfl) ?_
    refine xY (i := 1) (op := .load _ _) rfl (by (exact y_loadA rfl rfl rfl)) rfl rfl rfl rfl (by kernel_rfl) ?_
    refine xY (i := 2) (op := .fieldAddr _ _ _) rfl (by (exact y_fieldAddr rfl)) rfl rfl rfl rfl (by kernel_rfl) ?_
    refine xY (i := 3) (op := .load _ _) rfl (by (exact y_loadA rfl rfl rfl)) rfl rfl rfl rfl (by kernel_rfl) ?_
    refine xY (i := 4) (op := .fieldAddr _ _ _) rfl (by (exact y_fieldAddr rfl)) rfl rfl rfl rfl (by kernel_rfl) ?_
    refine xY (i := 5) (op := .load _ _) rfl (by (exact y_loadA rfl rfl rfl)) rfl rfl rfl rfl (by kernel_rfl) ?_
    refine xY (i := 6) (op := .fieldAddr _ _ _) rfl (by (exact y_fieldAddr rfl)) rfl rfl rfl rfl (by kernel_rfl) ?_
    refine xY (i := 7) (op := .load _ _) rfl (by (exact y_loadA rfl rfl rfl)) rfl rfl rfl rfl (by kernel_rfl) ?_
    refine xAll (rs := [8, 9, 10, 11]) (by kernel_rfl) rfl ⟨?_, ?_, ?_, ?_, trivial⟩
    · (refine iE rfl (e_alloc rfl rfl rfl) rfl rfl ?_)
      refine xAll (rs := [9, 10, 11]) (by kernel_rfl) rfl ⟨?_, ?_, ?_, trivial⟩
      · (refine iE rfl (e_alloc rfl rfl rfl) rfl rfl ?_)
        refine xAll (rs := [10, 11]) (by kernel_rfl) rfl ⟨?_, ?_, trivial⟩
        · (refine iE rfl (e_alloc rfl rfl rfl) rfl rfl ?_)
          refine xAll (rs := [11]) (by kernel_rfl) rfl ⟨?_, trivial⟩
          · (refine iE rfl (e_alloc rfl rfl rfl) rfl rfl ?_)
            refine xAll (rs := [12]) (by kernel_rfl) rfl ⟨?_, trivial⟩
            · (refine iE rfl (e_store rfl rfl rfl rfl rfl rfl rfl) rfl rfl ?_)
              refine xAll (rs := [13]) (by kernel_rfl) rfl ⟨?_, trivial⟩
              · (refine iE rfl (e_store rfl rfl rfl rfl rfl rfl rfl) rfl rfl ?_)
                refine xAll (rs := [14]) (by kernel_rfl) rfl ⟨?_, trivial⟩
                · (refine iE rfl (e_store rfl rfl rfl rfl rfl rfl rfl) rfl rfl ?_)
                  refine xAll (rs := [15]) (by kernel_rfl) rfl ⟨?_, trivial⟩
                  · (refine iE rfl (e_store rfl rfl rfl rfl rfl rfl rfl) rfl rfl ?_)
                    exact xEnd (by kernel_rfl) ⟨rfl, by (repeat (first | exact sub_nil | refine sub_cons rfl ?_)), by (repeat (first | exact subH_nil | refine subH_cons rfl ?_))⟩
        · (refine iE rfl (e_alloc rfl rfl rfl) rfl rfl ?_)
          refine xAll (rs := [10]) (by kernel_rfl) rfl ⟨?_, trivial⟩
          · (refine iE rfl (e_alloc rfl rfl rfl) rfl rfl ?_)
            refine xAll (rs := [12]) (by kernel_rfl) rfl ⟨?_, trivial⟩
            · (refine iE rfl (e_store rfl rfl rfl rfl rfl rfl rfl) rfl rfl ?_)
              refine xAll (rs := [13]) (by kernel_rfl) rfl ⟨?_, trivial⟩
              · (refine iE rfl (e_store rfl rfl rfl rfl rfl rfl rfl) rfl rfl ?_)
                refine xAll (rs := [14]) (by kernel_rfl) rfl ⟨?_, trivial⟩
                · (refine iE rfl (e_store rfl rfl rfl rfl rfl rfl rfl) rfl rfl ?_)
                  refine xAll (rs := [15]) (by kernel_rfl) rfl ⟨?_, trivial⟩
                  · (refine iE rfl (e_store rfl rfl rfl rfl rfl rfl rfl) rfl rfl ?_)
                    exact xEnd (by kernel_rfl) ⟨rfl, by (repeat (first | exact sub_nil | refine sub_cons rfl ?_)), by (repeat (first | exact subH_nil | refine subH_cons rfl ?_))⟩
      · (refine iE rfl (e_alloc rfl rfl rfl) rfl rfl ?_)
        refine xAll (rs := [9, 11]) (by kernel_rfl) rfl ⟨?_, ?_, trivial⟩
        · (refine iE rfl (e_alloc rfl rfl rfl) rfl rfl ?_)
          refine xAll (rs := [11]) (by kernel_rfl) rfl ⟨?_, trivial⟩
          · (refine iE rfl (e_alloc rfl rfl rfl) rfl rfl ?_)
            refine xAll (rs := [12]) (by kernel_rfl) rfl ⟨?_, trivial⟩
            · (refine iE rfl (e_store rfl rfl rfl rfl rfl rfl rfl) rfl rfl ?_)
              refine xAll (rs := [13]) (by kernel_rfl) rfl ⟨?_, trivial⟩
              · (refine iE rfl (e_store rfl rfl rfl rfl rfl rfl rfl) rfl rfl ?_)
                refine xAll (rs := [14]) (by kernel_rfl) rfl ⟨?_, trivial⟩
                · (refine iE rfl (e_store rfl rfl rfl rfl rfl rfl rfl) rfl rfl ?_)
                  refine xAll (rs := [15]) (by kernel_rfl) rfl ⟨?_, trivial⟩
                  · (refine iE rfl (e_store rfl rfl rfl rfl rfl rfl rfl) rfl rfl ?_)
                    exact xEnd (by kernel_rfl) ⟨rfl, by (repeat (first | exact sub_nil | refine sub_cons rfl ?_)), by (repeat (first | exact subH_nil | refine subH_cons rfl ?_))⟩
        · (refine iE rfl (e_alloc rfl rfl rfl) rfl rfl ?_)
          refine xAll (rs := [9]) (by kernel_rfl) rfl ⟨?_, trivial⟩
          · (refine iE rfl (e_alloc rfl rfl rfl) rfl rfl ?_)
            refine xAll (rs := [12]) (by kernel_rfl) rfl ⟨?_, trivial⟩
            · (refine iE rfl (e_store rfl rfl rfl rfl rfl rfl rfl) rfl rfl ?_)
              refine xAll (rs := [13]) (by kernel_rfl) rfl ⟨?_, trivial⟩
              · (refine iE rfl (e_store rfl rfl rfl rfl rfl rfl rfl) rfl rfl ?_)
                refine xAll (rs := [14]) (by kernel_rfl) rfl ⟨?_, trivial⟩
                · (refine iE rfl (e_store rfl rfl rfl rfl rfl rfl rfl) rfl rfl ?_)
                  refine xAll (rs := [15]) (by kernel_rfl) rfl ⟨?_, trivial⟩
                  · (refine iE rfl (e_store rfl rfl rfl rfl rfl rfl rfl) rfl rfl ?_)
                    exact xEnd (by kernel_rfl) ⟨rfl, by (repeat (first | exact sub_nil | refine sub_cons rfl ?_)), by (repeat (first | exact subH_nil | refine subH_cons rfl ?_))⟩
      · (refine iE rfl (e_alloc rfl rfl rfl) rfl rfl ?_)
        refine xAll (rs := [9, 10]) (by kernel_rfl) rfl ⟨?_, ?_, trivial⟩
        · (refine iE rfl (e_alloc rfl rfl rfl) rfl rfl ?_)
          refine xAll (rs := [10]) (by kernel_rfl) rfl ⟨?_, trivial⟩
          · (refine iE rfl (e_alloc rfl rfl rfl) rfl rfl ?_)
            refine xAll (rs := [12]) (by kernel_rfl) rfl ⟨?_, trivial⟩
            · (refine iE rfl (e_store rfl rfl rfl rfl rfl rfl rfl) rfl rfl ?_)
              refine xAll (rs := [13]) (by kernel_rfl) rfl ⟨?_, trivial⟩
              · (refine iE rfl (e_store rfl rfl rfl rfl rfl rfl rfl) rfl rfl ?_)
                refine xAll (rs := [14]) (by kernel_rfl) rfl ⟨?_, trivial⟩
                · (refine iE rfl (e_store rfl rfl rfl rfl rfl rfl rfl) rfl rfl ?_)
                  refine xAll (rs := [15]) (by kernel_rfl) rfl ⟨?_, trivial⟩
                  · (refine iE rfl (e_store rfl rfl rfl rfl rfl rfl rfl) rfl rfl ?_)
                    exact xEnd (by kernel_rfl) ⟨rfl, by (repeat (first | exact sub_nil | refine sub_cons rfl ?_)), by (repeat (first | exact subH_nil | refine subH_cons rfl ?_))⟩
        · (refine iE rfl (e_alloc rfl rfl rfl) rfl rfl ?_)
          refine xAll (rs := [9]) (by kernel_rfl) rfl ⟨?_, trivial⟩
          · (refine iE rfl (e_alloc rfl rfl rfl) rfl rfl ?_)
            refine xAll (rs := [12]) (by kernel_rfl) rfl ⟨?_, trivial⟩
            · (refine iE rfl (e_store rfl rfl rfl rfl rfl rfl rfl) rfl rfl ?_)
              refine xAll (rs := [13]) (by kernel_rfl) rfl ⟨?_, trivial⟩
              · (refine iE rfl (e_store rfl rfl rfl rfl rfl rfl rfl) rfl rfl ?_)
                refine xAll (rs := [14]) (by kernel_rfl) rfl ⟨?_, trivial⟩
                · (refine iE rfl (e_store rfl rfl rfl rfl rfl rfl rfl) rfl rfl ?_)
                  refine xAll (rs := [15]) (by kernel_rfl) rfl ⟨?_, trivial⟩
                  · (refine iE rfl (e_store rfl rfl rfl rfl rfl rfl rfl) rfl rfl ?_)
                    exact xEnd (by kernel_rfl) ⟨rfl, by (repeat (first | exact sub_nil | refine sub_cons rfl ?_)), by (repeat (first | exact subH_nil | refine subH_cons rfl ?_))⟩
    · (refine iE rfl (e_alloc rfl rfl rfl) rfl rfl ?_)
      refine xAll (rs := [8, 10, 11]) (by kernel_rfl) rfl ⟨?_, ?_, ?_, trivial⟩
      · (refine iE rfl (e_alloc rfl rfl rfl) rfl rfl ?_)
        refine xAll (rs := [10, 11]) (by kernel_rfl) rfl ⟨?_, ?_, trivial⟩
        · (refine iE rfl (e_alloc rfl rfl rfl) rfl rfl ?_)
          refine xAll (rs := [11]) (by kernel_rfl) rfl ⟨?_, trivial⟩
          · (refine iE rfl (e_alloc rfl rfl rfl) rfl rfl ?_)
            refine xAll (rs := [12]) (by kernel_rfl) rfl ⟨?_, trivial⟩
            · (refine iE rfl (e_store rfl rfl rfl rfl rfl rfl rfl) rfl rfl ?_)
              refine xAll (rs := [13]) (by kernel_rfl) rfl ⟨?_, trivial⟩
              · (refine iE rfl (e_store rfl rfl rfl rfl rfl rfl rfl) rfl rfl ?_)
                refine xAll (rs := [14]) (by kernel_rfl) rfl ⟨?_, trivial⟩
                · (refine iE rfl (e_store rfl rfl rfl rfl rfl rfl rfl) rfl rfl ?_)
                  refine xAll (rs := [15]) (by kernel_rfl) rfl ⟨?_, trivial⟩
                  · (refine iE rfl (e_store rfl rfl rfl rfl rfl rfl rfl) rfl rfl ?_)
                    exact xEnd (by kernel_rfl) ⟨rfl, by (repeat (first | exact sub_nil | refine sub_cons rfl ?_)), by (repeat (first | exact subH_nil | refine subH_cons rfl ?_))⟩
        · (refine iE rfl (e_alloc rfl rfl rfl) rfl rfl ?_)
          refine xAll (rs := [10]) (by kernel_rfl) rfl ⟨?_, trivial⟩
          · (refine iE rfl (e_alloc rfl rfl rfl) rfl rfl ?_)
            refine xAll (rs := [12]) (by kernel_rfl) rfl ⟨?_, trivial⟩
            · (refine iE rfl (e_store rfl rfl rfl rfl rfl rfl rfl) rfl rfl ?_)
              refine xAll (rs := [13]) (by kernel_rfl) rfl ⟨?_, trivial⟩
              · (refine iE rfl (e_store rfl rfl rfl rfl rfl rfl rfl) rfl rfl ?_)
                refine xAll (rs := [14]) (by kernel_rfl) rfl ⟨?_, trivial⟩
                · (refine iE rfl (e_store rfl rfl rfl rfl rfl rfl rfl) rfl rfl ?_)
                  refine xAll (rs := [15]) (by kernel_rfl) rfl ⟨?_, trivial⟩
                  · (refine iE rfl (e_store rfl rfl rfl rfl rfl rfl rfl) rfl rfl ?_)
                    exact xEnd (by kernel_rfl) ⟨rfl, by (repeat (first | exact sub_nil | refine sub_cons rfl ?_)), by (repeat (first | exact subH_nil | refine subH_cons rfl ?_))⟩
      · (refine iE rfl (e_alloc rfl rfl rfl) rfl rfl ?_)
        refine xAll (rs := [8, 11]) (by kernel_rfl) rfl ⟨?_, ?_, trivial⟩
        · (refine iE rfl (e_alloc rfl rfl rfl) rfl rfl ?_)
          refine xAll (rs := [11]) (by kernel_rfl) rfl ⟨?_, trivial⟩
          · (refine iE rfl (e_alloc rfl rfl rfl) rfl rfl ?_)
            refine xAll (rs := [12]) (by kernel_rfl) rfl ⟨?_, trivial⟩
            · (refine iE rfl (e_store rfl rfl rfl rfl rfl rfl rfl) rfl rfl ?_)
              refine xAll (rs := [13]) (by kernel_rfl) rfl ⟨?_, trivial⟩
              · (refine iE rfl (e_store rfl rfl rfl rfl rfl rfl rfl) rfl rfl ?_)
                refine xAll (rs := [14]) (by kernel_rfl) rfl ⟨?_, trivial⟩
                · (refine iE rfl (e_store rfl rfl rfl rfl rfl rfl rfl) rfl rfl ?_)
                  refine xAll (rs := [15]) (by kernel_rfl) rfl ⟨?_, trivial⟩
                  · (refine iE rfl (e_store rfl rfl rfl rfl rfl rfl rfl) rfl rfl ?_)
                    exact xEnd (by kernel_rfl) ⟨rfl, by (repeat (first | exact sub_nil | refine sub_cons rfl ?_)), by (repeat (first | exact subH_nil | refine subH_cons rfl ?_))⟩
        · (refine iE rfl (e_alloc rfl rfl rfl) rfl rfl ?_)
          refine xAll (rs := [8]) (by kernel_rfl) rfl ⟨?_, trivial⟩
          · (refine iE rfl (e_alloc rfl rfl rfl) rfl rfl ?_)
            refine xAll (rs := [12]) (by kernel_rfl) rfl ⟨?_, trivial⟩
            · (refine iE rfl (e_store rfl rfl rfl rfl rfl rfl rfl) rfl rfl ?_)
              refine xAll (rs := [13]) (by kernel_rfl) rfl ⟨?_, trivial⟩
              · (refine iE rfl (e_store rfl rfl rfl rfl rfl rfl rfl) rfl rfl ?_)
                refine xAll (rs := [14]) (by kernel_rfl) rfl ⟨?_, trivial⟩
                · (refine iE rfl (e_store rfl rfl rfl rfl rfl rfl rfl) rfl rfl ?_)
                  refine xAll (rs := [15]) (by kernel_rfl) rfl ⟨?_, trivial⟩
                  · (refine iE rfl (e_store rfl rfl rfl rfl rfl rfl rfl) rfl rfl ?_)
                    exact xEnd (by kernel_rfl) ⟨rfl, by (repeat (first | exact sub_nil | refine sub_cons rfl ?_)), by (repeat (first | exact subH_nil | refine subH_cons rfl ?_))⟩
      · (refine iE rfl (e_alloc rfl rfl rfl) rfl rfl ?_)
        refine xAll (rs := [8, 10]) (by kernel_rfl) rfl ⟨?_, ?_, trivial⟩
        · (refine iE rfl (e_alloc rfl rfl rfl) rfl rfl ?_)
          refine xAll (rs := [10]) (by kernel_rfl) rfl ⟨?_, trivial⟩
          · (refine iE rfl (e_alloc rfl rfl rfl) rfl rfl ?_)
            refine xAll (rs := [12]) (by kernel_rfl) rfl ⟨?_, trivial⟩
            · (refine iE rfl (e_store rfl rfl rfl rfl rfl rfl rfl) rfl rfl ?_)
              refine xAll (rs := [13]) (by kernel_rfl) rfl ⟨?_, trivial⟩
              · (refine iE rfl (e_store rfl rfl rfl rfl rfl rfl rfl) rfl rfl ?_)
                refine xAll (rs := [14]) (by kernel_rfl) rfl ⟨?_, trivial⟩
                · (refine iE rfl (e_store rfl rfl rfl rfl rfl rfl rfl) rfl rfl ?_)
                  refine xAll (rs := [15]) (by kernel_rfl) rfl ⟨?_, trivial⟩
                  · (refine iE rfl (e_store rfl rfl rfl rfl rfl rfl rfl) rfl rfl ?_)
                    exact xEnd (by kernel_rfl) ⟨rfl, by (repeat (first | exact sub_nil | refine sub_cons rfl ?_)), by (repeat (first | exact subH_nil | refine subH_cons rfl ?_))⟩
        · (refine iE rfl (e_alloc rfl rfl rfl) rfl rfl ?_)
          refine xAll (rs := [8]) (by kernel_rfl) rfl ⟨?_, trivial⟩
          · (refine iE rfl (e_alloc rfl rfl rfl) rfl rfl ?_)
            refine xAll (rs := [12]) (by kernel_rfl) rfl ⟨?_, trivial⟩
            · (refine iE rfl (e_store rfl rfl rfl rfl rfl rfl rfl) rfl rfl ?_)
              refine xAll (rs := [13]) (by kernel_rfl) rfl ⟨?_, trivial⟩
              · (refine iE rfl (e_store rfl rfl rfl rfl rfl rfl rfl) rfl rfl ?_)
                refine xAll (rs := [14]) (by kernel_rfl) rfl ⟨?_, trivial⟩
                · (refine iE rfl (e_store rfl rfl rfl rfl rfl rfl rfl) rfl rfl ?_)
                  refine xAll (rs := [15]) (by kernel_rfl) rfl ⟨?_, trivial⟩
                  · (refine iE rfl (e_store rfl rfl rfl rfl rfl rfl rfl) rfl rfl ?_)
                    exact xEnd (by kernel_rfl) ⟨rfl, by (repeat (first | exact sub_nil | refine sub_cons rfl ?_)), by (repeat (first | exact subH_nil | refine subH_cons rfl ?_))⟩
    · (refine iE rfl (e_alloc rfl rfl rfl) rfl rfl ?_)
      refine xAll (rs := [8, 9, 11]) (by kernel_rfl) rfl ⟨?_, ?_, ?_, trivial⟩
      · (refine iE rfl (e_alloc rfl rfl rfl) rfl rfl ?_)
        refine xAll (rs := [9, 11]) (by kernel_rfl) rfl ⟨?_, ?_, trivial⟩
        · (refine iE rfl (e_alloc rfl rfl rfl) rfl rfl ?_)
          refine xAll (rs := [11]) (by kernel_rfl) rfl ⟨?_, trivial⟩
          · (refine iE rfl (e_alloc rfl rfl rfl) rfl rfl ?_)
            refine xAll (rs := [12]) (by kernel_rfl) rfl ⟨?_, trivial⟩
            · (refine iE rfl (e_store rfl rfl rfl rfl rfl rfl rfl) rfl rfl ?_)
              refine xAll (rs := [13]) (by kernel_rfl) rfl ⟨?_, trivial⟩
              · (refine iE rfl (e_store rfl rfl rfl rfl rfl rfl rfl) rfl rfl ?_)
                refine xAll (rs := [14]) (by kernel_rfl) rfl ⟨?_, trivial⟩
                · (refine iE rfl (e_store rfl rfl rfl rfl rfl rfl rfl) rfl rfl ?_)
                  refine xAll (rs := [15]) (by kernel_rfl) rfl ⟨?_, trivial⟩
                  · (refine iE rfl (e_store rfl rfl rfl rfl rfl rfl rfl) rfl rfl ?_)
                    exact xEnd (by kernel_rfl) ⟨rfl, by (repeat (first | exact sub_nil | refine sub_cons rfl ?_)), by (repeat (first | exact subH_nil | refine subH_cons rfl ?_))⟩
        · (refine iE rfl (e_alloc rfl rfl rfl) rfl rfl ?_)
          refine xAll (rs := [9]) (by kernel_rfl) rfl ⟨?_, trivial⟩
          · (refine iE rfl (e_alloc rfl rfl rfl) rfl rfl ?_)
            refine xAll (rs := [12]) (by kernel_rfl) rfl ⟨?_, trivial⟩
            · (refine iE rfl (e_store rfl rfl rfl rfl rfl rfl rfl) rfl rfl ?_)
              refine xAll (rs := [13]) (by kernel_rfl) rfl ⟨?_, trivial⟩
              · (refine iE rfl (e_store rfl rfl rfl rfl rfl rfl rfl) rfl rfl ?_)
                refine xAll (rs := [14]) (by kernel_rfl) rfl ⟨?_, trivial⟩
                · (refine iE rfl (e_store rfl rfl rfl rfl rfl rfl rfl) rfl rfl ?_)
                  refine xAll (rs := [15]) (by kernel_rfl) rfl ⟨?_, trivial⟩
                  · (refine iE rfl (e_store rfl rfl rfl rfl rfl rfl rfl) rfl rfl ?_)
                    exact xEnd (by kernel_rfl) ⟨rfl, by (repeat (first | exact sub_nil | refine sub_cons rfl ?_)), by (repeat (first | exact subH_nil | refine subH_cons rfl ?_))⟩
      · (refine iE rfl (e_alloc rfl rfl rfl) rfl rfl ?_)
        refine xAll (rs := [8, 11]) (by kernel_rfl) rfl ⟨?_, ?_, trivial⟩
        · (refine iE rfl (e_alloc rfl rfl rfl) rfl rfl ?_)
          refine xAll (rs := [11]) (by kernel_rfl) rfl ⟨?_, trivial⟩
          · (refine iE rfl (e_alloc rfl rfl rfl) rfl rfl ?_)
            refine xAll (rs := [12]) (by kernel_rfl) rfl ⟨?_, trivial⟩
            · (refine iE rfl (e_store rfl rfl rfl rfl rfl rfl rfl) rfl rfl ?_)
              refine xAll (rs := [13]) (by kernel_rfl) rfl ⟨?_, trivial⟩
              · (refine iE rfl (e_store rfl rfl rfl rfl rfl rfl rfl) rfl rfl ?_)
                refine xAll (rs := [14]) (by kernel_rfl) rfl ⟨?_, trivial⟩
                · (refine iE rfl (e_store rfl rfl rfl rfl rfl rfl rfl) rfl rfl ?_)
                  refine xAll (rs := [15]) (by kernel_rfl) rfl ⟨?_, trivial⟩
                  · (refine iE rfl (e_store rfl rfl rfl rfl rfl rfl rfl) rfl rfl ?_)
                    exact xEnd (by kernel_rfl) ⟨rfl, by (repeat (first | exact sub_nil | refine sub_cons rfl ?_)), by (repeat (first | exact subH_nil | refine subH_cons rfl ?_))⟩
        · (refine iE rfl (e_alloc rfl rfl rfl) rfl rfl ?_)
          refine xAll (rs := [8]) (by kernel_rfl) rfl ⟨?_, trivial⟩
          · (refine iE rfl (e_alloc rfl rfl rfl) rfl rfl ?_)
            refine xAll (rs := [12]) (by kernel_rfl) rfl ⟨?_, trivial⟩
            · (refine iE rfl (e_store rfl rfl rfl rfl rfl rfl rfl) rfl rfl ?_)
              refine xAll (rs := [13]) (by kernel_rfl) rfl ⟨?_, trivial⟩
              · (refine iE rfl (e_store rfl rfl rfl rfl rfl rfl rfl) rfl rfl ?_)
                refine xAll (rs := [14]) (by kernel_rfl) rfl ⟨?_, trivial⟩
                · (refine iE rfl (e_store rfl rfl rfl rfl rfl rfl rfl) rfl rfl ?_)
                  refine xAll (rs := [15]) (by kernel_rfl) rfl ⟨?_, trivial⟩
                  · (refine iE rfl (e_store rfl rfl rfl rfl rfl rfl rfl) rfl rfl ?_)
                    exact xEnd (by kernel_rfl) ⟨rfl, by (repeat (first | exact sub_nil | refine sub_cons rfl ?_)), by (repeat (first | exact subH_nil | refine subH_cons rfl ?_))⟩
      · (refine iE rfl (e_alloc rfl rfl rfl) rfl rfl ?_)
        refine xAll (rs := [8, 9]) (by kernel_rfl) rfl ⟨?_, ?_, trivial⟩
        · (refine iE rfl (e_alloc rfl rfl rfl) rfl rfl ?_)
          refine xAll (rs := [9]) (by kernel_rfl) rfl ⟨?_, trivial⟩
          · (refine iE rfl (e_alloc rfl rfl rfl) rfl rfl ?_)
            refine xAll (rs := [12]) (by kernel_rfl) rfl ⟨?_, trivial⟩
            · (refine iE rfl (e_store rfl rfl rfl rfl rfl rfl rfl) rfl rfl ?_)
              refine xAll (rs := [13]) (by kernel_rfl) rfl ⟨?_, trivial⟩
              · (refine iE rfl (e_store rfl rfl rfl rfl rfl rfl rfl) rfl rfl ?_)
                refine xAll (rs := [14]) (by kernel_rfl) rfl ⟨?_, trivial⟩
                · (refine iE rfl (e_store rfl rfl rfl rfl rfl rfl rfl) rfl rfl ?_)
                  refine xAll (rs := [15]) (by kernel_rfl) rfl ⟨?_, trivial⟩
                  · (refine iE rfl (e_store rfl rfl rfl rfl rfl rfl rfl) rfl rfl ?_)
                    exact xEnd (by kernel_rfl) ⟨rfl, by (repeat (first | exact sub_nil | refine sub_cons rfl ?_)), by (repeat (first | exact subH_nil | refine subH_cons rfl ?_))⟩
        · (refine iE rfl (e_alloc rfl rfl rfl) rfl rfl ?_)
          refine xAll (rs := [8]) (by kernel_rfl) rfl ⟨?_, trivial⟩
          · (refine iE rfl (e_alloc rfl rfl rfl) rfl rfl ?_)
            refine xAll (rs := [12]) (by kernel_rfl) rfl ⟨?_, trivial⟩
            · (refine iE rfl (e_store rfl rfl rfl rfl rfl rfl rfl) rfl rfl ?_)
              refine xAll (rs := [13]) (by kernel_rfl) rfl ⟨?_, trivial⟩
              · (refine iE rfl (e_store rfl rfl rfl rfl rfl rfl rfl) rfl rfl ?_)
                refine xAll (rs := [14]) (by kernel_rfl) rfl ⟨?_, trivial⟩
                · (refine iE rfl (e_store rfl rfl rfl rfl rfl rfl rfl) rfl rfl ?_)
                  refine xAll (rs := [15]) (by kernel_rfl) rfl ⟨?_, trivial⟩
                  · (refine iE rfl (e_store rfl rfl rfl rfl rfl rfl rfl) rfl rfl ?_)
                    exact xEnd (by kernel_rfl) ⟨rfl, by (repeat (first | exact sub_nil | refine sub_cons rfl ?_)), by (repeat (first | exact subH_nil | refine subH_cons rfl ?_))⟩
    · (refine iE rfl (e_alloc rfl rfl rfl) rfl rfl ?_)
      refine xAll (rs := [8, 9, 10]) (by kernel_rfl) rfl ⟨?_, ?_, ?_, trivial⟩
      · (refine iE rfl (e_alloc rfl rfl rfl) rfl rfl ?_)
        refine xAll (rs := [9, 10]) (by kernel_rfl) rfl ⟨?_, ?_, trivial⟩
        · (refine iE rfl (e_alloc rfl rfl rfl) rfl rfl ?_)
          refine xAll (rs := [10]) (by kernel_rfl) rfl ⟨?_, trivial⟩
          · (refine iE rfl (e_alloc rfl rfl rfl) rfl rfl ?_)
            refine xAll (rs := [12]) (by kernel_rfl) rfl ⟨?_, trivial⟩
            · (refine iE rfl (e_store rfl rfl rfl rfl rfl rfl rfl) rfl rfl ?_)
              refine xAll (rs := [13]) (by kernel_rfl) rfl ⟨?_, trivial⟩
              · (refine iE rfl (e_store rfl rfl rfl rfl rfl rfl rfl) rfl rfl ?_)
                refine xAll (rs := [14]) (by kernel_rfl) rfl ⟨?_, trivial⟩
                · (refine iE rfl (e_store rfl rfl rfl rfl rfl rfl rfl) rfl rfl ?_)
                  refine xAll (rs := [15]) (by kernel_rfl) rfl ⟨?_, trivial⟩
                  · (refine iE rfl (e_store rfl rfl rfl rfl rfl rfl rfl) rfl rfl ?_)
                    exact xEnd (by kernel_rfl) ⟨rfl, by (repeat (first | exact sub_nil | refine sub_cons rfl ?_)), by (repeat (first | exact subH_nil | refine subH_cons rfl ?_))⟩
        · (refine iE rfl (e_alloc rfl rfl rfl) rfl rfl ?_)
          refine xAll (rs := [9]) (by kernel_rfl) rfl ⟨?_, trivial⟩
          · (refine iE rfl (e_alloc rfl rfl rfl) rfl rfl ?_)
            refine xAll (rs := [12]) (by kernel_rfl) rfl ⟨?_, trivial⟩
            · (refine iE rfl (e_store rfl rfl rfl rfl rfl rfl rfl) rfl rfl ?_)
              refine xAll (rs := [13]) (by kernel_rfl) rfl ⟨?_, trivial⟩
              · (refine iE rfl (e_store rfl rfl rfl rfl rfl rfl rfl) rfl rfl ?_)
                refine xAll (rs := [14]) (by kernel_rfl) rfl ⟨?_, trivial⟩
                · (refine iE rfl (e_store rfl rfl rfl rfl rfl rfl rfl) rfl rfl ?_)
                  refine xAll (rs := [15]) (by kernel_rfl) rfl ⟨?_, trivial⟩
                  · (refine iE rfl (e_store rfl rfl rfl rfl rfl rfl rfl) rfl rfl ?_)
                    exact xEnd (by kernel_rfl) ⟨rfl, by (repeat (first | exact sub_nil | refine sub_cons rfl ?_)), by (repeat (first | exact subH_nil | refine subH_cons rfl ?_))⟩
      · (refine iE rfl (e_alloc rfl rfl rfl) rfl rfl ?_)
        refine xAll (rs := [8, 10]) (by kernel_rfl) rfl ⟨?_, ?_, trivial⟩
        · (refine iE rfl (e_alloc rfl rfl rfl) rfl rfl ?_)
          refine xAll (rs := [10]) (by kernel_rfl) rfl ⟨?_, trivial⟩
          · (refine iE rfl (e_alloc rfl rfl rfl) rfl rfl ?_)
            refine xAll (rs := [12]) (by kernel_rfl) rfl ⟨?_, trivial⟩
            · (refine iE rfl (e_store rfl rfl rfl rfl rfl rfl rfl) rfl rfl ?_)
              refine xAll (rs := [13]) (by kernel_rfl) rfl ⟨?_, trivial⟩
              · (refine iE rfl (e_store rfl rfl rfl rfl rfl rfl rfl) rfl rfl ?_)
                refine xAll (rs := [14]) (by kernel_rfl) rfl ⟨?_, trivial⟩
                · (refine iE rfl (e_store rfl rfl rfl rfl rfl rfl rfl) rfl rfl ?_)
                  refine xAll (rs := [15]) (by kernel_rfl) rfl ⟨?_, trivial⟩
                  · (refine iE rfl (e_store rfl rfl rfl rfl rfl rfl rfl) rfl rfl ?_)
                    exact xEnd (by kernel_rfl) ⟨rfl, by (repeat (first | exact sub_nil | refine sub_cons rfl ?_)), by (repeat (first | exact subH_nil | refine subH_cons rfl ?_))⟩
        · (refine iE rfl (e_alloc rfl rfl rfl) rfl rfl ?_)
          refine xAll (rs := [8]) (by kernel_rfl) rfl ⟨?_, trivial⟩
          · (refine iE rfl (e_alloc rfl rfl rfl) rfl rfl ?_)
            refine xAll (rs := [12]) (by kernel_rfl) rfl ⟨?_, trivial⟩
            · (refine iE rfl (e_store rfl rfl rfl rfl rfl rfl rfl) rfl rfl ?_)
              refine xAll (rs := [13]) (by kernel_rfl) rfl ⟨?_, trivial⟩
              · (refine iE rfl (e_store rfl rfl rfl rfl rfl rfl rfl) rfl rfl ?_)
                refine xAll (rs := [14]) (by kernel_rfl) rfl ⟨?_, trivial⟩
                · (refine iE rfl (e_store rfl rfl rfl rfl rfl rfl rfl) rfl rfl ?_)
                  refine xAll (rs := [15]) (by kernel_rfl) rfl ⟨?_, trivial⟩
                  · (refine iE rfl (e_store rfl rfl rfl rfl rfl rfl rfl) rfl rfl ?_)
                    exact xEnd (by kernel_rfl) ⟨rfl, by (repeat (first | exact sub_nil | refine sub_cons rfl ?_)), by (repeat (first | exact subH_nil | refine subH_cons rfl ?_))⟩
      · (refine iE rfl (e_alloc rfl rfl rfl) rfl rfl ?_)
        refine xAll (rs := [8, 9]) (by kernel_rfl) rfl ⟨?_, ?_, trivial⟩
        · (refine iE rfl (e_alloc rfl rfl rfl) rfl rfl ?_)
          refine xAll (rs := [9]) (by kernel_rfl) rfl ⟨?_, trivial⟩
          · (refine iE rfl (e_alloc rfl rfl rfl) rfl rfl ?_)
            refine xAll (rs := [12]) (by kernel_rfl) rfl ⟨?_, trivial⟩
            · (refine iE rfl (e_store rfl rfl rfl rfl rfl rfl rfl) rfl rfl ?_)
              refine xAll (rs := [13]) (by kernel_rfl) rfl ⟨?_, trivial⟩
              · (refine iE rfl (e_store rfl rfl rfl rfl rfl rfl rfl) rfl rfl ?_)
                refine xAll (rs := [14]) (by kernel_rfl) rfl ⟨?_, trivial⟩
                · (refine iE rfl (e_store rfl rfl rfl rfl rfl rfl rfl) rfl rfl ?_)
                  refine xAll (rs := [15]) (by kernel_rfl) rfl ⟨?_, trivial⟩
                  · (refine iE rfl (e_store rfl rfl rfl rfl rfl rfl rfl) rfl rfl ?_)
                    exact xEnd (by kernel_rfl) ⟨rfl, by (repeat (first | exact sub_nil | refine sub_cons rfl ?_)), by (repeat (first | exact subH_nil | refine subH_cons rfl ?_))⟩
        · (refine iE rfl (e_alloc rfl rfl rfl) rfl rfl ?_)
          refine xAll (rs := [8]) (by kernel_rfl) rfl ⟨?_, trivial⟩
          · (refine iE rfl (e_alloc rfl rfl rfl) rfl rfl ?_)
            refine xAll (rs := [12]) (by kernel_rfl) rfl ⟨?_, trivial⟩
            · (refine iE rfl (e_store rfl rfl rfl rfl rfl rfl rfl) rfl rfl ?_)
              refine xAll (rs := [13]) (by kernel_rfl) rfl ⟨?_, trivial⟩
              · (refine iE rfl (e_store rfl rfl rfl rfl rfl rfl rfl) rfl rfl ?_)
                refine xAll (rs := [14]) (by kernel_rfl) rfl ⟨?_, trivial⟩
                · (refine iE rfl (e_store rfl rfl rfl rfl rfl rfl rfl) rfl rfl ?_)
                  refine xAll (rs := [15]) (by kernel_rfl) rfl ⟨?_, trivial⟩
                  · (refine iE rfl (e_store rfl rfl rfl rfl rfl rfl rfl) rfl rfl ?_)
                    exact xEnd (by kernel_rfl) ⟨rfl, by (repeat (first | exact sub_nil | refine sub_cons rfl ?_)), by (repeat (first | exact subH_nil | refine subH_cons rfl ?_))⟩
    ) ?_
  refine mcut_ [(4, .ptr 4 0), (5, .p (I 0)), (6, .p (.v (.slice none 0 0))), (7, .ptr 7 0), (8, .ptr 8 0), (9, .ptr 9 0), (10, .ptr 10 0), (11, .ptr 11 0)] [(4, .bx Z4), (7, .bx (cN n)), (8, .bx (cN d)), (9, .bx (cN u)), (10, .bx (cN v)), (11, .bx [Bo false, .v (.slice none 0 0)])] (by
    repeat (first | refine region_ ?_ | refine nil_ ?_ | refine stepE (e_alloc rfl rfl rfl) ?_)
    exact ⟨rfl, by (repeat (first | exact sub_nil | refine sub_cons rfl ?_)), by (repeat (first | exact subH_nil | refine subH_cons rfl ?_))⟩) ?_
  have hLI := LI.start g1 hn l1 l2 l3 l4
  generalize sq n d u v = R at *
  refine mcutK_ (fun E' H' => ∃ fl e, LX R fl e ∧ (∀ i x, lk i [(4, TV.ptr 4 0), (5, .p (I 0)), (6, .vec 6), (11, .ptr 11 0)] = some x → lk i E' = some x) ∧ (∀ i m, hk i [(4, MB.bx Z4), (6, .vs 24 2 (fl.map fE)), (11, .bx [Bo false, FM e])] = some m → hk i H' = some m)) ?_ ?_
  · refine block_ ?_
    refine nil_Cs (i := 6) 24 2 rfl rfl rfl ?_
    refine loop_ (α := List Nat × Nat × Nat × Nat × Nat) (fun s => ([(4, .ptr 4 0), (5, .p (I 0)), (6, .vec 6), (7, .ptr 7 0), (8, .ptr 8 0), (9, .ptr 9 0), (10, .ptr 10 0), (11, .ptr 11 0)], [(4, .bx Z4), (6, .vs 24 2 (s.1.map fE)), (7, .bx (cN s.2.1)), (8, .bx (cN s.2.2.1)), (9, .bx (cN s.2.2.2.1)), (10, .bx (cN s.2.2.2.2)), (11, .bx [Bo false, .v (.slice none 0 0)])]))
      (fun s => LI R s.1 s.2.1 s.2.2.1 s.2.2.2.1 s.2.2.2.2) (fun s => s.2.2.1 + s.2.2.2.2) ([], n, d, u, v) hLI ?_ ?_ ?_
    · (repeat (first | exact sub_nil | refine sub_cons rfl ?_))
    · (repeat (first | exact subH_nil | refine subH_cons rfl ?_))
    rintro ⟨fl, n, d, u, v⟩ li
    dsimp only at li ⊢
    have hD1 := DivMod_n n d li.gd.dp li.ln1 li.ln2
    have hD2 := DivMod_n u v li.gd.vp li.ln3 li.ln4
    have lf : ln (n / d) ≤ 512 := Nat.le_trans (ln_mono (Nat.div_le_self _ _)) li.ln1
    have lg : ln (u / v) ≤ 512 := Nat.le_trans (ln_mono (Nat.div_le_self _ _)) li.ln3
    have hlr : ((limbs (n % d)).length : Int) = ln (n % d) := by rw [limbs_length]
    by_cases h1 : n % d = 0
    · have hx := li.end0 h1
      have hr0 : ln (n % d) = 0 := by rw [h1]; rfl
      repeat (first | refine seq_ ?_ | refine region_ ?_ | refine block_ ?_ | refine stepY (y_loadA rfl rfl rfl) rfl ?_)
      refine call_ Tryz.func41 rfl rfl (hD1) rfl (by repeat (first | exact .refl _ | apply Les.cons | exact .nil)) rfl ?_
      repeat (first | refine seq_ ?_ | refine region_ ?_ | refine nil_ ?_ | refine stepY (y_move rfl) rfl ?_ | refine stepY (y_assign rfl) rfl ?_ | refine stepY (y_loadA rfl rfl rfl) rfl ?_ | refine stepY (y_extract rfl rfl) rfl ?_ | refine stepE (e_alloc rfl rfl rfl) ?_ | refine stepE (e_store rfl rfl rfl rfl rfl rfl rfl) ?_)
      refine call_ Tryz.func41 rfl rfl (hD2) rfl (by repeat (first | exact .refl _ | apply Les.cons | exact .nil)) rfl ?_
      repeat (first | refine seq_ ?_ | refine region_ ?_ | refine nil_ ?_ | refine exit_ ?_ | refine cond_t rfl ?_ | refine stepY (y_move rfl) rfl ?_ | refine stepY (y_assign rfl) rfl ?_ | (first | refine stepY (y_load1 rfl rfl rfl) rfl ?_ | refine stepY (y_loadA rfl rfl rfl) rfl ?_) | refine stepY (y_fieldAddr rfl) rfl ?_ | refine stepY (y_extract rfl rfl) rfl ?_ | refine stepY (y_len_si rfl) rfl ?_ | refine stepY (y_cmpT rfl rfl rfl (by omega)) rfl ?_ | refine stepE (e_alloc rfl rfl rfl) ?_ | refine stepE (e_store rfl rfl rfl rfl rfl rfl rfl) ?_)
      exact ⟨rfl, fl, n / d, hx, by (repeat (first | exact sub_nil | refine sub_cons rfl ?_)), by (repeat (first | exact subH_nil | refine subH_cons rfl ?_))⟩
    · have hrp := ln_pos.2 (Nat.pos_of_ne_zero h1)
      have hC := Cmp_n (n / d) (u / v) lf lg
      by_cases h2 : n / d = u / v
      · have hst := li.step h1 h2
        have hlt := (li.gd.step h1 h2).2
        have hfl := li.len
        rw [show sg (n / d) (u / v) = 0 by rw [h2, sg_eq]] at hC
        repeat (first | refine seq_ ?_ | refine region_ ?_ | refine block_ ?_ | refine stepY (y_loadA rfl rfl rfl) rfl ?_)
        refine call_ Tryz.func41 rfl rfl (hD1) rfl (by repeat (first | exact .refl _ | apply Les.cons | exact .nil)) rfl ?_
        repeat (first | refine seq_ ?_ | refine region_ ?_ | refine nil_ ?_ | refine stepY (y_move rfl) rfl ?_ | refine stepY (y_assign rfl) rfl ?_ | refine stepY (y_loadA rfl rfl rfl) rfl ?_ | refine stepY (y_extract rfl rfl) rfl ?_ | refine stepE (e_alloc rfl rfl rfl) ?_ | refine stepE (e_store rfl rfl rfl rfl rfl rfl rfl) ?_)
        refine call_ Tryz.func41 rfl rfl (hD2) rfl (by repeat (first | exact .refl _ | apply Les.cons | exact .nil)) rfl ?_
        repeat (first | refine seq_ ?_ | refine region_ ?_ | refine nil_ ?_ | refine skip_ ?_ | refine cond_f rfl ?_ | refine stepY (y_move rfl) rfl ?_ | refine stepY (y_assign rfl) rfl ?_ | (first | refine stepY (y_load1 rfl rfl rfl) rfl ?_ | refine stepY (y_loadA rfl rfl rfl) rfl ?_) | refine stepY (y_fieldAddr rfl) rfl ?_ | refine stepY (y_extract rfl rfl) rfl ?_ | refine stepY (y_len_si rfl) rfl ?_ | refine stepY (y_cmpF rfl rfl rfl (by omega)) rfl ?_ | refine stepE (e_alloc rfl rfl rfl) ?_ | refine stepE (e_store rfl rfl rfl rfl rfl rfl rfl) ?_)
        refine bxle_L (h := 13) (cN (n % d)) rfl (by repeat (first | exact .nil | apply Les.cons | exact .refl _ | exact .tag _ _)) ?_
        refine bxle_L (h := 16) (cN (u % v)) rfl (by repeat (first | exact .nil | apply Les.cons | exact .refl _ | exact .tag _ _)) ?_
        refine call_ Tryz.func67 rfl rfl (hC) rfl (by repeat (first | exact .refl _ | exact .tag _ _ | apply Le.ag | apply Les.cons | exact .nil)) rfl ?_
        repeat (first | refine seq_ ?_ | refine region_ ?_ | refine nil_ ?_ | refine skip_ ?_ | refine cond_f rfl ?_ | refine stepY (y_move rfl) rfl ?_ | refine stepY (y_loadA rfl rfl rfl) rfl ?_ | refine stepY (y_cmpF rfl rfl rfl (by omega)) rfl ?_ | refine stepE (e_bs_vs rfl rfl rfl rfl rfl rfl) ?_)
        refine stepE (e_app_vs rfl rfl rfl (src_vs rfl rfl) (by rw [List.length_map]; simp only [List.length_cons, List.length_nil]; omega) rfl rfl) ?_
        rw [show fl.map fE ++ [fE (n / d)] = (fl ++ [n / d]).map fE by simp]
        repeat (first | refine nil_ ?_ | refine stepY (y_assign rfl) rfl ?_)
        refine draw_ [(0, true), (1, true), (3, true), (2, false), (4, false), (5, false), (6, false), (7, false)] 7 [16, 13, 10] mixed (by kernel_rfl) rfl ?_
        ((refine dY rfl (y_loadA rfl rfl rfl) rfl rfl rfl rfl ?_); refine dY rfl (y_loadA rfl rfl rfl) rfl rfl rfl rfl ?_; refine dY rfl (y_loadA rfl rfl rfl) rfl rfl rfl rfl ?_; refine dY1 rfl (y_loadA rfl rfl rfl) rfl rfl rfl ?_; (refine dE rfl (e_store rfl rfl rfl rfl rfl rfl rfl) rfl rfl ?_); (refine dE rfl (e_store rfl rfl rfl rfl rfl rfl rfl) rfl rfl ?_); (refine dE rfl (e_store rfl rfl rfl rfl rfl rfl rfl) rfl rfl ?_); (refine dX rfl (e_store rfl rfl rfl rfl rfl rfl rfl) rfl rfl ?_); refine dEnd ?_)
        refine ⟨(fl ++ [n / d], v, u % v, d, n % d), hst, hlt, ?_, ?_⟩
        · (repeat (first | exact sub_nil | refine sub_cons rfl ?_))
        · (repeat (first | exact subH_nil | refine subH_cons rfl ?_))
      · have hx := li.end1 h1 h2
        have hne : sg (n / d) (u / v) ≠ 0 := by unfold sg; split <;> (try split) <;> omega
        have hA := Add_n (n / d) lf hx.le
        repeat (first | refine seq_ ?_ | refine region_ ?_ | refine block_ ?_ | refine stepY (y_loadA rfl rfl rfl) rfl ?_)
        refine call_ Tryz.func41 rfl rfl (hD1) rfl (by repeat (first | exact .refl _ | apply Les.cons | exact .nil)) rfl ?_
        repeat (first | refine seq_ ?_ | refine region_ ?_ | refine nil_ ?_ | refine stepY (y_move rfl) rfl ?_ | refine stepY (y_assign rfl) rfl ?_ | refine stepY (y_loadA rfl rfl rfl) rfl ?_ | refine stepY (y_extract rfl rfl) rfl ?_ | refine stepE (e_alloc rfl rfl rfl) ?_ | refine stepE (e_store rfl rfl rfl rfl rfl rfl rfl) ?_)
        refine call_ Tryz.func41 rfl rfl (hD2) rfl (by repeat (first | exact .refl _ | apply Les.cons | exact .nil)) rfl ?_
        repeat (first | refine seq_ ?_ | refine region_ ?_ | refine nil_ ?_ | refine skip_ ?_ | refine cond_f rfl ?_ | refine stepY (y_move rfl) rfl ?_ | refine stepY (y_assign rfl) rfl ?_ | (first | refine stepY (y_load1 rfl rfl rfl) rfl ?_ | refine stepY (y_loadA rfl rfl rfl) rfl ?_) | refine stepY (y_fieldAddr rfl) rfl ?_ | refine stepY (y_extract rfl rfl) rfl ?_ | refine stepY (y_len_si rfl) rfl ?_ | refine stepY (y_cmpF rfl rfl rfl (by omega)) rfl ?_ | refine stepE (e_alloc rfl rfl rfl) ?_ | refine stepE (e_store rfl rfl rfl rfl rfl rfl rfl) ?_)
        refine call_ Tryz.func67 rfl rfl (hC) rfl (by repeat (first | exact .refl _ | exact .tag _ _ | apply Le.ag | apply Les.cons | exact .nil)) rfl ?_
        repeat (first | refine seq_ ?_ | refine nil_ ?_ | refine cond_t rfl ?_ | refine stepY (y_cmpT rfl rfl rfl (by omega)) rfl ?_)
        refine draw_ [(0, true), (1, false), (2, false), (3, true), (4, true), (5, true), (6, false)] 1000 [12] mixed (by kernel_rfl) rfl ?_
        ((refine dY rfl (y_loadA rfl rfl rfl) rfl rfl rfl rfl ?_))
        refine dC rfl Tryz.func46 rfl rfl (hf1) rfl (by repeat (first | exact .refl _ | apply Les.cons | exact .nil)) rfl rfl ?_
        skip
        refine dC rfl Tryz.func45 rfl rfl (hA) rfl (by repeat (first | exact .refl _ | exact .tag _ _ | apply Le.ag | apply Les.cons | exact .nil)) rfl rfl ?_
        ((refine dY rfl (y_move rfl) rfl rfl rfl rfl ?_); refine dY rfl (y_extract rfl rfl) rfl rfl rfl rfl ?_; refine dY rfl (y_extract rfl rfl) rfl rfl rfl rfl ?_; (refine dE rfl (e_store rfl rfl rfl rfl rfl rfl rfl) rfl rfl ?_); refine dEnd ?_)
        repeat (refine exit_ ?_)
        exact ⟨rfl, fl, n / d + 1, hx, by (repeat (first | exact sub_nil | refine sub_cons rfl ?_)), by (repeat (first | exact subH_nil | refine subH_cons rfl ?_))⟩
  · rintro E' H' ⟨fl, e, lx, hE, hH⟩
    refine TrM.sub ?_ hE hH
    refine mcut_ [(4, .ptr 4 0), (5, .p (I 0)), (6, .vec 6), (18, .ptr 18 0), (19, .ptr 19 0)] [(4, .bx Z4), (6, .vs 24 2 (fl.map fE)), (18, .bx [Bo false, FM e]), (19, .bx [Bo false, FM 1])] (by
      refine xDraw 1000 [11] mixed ?_
      refine xY (i := 0) (op := .load _ _) rfl (by (exact y_loadA rfl rfl rfl)) rfl rfl rfl rfl (by kernel_rfl) ?_
      refine xAll (rs := [1, 2, 3]) (by kernel_rfl) rfl ⟨?_, ?_, ?_, trivial⟩
      · (refine iC rfl Tryz.func46 rfl rfl (hf1) rfl (by repeat (first | exact .refl _ | apply Les.cons | exact .nil)) rfl rfl ?_)
        refine xAll (rs := [2, 3]) (by kernel_rfl) rfl ⟨?_, ?_, trivial⟩
        · (refine iE rfl (e_alloc rfl rfl rfl) rfl rfl ?_)
          refine xAll (rs := [3]) (by kernel_rfl) rfl ⟨?_, trivial⟩
          · (refine iE rfl (e_alloc rfl rfl rfl) rfl rfl ?_)
            refine xAll (rs := [4]) (by kernel_rfl) rfl ⟨?_, trivial⟩
            · (refine iE rfl (e_store rfl rfl rfl rfl rfl rfl rfl) rfl rfl ?_)
              refine xAll (rs := [5]) (by kernel_rfl) rfl ⟨?_, trivial⟩
              · (refine iE rfl (e_store rfl rfl rfl rfl rfl rfl rfl) rfl rfl ?_)
                exact xEnd (by kernel_rfl) ⟨rfl, by (repeat (first | exact sub_nil | refine sub_cons rfl ?_)), by (repeat (first | exact subH_nil | refine subH_cons rfl ?_))⟩
        · (refine iE rfl (e_alloc rfl rfl rfl) rfl rfl ?_)
          refine xAll (rs := [2]) (by kernel_rfl) rfl ⟨?_, trivial⟩
          · (refine iE rfl (e_alloc rfl rfl rfl) rfl rfl ?_)
            refine xAll (rs := [4]) (by kernel_rfl) rfl ⟨?_, trivial⟩
            · (refine iE rfl (e_store rfl rfl rfl rfl rfl rfl rfl) rfl rfl ?_)
              refine xAll (rs := [5]) (by kernel_rfl) rfl ⟨?_, trivial⟩
              · (refine iE rfl (e_store rfl rfl rfl rfl rfl rfl rfl) rfl rfl ?_)
                exact xEnd (by kernel_rfl) ⟨rfl, by (repeat (first | exact sub_nil | refine sub_cons rfl ?_)), by (repeat (first | exact subH_nil | refine subH_cons rfl ?_))⟩
      · (refine iE rfl (e_alloc rfl rfl rfl) rfl rfl ?_)
        refine xAll (rs := [1, 3]) (by kernel_rfl) rfl ⟨?_, ?_, trivial⟩
        · (refine iC rfl Tryz.func46 rfl rfl (hf1) rfl (by repeat (first | exact .refl _ | apply Les.cons | exact .nil)) rfl rfl ?_)
          refine xAll (rs := [3]) (by kernel_rfl) rfl ⟨?_, trivial⟩
          · (refine iE rfl (e_alloc rfl rfl rfl) rfl rfl ?_)
            refine xAll (rs := [4]) (by kernel_rfl) rfl ⟨?_, trivial⟩
            · (refine iE rfl (e_store rfl rfl rfl rfl rfl rfl rfl) rfl rfl ?_)
              refine xAll (rs := [5]) (by kernel_rfl) rfl ⟨?_, trivial⟩
              · (refine iE rfl (e_store rfl rfl rfl rfl rfl rfl rfl) rfl rfl ?_)
                exact xEnd (by kernel_rfl) ⟨rfl, by (repeat (first | exact sub_nil | refine sub_cons rfl ?_)), by (repeat (first | exact subH_nil | refine subH_cons rfl ?_))⟩
        · (refine iE rfl (e_alloc rfl rfl rfl) rfl rfl ?_)
          refine xAll (rs := [1]) (by kernel_rfl) rfl ⟨?_, trivial⟩
          · (refine iC rfl Tryz.func46 rfl rfl (hf1) rfl (by repeat (first | exact .refl _ | apply Les.cons | exact .nil)) rfl rfl ?_)
            refine xAll (rs := [4]) (by kernel_rfl) rfl ⟨?_, trivial⟩
            · (refine iE rfl (e_store rfl rfl rfl rfl rfl rfl rfl) rfl rfl ?_)
              refine xAll (rs := [5]) (by kernel_rfl) rfl ⟨?_, trivial⟩
              · (refine iE rfl (e_store rfl rfl rfl rfl rfl rfl rfl) rfl rfl ?_)
                exact xEnd (by kernel_rfl) ⟨rfl, by (repeat (first | exact sub_nil | refine sub_cons rfl ?_)), by (repeat (first | exact subH_nil | refine subH_cons rfl ?_))⟩
      · (refine iE rfl (e_alloc rfl rfl rfl) rfl rfl ?_)
        refine xAll (rs := [1, 2]) (by kernel_rfl) rfl ⟨?_, ?_, trivial⟩
        · (refine iC rfl Tryz.func46 rfl rfl (hf1) rfl (by repeat (first | exact .refl _ | apply Les.cons | exact .nil)) rfl rfl ?_)
          refine xAll (rs := [2]) (by kernel_rfl) rfl ⟨?_, trivial⟩
          · (refine iE rfl (e_alloc rfl rfl rfl) rfl rfl ?_)
            refine xAll (rs := [4]) (by kernel_rfl) rfl ⟨?_, trivial⟩
            · (refine iE rfl (e_store rfl rfl rfl rfl rfl rfl rfl) rfl rfl ?_)
              refine xAll (rs := [5]) (by kernel_rfl) rfl ⟨?_, trivial⟩
              · (refine iE rfl (e_store rfl rfl rfl rfl rfl rfl rfl) rfl rfl ?_)
                exact xEnd (by kernel_rfl) ⟨rfl, by (repeat (first | exact sub_nil | refine sub_cons rfl ?_)), by (repeat (first | exact subH_nil | refine subH_cons rfl ?_))⟩
        · (refine iE rfl (e_alloc rfl rfl rfl) rfl rfl ?_)
          refine xAll (rs := [1]) (by kernel_rfl) rfl ⟨?_, trivial⟩
          · (refine iC rfl Tryz.func46 rfl rfl (hf1) rfl (by repeat (first | exact .refl _ | apply Les.cons | exact .nil)) rfl rfl ?_)
            refine xAll (rs := [4]) (by kernel_rfl) rfl ⟨?_, trivial⟩
            · (refine iE rfl (e_store rfl rfl rfl rfl rfl rfl rfl) rfl rfl ?_)
              refine xAll (rs := [5]) (by kernel_rfl) rfl ⟨?_, trivial⟩
              · (refine iE rfl (e_store rfl rfl rfl rfl rfl rfl rfl) rfl rfl ?_)
                exact xEnd (by kernel_rfl) ⟨rfl, by (repeat (first | exact sub_nil | refine sub_cons rfl ?_)), by (repeat (first | exact subH_nil | refine subH_cons rfl ?_))⟩
      ) ?_
    obtain ⟨hsq, hBd, hall, hlen, hle⟩ := lx
    intro okA w0 ρ tmps w hw rp0
    obtain ⟨rp, hrow⟩ := sealed_vs rp0 (h := 6) rfl rfl rfl
    have rp1 := rp.set_env (i := 6) (x0 := .vec 6) (x := .p (.ss true 2 (fl.map fE))) rfl (fun y hy => by simp only [RelT] at hy ⊢; subst hy; exact hrow)
    refine (wpIn_wide (n := 3)).1 ?_
    refine wpIn_seq (wpIn_seq (wpIn_region_lit ?_))
    refine stepYR rp1 (y_move rfl) rfl fun T q r => ?_
    obtain ⟨y6, h6, e6⟩ := r.env 71 _ rfl
    simp only [RelT, Rel] at e6
    obtain ⟨A, c, ys, rfl, hc, hm, hl, hys, hsz, hcell⟩ := e6
    have hyl : ys.length = fl.length := by have := hys.length; simpa using this
    have hfl : (fl.map fE).length = ys.length := by rw [List.length_map, hyl]
    rw [hfl] at hc hl hcell h6
    refine callX_ Tryz.func68 rfl rfl (args := #[.slice A ys.length c]) (by simp [Act.eval, h6]) (callsIn_wide.2 (callsIn_wide.1 (backward_in A ys.length c w))) (fun e w' h => ⟨_, h.1⟩) ?_
    rintro v W1 ⟨hv, hW1⟩
    simp only [Ending.returned.injEq] at hv
    subst hv
    have hbel : Below w.heap.size w W1 := by rw [hW1]; exact (Below.refl _ w).alloc (Nat.le_refl _) _
    have r1 := ((r.world hbel).junk (d := 72) (by decide) (.func (.func 94) #[] #[.pointer (some ⟨w.heap.size, 0, none⟩)]))
    have hys1 : Rels W1 (okF okA w0.heap.size ρ (hB (ic (e, 1))) W1.heap.size) (fl.map fE) ys := Rels.mono (fun f b hb => hb.grow hbel.size) (fun f b hb => hbel.block b hb.1) _ _ hys
    have r2 : Rep okA w0 94 ρ eB (hB (ic (e, 1))) (T.setIfInBounds 72 (.func (.func 94) #[] #[.pointer (some ⟨w.heap.size, 0, none⟩)])) W1 := r1.sub (by (repeat (first | exact sub_nil | refine sub_cons rfl ?_)))
    have t72 : (T.setIfInBounds 72 (.func (.func 94) #[] #[.pointer (some ⟨w.heap.size, 0, none⟩)]))[72]? = some (.func (.func 94) #[] #[.pointer (some ⟨w.heap.size, 0, none⟩)]) := by
      have h94 : 94 ≤ T.size := r.size
      simp [show 72 < T.size by omega]
    generalize T.setIfInBounds 72 (.func (.func 94) #[] #[.pointer (some ⟨w.heap.size, 0, none⟩)]) = T2 at *
    refine wpListIn_nil ?_
    simp only [Exit.then]
    refine wpIn_block ?_
    obtain ⟨SB, hSB⟩ : ∃ SB : Nat → Prop, SB = fun b => b < W1.heap.size ∧ ∀ h ∈ [4, 18, 19], blk (ρ h) ≠ some b := ⟨_, rfl⟩
    obtain ⟨st, hst⟩ : ∃ st : List (_root_.Fin ys.length) → Int × Int, st = fun pre => (pre.map fun x => ((fl.getD x.1 0 : Nat) : Int)).foldl stI (ic (e, 1)) := ⟨_, rfl⟩
    have hmem : ∀ (h : Nat) m s, hk h (hB s) = some m → h ∈ [4, 18, 19] := fun h m s hm => hB_mem hm
    have hhas : ∀ (h : Nat) s, h ∈ [4, 18, 19] → ∃ m, hk h (hB s) = some m := fun h s hm => by
      simp only [List.mem_cons, List.mem_nil_iff, or_false] at hm
      rcases hm with rfl | rfl | rfl <;> exact ⟨_, rfl⟩
    have hW1s : w.heap.size + 1 = W1.heap.size := by rw [hW1]; simp
    have hok : ∀ f b, okF okA w0.heap.size ρ (hB (ic (e, 1))) W1.heap.size f b → SB b := fun f b hb => by
      rw [hSB]
      exact ⟨hb.1, fun h hh => (hhas h _ hh).elim fun m hm => hb.2.1 h m hm⟩
    have hnb : ∀ h ∈ [4, 18, 19], ∀ b, blk (ρ h) = some b → b < w.heap.size := fun h hh b hb => (hhas h (ic (e, 1)) hh).elim fun m hm => (r.blk_lt (m := m) (by
      simp only [List.mem_cons, List.mem_nil_iff, or_false] at hh
      rcases hh with rfl | rfl | rfl <;> (simp only [hk, hB] at hm ⊢; exact hm)) hb).2
    have hcont := back_stops SB w.heap.size A c ys W1 ?hyA (by omega) hm (by omega) ⟨?hgB, by omega⟩ ?hcell0 ?hrow0
    case hyA =>
      have : ∀ (fl : List Nat) (ys : List Value), Rels W1 (okF okA w0.heap.size ρ (hB (ic (e, 1))) W1.heap.size) (fl.map fE) ys → ∀ z ∈ ys, ∃ zs, z = .agg zs ∧ zs.size = 2 := by
        intro fl
        induction fl with
        | nil => intro ys h z hz; simp only [List.map_nil, Rels] at h; subst h; cases hz
        | cons x fl ih =>
          intro ys h z hz
          simp only [List.map_cons, Rels] at h
          obtain ⟨y, zs, rfl, hy, hzs⟩ := h
          rcases List.mem_cons.1 hz with rfl | hz
          · simp only [Rel] at hy
            obtain ⟨us, e1, hu⟩ := hy
            exact ⟨_, e1, by have := hu.length; simpa using this⟩
          · exact ih zs hzs z hz
      exact this fl ys hys1
    case hgB =>
      rw [hSB]
      exact ⟨by omega, fun h hh e => by have := hnb h hh _ e; omega⟩
    case hcell0 =>
      rw [hW1, cell_of_row _ w.heap.size 0 _ _ _ (han w _)]
      rfl
    case hrow0 =>
      intro hp
      obtain ⟨b, o, hA, ⟨hb, _⟩, hx⟩ := hcell hp
      refine ⟨b, o, hA, hok _ b (hb.grow hbel.size), Nat.lt_of_lt_of_le hb.1 hbel.size, fun j x hj => (World.cell?_of_block (a := ⟨b, o + j, none⟩) (hbel.block b hb.1)).trans (hx j x hj)⟩
    have kp0 : KpB SB W1 W1 := ⟨rfl, rfl, rfl, Nat.le_refl _, fun _ _ _ => rfl⟩
    have r2' : Rep okA w0 94 ρ eB (hB (st [])) T2 W1 := by rw [hst]; exact r2
    have hw01 : w0.heap.size ≤ W1.heap.size := Nat.le_trans rp0.below.size hbel.size
    refine wpIn_rangeFunc_ownH rfl (by decide) (gf := 94) (lb := #[.pointer (some ⟨w.heap.size, 0, none⟩)]) (by simp [Act.eval, t72]) trivial (enters' Tryz.func94 rfl rfl)
      hcont (fun h k => h.trans k) ?hKb (Below.refl _ _) (fun _ => rfl)
      (fun pre W => Rep okA w0 94 ρ eB (hB (st pre)) T2 W ∧ KpB SB W1 W) (fun _ _ _ => False) ?hI (fun _ _ _ _ _ h _ _ => h) ⟨r2', kp0⟩
      (fun x a' W => ∃ ρ' s', Rep okA w0 94 ρ' ((21, .ptr 21 0) :: eB) ((21, .bx [Bo false, FM (fl.getD x.1 0)]) :: hB s') a'.tmps W ∧ a'.defers = [] ∧ (∀ i ∈ [4, 18, 19], a'.tmps[i]? = T2[i]?) ∧ ∀ b, blk (ρ' 21) = some b → W1.heap.size ≤ b) ?hAx ?assign ?body ?done ?stop
    case hKb =>
      intro W l o o' hl ho hc1 hw1
      exact ⟨rfl, rfl, rfl, by simp, fun b hb hs => World.putObj_heap_other (fun e => by subst e; rw [hSB] at hs; have := hs.1; omega)⟩
    case hI =>
      intro pre W W' row hs hg hr
      refine ⟨hs.1.turn rfl hg (fun k e => ⟨Nat.le_trans hw01 (hr k e).1, (hr k e).2⟩), hs.2.trans ⟨hg.os, hg.tape, hg.output, hg.size, fun b hb hsb => hg.block b hb (fun e => ?_)⟩⟩
      have := (hr b e.symm).1
      rw [hSB] at hsb
      have := hsb.1
      omega
    case hAx =>
      rintro x a' _ W W' row ⟨ρ', s', h1, h2, h3, h4⟩ hg hr
      exact ⟨ρ', s', h1.turn rfl hg (fun k e => ⟨Nat.le_trans hw01 (hr k e).1, (hr k e).2⟩), h2, h3, h4⟩
    case assign =>
      intro l pre x W K ⟨hI1, hI2⟩ hK
      have hxl : x.1 < fl.length := by have := x.2; omega
      have hex : (fl.map fE)[x.1]? = some (fE (fl.getD x.1 0)) := by
        rw [List.getElem?_map, List.getElem?_eq_getElem hxl, List.getD_eq_getElem?_getD, List.getElem?_eq_getElem hxl]
        rfl
      obtain ⟨y, hy, hry⟩ := hys1.get hex
      have hyx : ys[x.1] = y := by rw [List.getElem?_eq_getElem x.2] at hy; simpa using hy
      have hokW : ∀ f b, okF okA w0.heap.size ρ (hB (ic (e, 1))) W1.heap.size f b → okF okA w0.heap.size ρ (hB (st pre)) W.heap.size f b := fun f b hb => ⟨Nat.lt_of_lt_of_le hb.1 hI2.size, fun h m hm => (hhas h (ic (e, 1)) (hmem h m _ hm)).elim fun m' hm' => hb.2.1 h m' hm', hb.2.2⟩
      have hry' := Rel.mono hokW (fun f b hb => hI2.same b hb.1 (hok f b hb)) _ _ hry
      rw [← hyx] at hry'
      have ra := (hI1.put (d := 73) (by decide) (x := .p (I (x.1 : Nat))) (y := .int .i64 (x.1 : Nat)) (by simp [RelT, Rel])).put (d := 74) (by decide) (x := .p (fE (fl.getD x.1 0))) (y := ys[x.1]) (by simpa only [RelT] using hry')
      obtain ⟨SA, hSA⟩ : ∃ SA : Nat → Prop, SA = fun b => ∃ h ∈ [4, 18, 19], blk (ρ h) = some b := ⟨_, rfl⟩
      have ta : Tk SA W (hB (st pre)) ρ W := ⟨rfl, rfl, rfl, Nat.le_refl _, fun _ _ _ => rfl, fun h m b hm hb => .inr (by rw [hSA]; exact ⟨h, hmem h m _ hm, hb⟩)⟩
      refine wpIn_tmps (T' := (T2.setIfInBounds 73 (.int .i64 (x.1 : Nat))).setIfInBounds 74 ys[x.1]) ?_ (by simp)
      refine TrC.use (l := some l) (kp := [4, 18, 19]) (fun E' H' => (∀ i x', lk i ((21, TV.ptr 21 0) :: eB) = some x' → lk i E' = some x') ∧ (∀ i m, hk i ((21, MB.bx [Bo false, FM (fl.getD x.1 0)]) :: hB (st pre)) = some m → hk i H' = some m)) ra ta ?walkA ?endA
      case walkA =>
        repeat (first | refine regionF_ ?_ | refine nilF_ ?_ | refine stepEF (e_alloc rfl rfl rfl) rfl ?_ | refine stepEF (e_store rfl rfl rfl rfl rfl rfl rfl) rfl ?_)
        exact ⟨by (repeat (first | exact sub_nil | refine sub_cons rfl ?_)), by (repeat (first | exact subH_nil | refine subH_cons rfl ?_))⟩
      case endA =>
        intro ρ' E' H' tmps' W' r' t' hkp ⟨k1, k2⟩
        simp only [Exit.then]
        have r'' := (r'.subH k2).sub k1
        have hρ : ∀ h ∈ [4, 18, 19], ρ' h = ρ h := fun h hh => by
          have e1 := (hkp h hh).trans ((setOff _ 74 _ h (by simp only [List.mem_cons, List.mem_nil_iff, or_false] at hh; rcases hh with rfl | rfl | rfl <;> rfl)).trans (setOff T2 73 (.int .i64 (x.1 : Nat)) h (by simp only [List.mem_cons, List.mem_nil_iff, or_false] at hh; rcases hh with rfl | rfl | rfl <;> rfl)))
          simp only [List.mem_cons, List.mem_nil_iff, or_false] at hh
          rcases hh with rfl | rfl | rfl <;> exact ptr_same hI1 r'' rfl rfl e1
        have ht2 : ∀ i ∈ [4, 18, 19], tmps'[i]? = T2[i]? := fun h hh => (hkp h hh).trans ((setOff _ 74 _ h (by simp only [List.mem_cons, List.mem_nil_iff, or_false] at hh; rcases hh with rfl | rfl | rfl <;> rfl)).trans (setOff T2 73 (.int .i64 (x.1 : Nat)) h (by simp only [List.mem_cons, List.mem_nil_iff, or_false] at hh; rcases hh with rfl | rfl | rfl <;> rfl)))
        have r3 : Rep okA w0 94 ρ' eB (hB (st pre)) tmps' W' := (r''.subH (by (repeat (first | exact subH_nil | refine subH_cons rfl ?_)))).sub (by (repeat (first | exact sub_nil | refine sub_cons rfl ?_)))
        have kpW : KpB SB W W' := ⟨t'.os, t'.tape, t'.output, t'.size, fun b hb hs => t'.same b hb (fun h => by rw [hSB] at hs; rw [hSA] at h; obtain ⟨k, hk1, hk2⟩ := h; exact hs.2 k hk1 hk2)⟩
        refine hK _ _ ⟨t'.size, fun k o hB hk1 ho => (t'.same k (Array.getElem?_eq_some_iff.1 hk1).1 (fun h => ?_)).trans hk1⟩ kpW ⟨back_rep r3 ht2 hρ hI1.size hI1.lent, hI2.trans kpW⟩ ⟨ρ', st pre, r'', rfl, ht2, fun b hb => ?_⟩
        rw [hSA] at h
        obtain ⟨j, hj1, hj2⟩ := h
        have := hnb j hj1 k hj2
        omega
        rcases t'.own 21 _ b (k2 _ _ rfl) hb with h1 | h1
        · exact Nat.le_trans hI2.size h1
        · exfalso
          rw [hSA] at h1
          obtain ⟨j, hj1, hj2⟩ := h1
          rw [← hρ j hj1] at hj2
          obtain ⟨m, hm⟩ := hhas j (st pre) hj1
          exact r''.disj 21 j _ m b rfl (by simp only [List.mem_cons, List.mem_nil_iff, or_false] at hj1; rcases hj1 with rfl | rfl | rfl <;> exact hm) (fun e => by subst e; simp at hj1) hb hj2
    case body =>
      rintro l pre x ⟨ta, da⟩ W hl hlr ⟨hI1, hI2⟩ ⟨ρ', s', hr', hd, ht, h21⟩ hlt
      simp only at hr' hd ht
      subst hd
      have hxl : x.1 < fl.length := by have := x.2; omega
      have hfx : ln (fl.getD x.1 0) ≤ 512 := by
        rw [List.getD_eq_getElem?_getD, List.getElem?_eq_getElem hxl]
        exact hall _ (List.getElem_mem hxl)
      have hρ : ∀ h ∈ [4, 18, 19], ρ' h = ρ h := fun h hh => by
        have e1 := ht h hh
        simp only [List.mem_cons, List.mem_nil_iff, or_false] at hh
        rcases hh with rfl | rfl | rfl <;> exact ptr_same hI1 hr' rfl rfl e1
      have hs' : s' = st pre := by
        obtain ⟨ys1, a1, b1⟩ := bx_same (h := 18) hI1 hr' rfl rfl (hρ 18 (by simp))
        obtain ⟨ys2, a2, b2⟩ := bx_same (h := 19) hI1 hr' rfl rfl (hρ 19 (by simp))
        exact Prod.ext (uniq_z b1 a1) (uniq_z b2 a2)
      subst hs'
      have hb1 : ln (st pre).1.natAbs ≤ 512 ∧ ln (st pre).2.natAbs ≤ 512 := by rw [hst]; exact fold_ln _ _ ⟨by rw [show (ic (e, 1)).1 = (e : Int) from rfl, Int.natAbs_natCast]; exact hle, by rw [show (ic (e, 1)).2 = 1 from rfl]; decide⟩
      obtain ⟨e1, hM⟩ := Mul_cl (fl.getD x.1 0) (st pre).1 hfx hb1.1
      obtain ⟨e2, hA⟩ := Add_cl (cl (((fl.getD x.1 0 : Nat) : Int) * (st pre).1)) (st pre).2 (cl_ln _) hb1.2
      have hstep : st (pre ++ [x]) = (cl (cl (((fl.getD x.1 0 : Nat) : Int) * (st pre).1) + (st pre).2), (st pre).1) := by
        rw [hst]
        simp only [List.map_append, List.map_cons, List.map_nil, List.foldl_append, List.foldl_cons, List.foldl_nil, stI]
      obtain ⟨SA, hSA⟩ : ∃ SA : Nat → Prop, SA = fun b => ∃ h ∈ [21, 4, 18, 19], blk (ρ' h) = some b := ⟨_, rfl⟩
      have tb : Tk SA W ((21, .bx [Bo false, FM (fl.getD x.1 0)]) :: hB (st pre)) ρ' W := ⟨rfl, rfl, rfl, Nat.le_refl _, fun _ _ _ => rfl, fun h m b hm hb => .inr (by
        rw [hSA]
        refine ⟨h, ?_, hb⟩
        rcases hk_cons hm with ⟨rfl, _⟩ | ⟨_, hm⟩
        · simp
        · exact List.mem_cons_of_mem _ (hB_mem hm))⟩
      refine TrC.use (l := some l) (kp := [4, 18, 19]) (fun E' H' => (∀ i x', lk i eB = some x' → lk i E' = some x') ∧ (∀ i m, hk i (hB (cl (cl (((fl.getD x.1 0 : Nat) : Int) * (st pre).1) + (st pre).2), (st pre).1)) = some m → hk i H' = some m)) hr' tb ?walkB ?endB
      case walkB =>
        repeat (first | refine seqF_ ?_ | refine regionF_ ?_ | refine blockF_ ?_ | (apply stepYF (op := .load _ _); (focus (exact y_loadA rfl rfl rfl)); (focus exact rfl)))
        refine callF_ Tryz.func69 rfl rfl (hM) rfl (by repeat (first | exact .refl _ | exact .tag _ _ | apply Le.ag | apply Les.cons | exact .nil)) rfl ?_
        repeat (first | refine seqF_ ?_ | refine regionF_ ?_ | refine nilF_ ?_ | (apply stepYF (op := .move _); (focus (exact y_move rfl)); (focus exact rfl)) | (apply stepYF (op := .assign _); (focus (exact y_assign rfl)); (focus exact rfl)) | (apply stepYF (op := .load _ _); (focus (exact y_loadA rfl rfl rfl)); (focus exact rfl)) | (apply stepYF (op := .extract _ _); (focus (exact y_extract rfl rfl)); (focus exact rfl)) | refine stepEF (e_alloc rfl rfl rfl) rfl ?_ | refine stepEF (e_store rfl rfl rfl rfl rfl rfl rfl) rfl ?_)
        refine callF_ Tryz.func45 rfl rfl (hA) rfl (by repeat (first | exact .refl _ | exact .tag _ _ | apply Le.ag | apply Les.cons | exact .nil)) rfl ?_
        repeat (first | refine regionF_ ?_ | refine nilF_ ?_ | (apply stepYF (op := .move _); (focus (exact y_move rfl)); (focus exact rfl)) | (apply stepYF (op := .load _ _); (focus (exact y_loadA rfl rfl rfl)); (focus exact rfl)) | (apply stepYF (op := .extract _ _); (focus (exact y_extract rfl rfl)); (focus exact rfl)) | refine stepEF (e_store rfl rfl rfl rfl rfl rfl rfl) rfl ?_)
        exact ⟨by (repeat (first | exact sub_nil | refine sub_cons rfl ?_)), by (repeat (first | exact subH_nil | refine subH_cons rfl ?_))⟩
      case endB =>
        intro ρ2 E' H' tmps' W' r' t' hkp ⟨k1, k2⟩
        have r3 : Rep okA w0 94 ρ2 eB (hB (cl (cl (((fl.getD x.1 0 : Nat) : Int) * (st pre).1) + (st pre).2), (st pre).1)) tmps' W' := (r'.subH k2).sub k1
        have ht2 : ∀ i ∈ [4, 18, 19], tmps'[i]? = T2[i]? := fun h hh => (hkp h hh).trans (ht h hh)
        have hρ2 : ∀ h ∈ [4, 18, 19], ρ2 h = ρ h := fun h hh => by
          have e1 := ht2 h hh
          simp only [List.mem_cons, List.mem_nil_iff, or_false] at hh
          rcases hh with rfl | rfl | rfl <;> exact ptr_same hI1 r3 rfl rfl e1
        have kpW : KpB SB W W' := ⟨t'.os, t'.tape, t'.output, t'.size, fun b hb hs => t'.same b hb (fun h => by
          rw [hSB] at hs
          rw [hSA] at h
          obtain ⟨k, hk1, hk2⟩ := h
          rcases List.mem_cons.1 hk1 with rfl | hk1
          · have := h21 b hk2
            have := hs.1
            omega
          · rw [hρ k hk1] at hk2
            exact hs.2 k hk1 hk2)⟩
        refine ⟨⟨t'.size, fun k o hB hk1 ho => (t'.same k (Array.getElem?_eq_some_iff.1 hk1).1 (fun h => ?_)).trans hk1⟩, kpW, by rw [hstep]; exact back_rep r3 ht2 hρ2 hI1.size hI1.lent, hI2.trans kpW⟩
        rw [hSA] at h
        obtain ⟨j, hj1, hj2⟩ := h
        rcases List.mem_cons.1 hj1 with rfl | hj1
        · rw [bx_cells hr' rfl hj2 hk1] at ho
          cases ho
        · rw [hρ j hj1] at hj2
          have := hnb j hj1 k hj2
          omega
    case stop =>
      rintro D c pre W _ _ h _
      exact h.elim
    case done =>
      rintro D xs W hD rfl ⟨hI1, hI2⟩ hK
      have hres : st (preB ys.length 0) = ic R := by
        rw [hst]
        dsimp only
        rw [preB_fold fl _ hyl, fold_comb hBd, hsq]
      have hb := fold_ln (fl.reverse.map fun (f : Nat) => (f : Int)) (ic (e, 1)) ⟨by rw [show (ic (e, 1)).1 = (e : Int) from rfl, Int.natAbs_natCast]; exact hle, by rw [show (ic (e, 1)).2 = 1 from rfl]; decide⟩
      rw [fold_comb hBd, hsq] at hb
      rw [hres] at hI1
      have hN := New_i (ic R).1 (ic R).2 hb.1 hb.2
      obtain ⟨qp, qm, qk, qe, hq⟩ := ofR_ex (ic R).1 (ic R).2
      rw [hq] at hN
      rw [show ofR (R.1 : Int) (R.2 : Int) = ofR (ic R).1 (ic R).2 from rfl, hq]
      obtain ⟨SA, hSA⟩ : ∃ SA : Nat → Prop, SA = fun b => ∃ h ∈ [4, 18, 19], blk (ρ h) = some b := ⟨_, rfl⟩
      have td : Tk SA W (hB (ic R)) ρ W := ⟨rfl, rfl, rfl, Nat.le_refl _, fun _ _ _ => rfl, fun h m b hm hb => .inr (by rw [hSA]; exact ⟨h, hmem h m _ hm, hb⟩)⟩
      simp only [Exit.then, Exit.inBlock]
      refine wpIn_seq (TrC.use (l := none) (kp := []) (fun E' H' => (∀ i x, lk i [(4, TV.ptr 4 0), (5, .p (E_ qe))] = some x → lk i E' = some x) ∧ (∀ i m, hk i [(4, MB.bx [Bo qp, FM qm, Bo false, FM qk])] = some m → hk i H' = some m)) hI1 td ?walkD ?endD)
      case walkD =>
        repeat (first | refine regionF_ ?_ | (apply stepYF (op := .load _ _); (focus (exact y_loadA rfl rfl rfl)); (focus exact rfl)))
        refine callF_ Tryz.func9 rfl rfl (hN) rfl (by repeat (first | exact .refl _ | exact .tag _ _ | apply Le.ag | apply Les.cons | exact .nil)) rfl ?_
        repeat (first | refine nilF_ ?_ | (apply stepYF (op := .assign _); (focus (exact y_assign rfl)); (focus exact rfl)) | (apply stepYF (op := .extract _ _); (focus (exact y_extract rfl rfl)); (focus exact rfl)) | refine stepEF (e_store rfl rfl rfl rfl rfl rfl rfl) rfl ?_)
        exact ⟨by (repeat (first | exact sub_nil | refine sub_cons rfl ?_)), by (repeat (first | exact subH_nil | refine subH_cons rfl ?_))⟩
      case endD =>
        intro ρ' E' H' tmps' W' r' t' _ ⟨k1, k2⟩
        simp only [Exit.then]
        refine wpIn_ret ?_
        have hDW : D < W.heap.size := (Array.getElem?_eq_some_iff.1 hK).1
        refine fin_M rfl ((r'.subH k2).sub k1) rfl (.cons (.agg rfl rfl rfl) (.cons (.tmp rfl) .nil)) (by repeat (exact .refl _)) ((t'.same D hDW (fun h => ?_)).trans hK) (Nat.le_trans hw01 hD) hw
        rw [hSA] at h
        obtain ⟨j, hj1, hj2⟩ := h
        have := hnb j hj1 D hj2
        omega
end Go.Av

set_option linter.unusedVariables false
set_option linter.unusedSimpArgs false
namespace Go.Av
open Go Go.RowKit
section
variable {P : Program} {N : Nat} {E : Env} {H : Hp} {Q : Exit → Env → Hp → Prop} {ops : Array Oper} {rest : List Oper}
/-- A call that hands one slice of its argument on as it is: what is told of it stands. -/
theorem callN_ {d : Nat} {f : FuncId} {fn : Func} {o : Operand} {ts : Array TypeId} {ty : TypeId} {pos : String} {af : Array Edge} {u0 u1 u2 : Value} {l l2 l' : List Int}
    (hf : P.funcs[f]? = some fn) (hn : (fn.name == "runtime.NumGoroutine") = false) (hb : fn.body.isNone = false)
    (hC : ∀ A a c, Con P f [.ag [.v u0, .si false .u32 l, .v u2, .v (.slice A a c)]] (.ag [.v u1, .si true .u32 l2, .v u2, .v (.slice A a c)]))
    (hx : evT E o = some (.p (.ag [.v u0, .si true .u32 l, .v u2, .si true .u32 l']))) (hd : Nat.blt d N = true)
    (k : TrL P N ops rest ((d, .p (.ag [.v u1, .si true .u32 l2, .v u2, .si true .u32 l'])) :: E) H Q) :
    TrL P N ops (⟨some d, .call { callee := .value (.func f), args := #[o], argTypes := ts }, ty, pos, af, none⟩ :: rest) E H Q := by
  unfold TrL at k ⊢
  intro okA w0 ρ tmps w r
  have h1 := ev_rel r hx
  simp only [RelT] at h1
  have h1' := h1
  simp only [Rel, Rels] at h1'
  obtain ⟨ys, e1, y0, z0, rfl, e0, y1, z1, rfl, hy1, y2, z2, rfl, e2, y3, z3, rfl, hy3, rfl⟩ := h1'
  obtain ⟨A, c, rfl, _⟩ := hy3
  have e0' := e0.symm
  have e2' := e2.symm
  subst e0' e2'
  have hmono := fun (f : Bool) (b : Nat) (hb : okF okA w0.heap.size ρ H w.heap.size f b) => (show b < w.heap.size ∧ okF okA w0.heap.size ρ H w.heap.size false b from ⟨hb.1, by cases f; exact hb; exact hb.tag⟩)
  have h3 : Rel w (okF okA w0.heap.size ρ H w.heap.size) (.si true .u32 l') (.slice A l'.length c) := by
    simp only [Rel, Rels] at h1
    obtain ⟨ys', e', _, _, rfl, _, _, _, rfl, _, _, _, rfl, _, y3, _, rfl, h, rfl⟩ := h1
    rw [e1] at e'
    simp only [Value.agg.injEq, Array.mk.injEq, List.cons.injEq, and_true] at e'
    simp only [Rel]
    obtain ⟨_, _, _, rfl⟩ := e'
    exact h
  have h4 : Rel w (okF okA w0.heap.size ρ H w.heap.size) (.si false .u32 l) y1 := by
    simp only [Rel]
    obtain ⟨A', c', a1, a2, a3, a4, a5⟩ := hy1
    refine ⟨A', c', a1, a2, a3, a4, fun h0 => ?_⟩
    obtain ⟨b, o', b1, b2, b3⟩ := a5 h0
    exact ⟨b, o', b1, ⟨b2.1.tag, fun h => by cases h⟩, b3⟩
  have hargs : Rels w (fun _ b => b < w.heap.size ∧ okF okA w0.heap.size ρ H w.heap.size false b) [.ag [.v u0, .si false .u32 l, .v u2, .v (.slice A l'.length c)]] [Act.eval ⟨tmps, []⟩ o] := by
    refine Rels.mono (ok := okF okA w0.heap.size ρ H w.heap.size) hmono (fun _ _ _ => rfl) _ _ ?_
    rw [e1]
    simp only [Rels]
    refine ⟨_, _, rfl, ?_, rfl⟩
    rw [Rel]
    refine ⟨_, rfl, ?_⟩
    simp only [Rels]
    exact ⟨_, _, rfl, by simp only [Rel], _, _, rfl, h4, _, _, rfl, by simp only [Rel], _, _, rfl, by simp only [Rel], rfl⟩
  have hc := hC A l'.length c
  unfold Con at hc
  have hcall := hc (fun b => okF okA w0.heap.size ρ H w.heap.size false b) w _ hargs
  refine wpList_plain rfl fun K hK => ?_
  have hrun : (execOp (Act.eval ⟨tmps, []⟩) ⟨some d, .call { callee := .value (.func f), args := #[o], argTypes := ts }, ty, pos, af, none⟩).run P w = .ok (.enter f #[Act.eval ⟨tmps, []⟩ o]) w := by
    have hn' : ¬ fn.name = "runtime.NumGoroutine" := by simpa using hn
    have hb' : ¬ fn.body = none := by intro h; rw [h] at hb; simp at hb
    have hv : Act.eval ⟨tmps, []⟩ (.func f) = .func (.func f) #[] #[] := rfl
    simp [execOp, resolve, Deferred.ofValue, hv, invoke, callFunc, hf, hn', hb']
  simp only [Oper.wp, hrun, Oper.upon]
  refine hcall.mono fun e w' ⟨y, he, hr, hbl⟩ => ?_
  subst he
  refine hK _ _ (k okA w0 ρ _ w' ((r.world hbl).put (Nat.le_of_ble_eq_true hd) (x := .p (.ag [.v u1, .si true .u32 l2, .v u2, .si true .u32 l'])) ?_))
  simp only [RelT]
  have h5 := Rel.mono (ok' := okF okA w0.heap.size ρ H w'.heap.size) (fun f b hb => hb.grow hbl.size) (fun f b hb => hbl.block b hb.1) _ _ h3
  have hr2 : Rel w' (okF okA w0.heap.size ρ H w'.heap.size) (.ag [.v u1, .si true .u32 l2, .v u2, .v (.slice A l'.length c)]) y := by
    refine Rel.mono (fun f b hb' => ⟨hb'.1, fun h m hm => ?_, ?_⟩) (fun _ _ _ => rfl) _ _ hr
    · rcases hb'.2 with h3 | ⟨_, h3⟩
      · intro e
        exact absurd (r.blk_lt hm e).2 (by omega)
      · exact h3.2.1 h m hm
    · rcases hb'.2 with h3 | ⟨h4, h3⟩
      · exact .inl (Nat.le_trans r.below.size h3)
      · rcases h3.2.2 with h5 | h5
        · exact .inl h5
        · exact .inr ⟨h4, h5.2⟩
  rw [Rel] at hr2 ⊢
  obtain ⟨ys, e, hs⟩ := hr2
  refine ⟨ys, e, ?_⟩
  rw [Rels] at hs ⊢
  obtain ⟨a0, b0, e0, r0, hs⟩ := hs
  refine ⟨a0, b0, e0, r0, ?_⟩
  rw [Rels] at hs ⊢
  obtain ⟨a1, b1, e1, r1, hs⟩ := hs
  refine ⟨a1, b1, e1, r1, ?_⟩
  rw [Rels] at hs ⊢
  obtain ⟨a2, b2, e2, r2, hs⟩ := hs
  refine ⟨a2, b2, e2, r2, ?_⟩
  rw [Rels] at hs ⊢
  obtain ⟨a3, b3, e3, r3, hs⟩ := hs
  refine ⟨a3, b3, e3, ?_, hs⟩
  rw [Rel] at r3
  rw [r3]
  exact h5
end
end Go.Av

set_option maxHeartbeats 8000000
set_option exponentiation.threshold 100000
set_option maxRecDepth 100000
set_option linter.unusedVariables false
set_option linter.unusedSimpArgs false
namespace Go.Av
open Go Go.Proofs
/-! fractions: Simplest -/
theorem sqF_pos : ∀ (k n d u v : Nat), Gd n d u v → 0 < n → d + v < k → 0 < (sqF k n d u v).1 ∧ 0 < (sqF k n d u v).2
  | 0, _, _, _, _, _, _, h => by omega
  | k + 1, n, d, u, v, hg, hn, h1 => by
    simp only [sqF]
    by_cases a : n % d = 0
    · rw [if_pos a]
      have e1 := Nat.div_add_mod n d
      refine ⟨?_, Nat.one_pos⟩
      rcases Nat.eq_zero_or_pos (n / d) with h0 | h0
      · rw [h0, a] at e1; simp at e1; omega
      · exact h0
    · rw [if_neg a]
      by_cases b : n / d = u / v
      · rw [if_pos b]
        obtain ⟨g, hlt⟩ := hg.step a b
        have ih := sqF_pos k _ _ _ _ g hg.vp (by omega)
        exact ⟨by simp only [co1]; omega, ih.1⟩
      · rw [if_neg b]; exact ⟨Nat.succ_pos _, Nat.one_pos⟩
theorem sq_pos {n d u v : Nat} (hg : Gd n d u v) (hn : 0 < n) : 0 < (sq n d u v).1 ∧ 0 < (sq n d u v).2 := sqF_pos _ _ _ _ _ hg hn (by omega)
theorem okQ_mk {a b n d : Nat} (hb : 0 < b) (h1 : a ≤ n) (h2 : b ≤ d) (l1 : ln n ≤ 512) (l2 : ln d ≤ 512) : okQ (mkRat (a : Int) b) := by
  obtain ⟨e1, e2⟩ := mkQ (a : Int) hb
  refine ⟨?_, ?_⟩
  · rw [e1, Int.natAbs_natCast, ← Int.natCast_ediv, Int.natAbs_natCast]
    exact Nat.le_trans (ln_mono (Nat.le_trans (Nat.div_le_self _ _) h1)) l1
  · rw [e2]
    exact Nat.le_trans (ln_mono (Nat.le_trans (Nat.div_le_self _ _) h2)) l2
def sqr (n d u v : Nat) : Rat := mkRat ((sq n d u v).1 : Int) (sq n d u v).2
theorem sqr_ok {n d u v : Nat} (hg : Gd n d u v) (hn : 0 < n) (l1 : ln n ≤ 512) (l2 : ln d ≤ 512) : okQ (sqr n d u v) ∧ ofR ((sq n d u v).1 : Int) ((sq n d u v).2 : Int) = .tp [FQ (sqr n d u v), E_ 0] := by
  have hp := sq_pos hg hn
  have hb := sq_bs hg
  have h1 : okQ (sqr n d u v) := okQ_mk hp.2 hb.a hb.b l1 l2
  refine ⟨h1, ?_⟩
  unfold ofR
  rw [if_neg (by omega)]
  exact resQ_ok h1
theorem simplest_s (n d u v : Nat) (g1 : Gd n d u v) (hn : 0 < n) (l1 : ln n ≤ 512) (l2 : ln d ≤ 512) (l3 : ln u ≤ 512) (l4 : ln v ≤ 512) :
    Con Tryz.prog 39 [GF false n d, GF false u v] (.tp [FQ (sqr n d u v), E_ 0]) := by
  have := simplest_c n d u v g1 hn l1 l2 l3 l4
  rwa [(sqr_ok g1 hn l1 l2).2] at this
theorem sign_c (p : Bool) (m d : Nat) (h : vldB p (limbs m) = true) : Con Tryz.prog 38 [GF p m d] (I (icmp (sgn p m) 0)) := by
  have hC := Cmp_s p false m 0 h (by decide)
  rw [sgn_zero] at hC
  refine con_of Tryz.func38 rfl rfl rfl rfl rfl ?_
  repeat (first | refine seq_ ?_ | refine region_ ?_ | refine nil_ ?_ | refine stepY (y_assign rfl) rfl ?_ | refine stepY (y_loadA rfl rfl rfl) rfl ?_ | refine stepY (y_fieldAddr rfl) rfl ?_ | refine stepY (y_build rfl rfl rfl) rfl ?_ | refine stepE (e_box rfl rfl rfl rfl rfl rfl) ?_)
  refine call_ Tryz.func67 rfl rfl (hC) rfl (by repeat (first | exact .refl _ | exact .nil _ _ | apply Le.ag | apply Les.cons | exact .nil)) rfl ?_
  repeat (first | refine nil_ ?_ | refine ret_ ?_ | refine stepY (y_assign rfl) rfl ?_)
  ((apply fin_r); (repeat (first | exact .nil | exact .tmp rfl | apply ResL.cons)); (repeat (exact .refl _)))
theorem negative_c (p : Bool) (m d : Nat) (h : vldB p (limbs m) = true) : Con Tryz.prog 40 [GF p m d] (.ag [Bo (decide (-(sgn p m) < 0)), FM m, Bo false, M d]) := by
  have hN := Neg_s p m h
  have e1 : (-(sgn p m)).natAbs = m := by rw [Int.natAbs_neg, sgn_abs]
  have e2 : FIV (-(sgn p m)) = .ag [Bo (decide (-(sgn p m) < 0)), FM m] := by unfold FIV; rw [e1]
  rw [e2] at hN
  refine con_of Tryz.func40 rfl rfl rfl rfl rfl ?_
  repeat (first | refine seq_ ?_ | refine region_ ?_ | refine nil_ ?_ | refine stepE (e_box rfl rfl rfl rfl rfl rfl) ?_ | refine stepE (e_alloc rfl rfl rfl) ?_)
  refine draw_ [(0, true), (1, true), (3, true), (4, true), (2, false), (5, true), (6, false)] 1000 [1] mixed (by kernel_rfl) rfl ?_
  ((refine dY rfl (y_fieldAddr rfl) rfl rfl rfl rfl ?_); refine dY rfl (y_loadA rfl rfl rfl) rfl rfl rfl rfl ?_; refine dY rfl (y_fieldAddr rfl) rfl rfl rfl rfl ?_; refine dY rfl (y_loadA rfl rfl rfl) rfl rfl rfl rfl ?_)
  refine dC rfl Tryz.func70 rfl rfl (hN) rfl (by repeat (first | exact .refl _ | apply Les.cons | exact .nil)) rfl rfl ?_
  ((refine dY rfl (y_build rfl rfl rfl) rfl rfl rfl rfl ?_); (refine dE rfl (e_store rfl rfl rfl rfl rfl rfl rfl) rfl rfl ?_); refine dEnd ?_)
  repeat (refine ret_ ?_)
  ((apply fin_r); (repeat (first | exact .nil | exact .agg rfl rfl rfl | apply ResL.cons)); (repeat (exact .refl _)))
theorem negative_v (p : Bool) (m : Nat) (A : Option Addr) (a c : Nat) (h : vldB p (limbs m) = true) : Con Tryz.prog 40 [.ag [Bo p, M m, Bo false, .v (.slice A a c)]] (.ag [Bo (decide (-(sgn p m) < 0)), FM m, Bo false, .v (.slice A a c)]) := by
  have hN := Neg_s p m h
  have e1 : (-(sgn p m)).natAbs = m := by rw [Int.natAbs_neg, sgn_abs]
  have e2 : FIV (-(sgn p m)) = .ag [Bo (decide (-(sgn p m) < 0)), FM m] := by unfold FIV; rw [e1]
  rw [e2] at hN
  refine con_of Tryz.func40 rfl rfl rfl rfl rfl ?_
  repeat (first | refine seq_ ?_ | refine region_ ?_ | refine nil_ ?_ | refine stepE (e_box rfl rfl rfl rfl rfl rfl) ?_ | refine stepE (e_alloc rfl rfl rfl) ?_)
  refine draw_ [(0, true), (1, true), (3, true), (4, true), (2, false), (5, true), (6, false)] 1000 [1] mixed (by kernel_rfl) rfl ?_
  ((refine dY rfl (y_fieldAddr rfl) rfl rfl rfl rfl ?_); refine dY rfl (y_loadA rfl rfl rfl) rfl rfl rfl rfl ?_; refine dY rfl (y_fieldAddr rfl) rfl rfl rfl rfl ?_; refine dY rfl (y_loadA rfl rfl rfl) rfl rfl rfl rfl ?_)
  refine dC rfl Tryz.func70 rfl rfl (hN) rfl (by repeat (first | exact .refl _ | apply Les.cons | exact .nil)) rfl rfl ?_
  ((refine dY rfl (y_build rfl rfl rfl) rfl rfl rfl rfl ?_); (refine dE rfl (e_store rfl rfl rfl rfl rfl rfl rfl) rfl rfl ?_); refine dEnd ?_)
  repeat (refine ret_ ?_)
  ((apply fin_r); (repeat (first | exact .nil | exact .agg rfl rfl rfl | apply ResL.cons)); (repeat (exact .refl _)))
/-- what Simplest answers -/
def smp (x y : Rat) : Rat := if 0 < x.num then sqr x.num.natAbs x.den y.num.natAbs y.den else if 0 ≤ y.num then 0 else -(sqr y.num.natAbs y.den x.num.natAbs x.den)
theorem gd_pos {x y : Rat} (hx : 0 < x.num) (h : x ≤ y) : Gd x.num.natAbs x.den y.num.natAbs y.den := by
  refine ⟨Nat.pos_of_ne_zero x.den_nz, Nat.pos_of_ne_zero y.den_nz, ?_⟩
  have h1 := (Rat.le_iff _ _).1 h
  have hy : 0 ≤ y.num := by
    rcases (by omega : y.num < 0 ∨ 0 ≤ y.num) with h2 | h2
    · have h3 : 0 < x.num * y.den := Int.mul_pos hx (by have := Nat.pos_of_ne_zero y.den_nz; omega)
      have h4 : y.num * x.den < 0 := Int.mul_neg_of_neg_of_pos h2 (by have := Nat.pos_of_ne_zero x.den_nz; omega)
      omega
    · exact h2
  have e1 : (x.num.natAbs : Int) = x.num := by omega
  have e2 : (y.num.natAbs : Int) = y.num := by omega
  rw [← e1, ← e2] at h1
  exact_mod_cast h1
theorem gd_neg {x y : Rat} (hy : y.num < 0) (h : x ≤ y) : Gd y.num.natAbs y.den x.num.natAbs x.den := by
  refine ⟨Nat.pos_of_ne_zero y.den_nz, Nat.pos_of_ne_zero x.den_nz, ?_⟩
  have h1 := (Rat.le_iff _ _).1 h
  have hx : x.num < 0 := by
    rcases (by omega : x.num < 0 ∨ 0 ≤ x.num) with h2 | h2
    · exact h2
    · have h3 : 0 ≤ x.num * y.den := Int.mul_nonneg h2 (by omega)
      have h4 : y.num * x.den < 0 := Int.mul_neg_of_neg_of_pos hy (by have := Nat.pos_of_ne_zero x.den_nz; omega)
      omega
  have e1 : (x.num.natAbs : Int) = -x.num := by omega
  have e2 : (y.num.natAbs : Int) = -y.num := by omega
  have h2 : (-y.num) * (x.den : Int) ≤ (-x.num) * y.den := by rw [Int.neg_mul, Int.neg_mul]; omega
  rw [← e1, ← e2] at h2
  exact_mod_cast h2
theorem Simplest_e (p p' : Bool) (l l' : List Int) (q q' : Bool) (k k' : List Int) (hl : wf l) (hk : wf k) (hl' : wf l') (hk' : wf k') (h : (vldF p l q k && vldF p' l' q' k') = false) : Con Tryz.prog 14 [AF p l q k, AF p' l' q' k'] (.tp [ZF, E_ 1]) := by
  have hv := valid2_c p p' l l' q q' k k' hl hk hl' hk'
  rw [h] at hv
  refine con_of Tryz.func14 rfl rfl rfl rfl rfl ?_
  repeat (first | refine seq_ ?_ | refine region_ ?_ | refine nil_ ?_ | refine block_ ?_ | refine stepY (y_assign rfl) rfl ?_ | refine stepY (y_loadA rfl rfl rfl) rfl ?_ | refine stepE (e_box rfl rfl rfl rfl rfl rfl) ?_ | refine stepE (e_alloc rfl rfl rfl) ?_ | refine stepE (e_bs_vs rfl rfl rfl rfl rfl rfl) ?_)
  refine seal_Ls (i := 11) (h := 11) rfl rfl rfl rfl ?_
  refine call_ Tryz.func33 rfl rfl (hv) rfl (by repeat (first | exact .tags _ _ | apply Les.cons | exact .nil)) rfl ?_
  repeat (first | refine seq_ ?_ | refine region_ ?_ | refine nil_ ?_ | refine ret_ ?_ | refine cond_t rfl ?_ | refine stepY (y_assign rfl) rfl ?_ | refine stepY (y_not rfl) rfl ?_ | refine stepY (y_build rfl rfl rfl) rfl ?_ | refine stepE (e_store rfl rfl rfl rfl rfl rfl rfl) ?_)
  ((apply fin_r); (repeat (first | exact .nil | exact .tmp rfl | exact .agg rfl rfl rfl | apply ResL.cons)); (repeat (first | exact .refl _ | exact .nil _ _ | apply Le.ag | apply Le.tp | apply Les.cons | exact .nil)))
theorem Simplest_r (x y : Rat) (hx : okQ x) (hy : okQ y) (h : y < x) : Con Tryz.prog 14 [QV x, QV y] (.tp [ZF, E_ 3]) := by
  have hv := valid2_t (vG_q hx) (vG_q hy)
  have hc := compare_q x y hx hy
  rw [show qcmp x y = 1 by unfold qcmp; rw [if_neg (fun h' => absurd (Rat.le_of_lt h) (Rat.not_le.2 h')), if_pos h]] at hc
  refine con_of Tryz.func14 rfl rfl rfl rfl rfl ?_
  repeat (first | refine seq_ ?_ | refine region_ ?_ | refine nil_ ?_ | refine block_ ?_ | refine stepY (y_assign rfl) rfl ?_ | refine stepY (y_loadA rfl rfl rfl) rfl ?_ | refine stepE (e_box rfl rfl rfl rfl rfl rfl) ?_ | refine stepE (e_alloc rfl rfl rfl) ?_ | refine stepE (e_bs_vs rfl rfl rfl rfl rfl rfl) ?_)
  refine seal_Ls (i := 11) (h := 11) rfl rfl rfl rfl ?_
  refine call_ Tryz.func33 rfl rfl (hv) rfl (by repeat (first | exact .tags _ _ | apply Les.cons | exact .nil)) rfl ?_
  repeat (first | refine seq_ ?_ | refine region_ ?_ | refine nil_ ?_ | refine cond_f rfl ?_ | refine stepY (y_assign rfl) rfl ?_ | refine stepY (y_loadA rfl rfl rfl) rfl ?_ | refine stepY (y_not rfl) rfl ?_)
  refine call_ Tryz.func37 rfl rfl (hc) rfl (by repeat (first | exact .refl _ | apply Les.cons | exact .nil)) rfl ?_
  repeat (first | refine seq_ ?_ | refine region_ ?_ | refine nil_ ?_ | refine ret_ ?_ | refine cond_t rfl ?_ | refine stepY (y_assign rfl) rfl ?_ | refine stepY (y_build rfl rfl rfl) rfl ?_ | refine stepY (y_cmpT rfl rfl rfl (by omega)) rfl ?_ | refine stepE (e_store rfl rfl rfl rfl rfl rfl rfl) ?_)
  ((apply fin_r); (repeat (first | exact .nil | exact .tmp rfl | exact .agg rfl rfl rfl | apply ResL.cons)); (repeat (first | exact .refl _ | exact .nil _ _ | apply Le.ag | apply Le.tp | apply Les.cons | exact .nil)))
theorem Simplest_q (x y : Rat) (hx : okQ x) (hy : okQ y) (h : x ≤ y) : Con Tryz.prog 14 [QV x, QV y] (.tp [FQ (smp x y), E_ 0]) := by
  have hv := valid2_t (vG_q hx) (vG_q hy)
  have hc := compare_q x y hx hy
  obtain ⟨qc, hqc⟩ : ∃ qc, qcmp x y = qc := ⟨_, rfl⟩
  have hqn : ¬ 0 < qc := by
    rw [← hqc]
    unfold qcmp
    split
    · omega
    · rw [if_neg (Rat.not_lt.2 h)]; omega
  rw [hqc] at hc
  have hs1 := sign_c (decide (x.num < 0)) x.num.natAbs x.den (vG_bd (vG_q hx)).2.2.2.2.1
  have hs2 := sign_c (decide (y.num < 0)) y.num.natAbs y.den (vG_bd (vG_q hy)).2.2.2.2.1
  rw [sgn_self] at hs1 hs2
  have hOf : Con Tryz.prog 24 [I 0, I 1] (.tp [FQ 0, E_ 0]) := by
    have := Of_c 0 1 (by omega) (by omega)
    unfold ofR at this
    rw [if_neg (by omega), show Rat.divInt 0 1 = 0 from rfl, resQ_ok ⟨by decide, by decide⟩] at this
    exact this
  by_cases h1 : 0 < x.num
  · have hsm : smp x y = sqr x.num.natAbs x.den y.num.natAbs y.den := by unfold smp; rw [if_pos h1]
    have hy0 : 0 ≤ y.num := by
      rcases (by omega : y.num < 0 ∨ 0 ≤ y.num) with h2 | h2
      · have h3 := (Rat.le_iff _ _).1 h
        have h4 : 0 < x.num * y.den := Int.mul_pos h1 (by have := Nat.pos_of_ne_zero y.den_nz; omega)
        have h5 : y.num * x.den < 0 := Int.mul_neg_of_neg_of_pos h2 (by have := Nat.pos_of_ne_zero x.den_nz; omega)
        omega
      · exact h2
    have hS := simplest_s x.num.natAbs x.den y.num.natAbs y.den (gd_pos h1 h) (by omega) hx.1 hx.2 hy.1 hy.2
    rw [← hsm] at hS
    have e1 : decide (x.num < 0) = false := decide_eq_false (by omega)
    have e2 : decide (y.num < 0) = false := decide_eq_false (by omega)
    have hS : Con Tryz.prog 39 [QV x, QV y] (.tp [FQ (smp x y), E_ 0]) := by unfold QV; rw [e1, e2]; exact hS
    have hi : 0 < icmp x.num 0 := by unfold icmp; rw [if_neg (by omega), if_pos h1]; omega
    generalize smp x y = z at *
    refine con_of Tryz.func14 rfl rfl rfl rfl rfl ?_
    repeat (first | refine seq_ ?_ | refine region_ ?_ | refine nil_ ?_ | refine block_ ?_ | refine stepY (y_assign rfl) rfl ?_ | refine stepY (y_loadA rfl rfl rfl) rfl ?_ | refine stepE (e_box rfl rfl rfl rfl rfl rfl) ?_ | refine stepE (e_alloc rfl rfl rfl) ?_ | refine stepE (e_bs_vs rfl rfl rfl rfl rfl rfl) ?_)
    refine seal_Ls (i := 11) (h := 11) rfl rfl rfl rfl ?_
    refine call_ Tryz.func33 rfl rfl (hv) rfl (by repeat (first | exact .tags _ _ | apply Les.cons | exact .nil)) rfl ?_
    repeat (first | refine seq_ ?_ | refine region_ ?_ | refine nil_ ?_ | refine cond_f rfl ?_ | refine stepY (y_assign rfl) rfl ?_ | refine stepY (y_loadA rfl rfl rfl) rfl ?_ | refine stepY (y_not rfl) rfl ?_)
    refine call_ Tryz.func37 rfl rfl (hc) rfl (by repeat (first | exact .refl _ | apply Les.cons | exact .nil)) rfl ?_
    repeat (first | refine seq_ ?_ | refine region_ ?_ | refine nil_ ?_ | refine cond_f rfl ?_ | refine stepY (y_assign rfl) rfl ?_ | refine stepY (y_loadA rfl rfl rfl) rfl ?_ | refine stepY (y_cmpF rfl rfl rfl (by omega)) rfl ?_)
    refine call_ Tryz.func38 rfl rfl (hs1) rfl (by repeat (first | exact .refl _ | apply Les.cons | exact .nil)) rfl ?_
    repeat (first | refine seq_ ?_ | refine region_ ?_ | refine nil_ ?_ | refine cond_t rfl ?_ | refine stepY (y_assign rfl) rfl ?_ | refine stepY (y_loadA rfl rfl rfl) rfl ?_ | refine stepY (y_cmpT rfl rfl rfl (by omega)) rfl ?_)
    refine call_ Tryz.func39 rfl rfl (hS) rfl (by repeat (first | exact .refl _ | apply Les.cons | exact .nil)) rfl ?_
    repeat (first | refine nil_ ?_ | refine ret_ ?_ | refine stepY (y_assign rfl) rfl ?_ | refine stepY (y_extract rfl rfl) rfl ?_ | refine stepE (e_store rfl rfl rfl rfl rfl rfl rfl) ?_)
    ((apply fin_r); (repeat (first | exact .nil | exact .tmp rfl | exact .agg rfl rfl rfl | apply ResL.cons)); (repeat (exact .refl _)))
  · have hi : ¬ 0 < icmp x.num 0 := by unfold icmp; split <;> (try split) <;> omega
    by_cases h2 : 0 ≤ y.num
    · have hsm : smp x y = 0 := by unfold smp; rw [if_neg h1, if_pos h2]
      rw [hsm]
      have hj : 0 ≤ icmp y.num 0 := by unfold icmp; rw [if_neg (by omega)]; split <;> omega
      refine con_of Tryz.func14 rfl rfl rfl rfl rfl ?_
      repeat (first | refine seq_ ?_ | refine region_ ?_ | refine nil_ ?_ | refine block_ ?_ | refine stepY (y_assign rfl) rfl ?_ | refine stepY (y_loadA rfl rfl rfl) rfl ?_ | refine stepE (e_box rfl rfl rfl rfl rfl rfl) ?_ | refine stepE (e_alloc rfl rfl rfl) ?_ | refine stepE (e_bs_vs rfl rfl rfl rfl rfl rfl) ?_)
      refine seal_Ls (i := 11) (h := 11) rfl rfl rfl rfl ?_
      refine call_ Tryz.func33 rfl rfl (hv) rfl (by repeat (first | exact .tags _ _ | apply Les.cons | exact .nil)) rfl ?_
      repeat (first | refine seq_ ?_ | refine region_ ?_ | refine nil_ ?_ | refine cond_f rfl ?_ | refine stepY (y_assign rfl) rfl ?_ | refine stepY (y_loadA rfl rfl rfl) rfl ?_ | refine stepY (y_not rfl) rfl ?_)
      refine call_ Tryz.func37 rfl rfl (hc) rfl (by repeat (first | exact .refl _ | apply Les.cons | exact .nil)) rfl ?_
      repeat (first | refine seq_ ?_ | refine region_ ?_ | refine nil_ ?_ | refine cond_f rfl ?_ | refine stepY (y_assign rfl) rfl ?_ | refine stepY (y_loadA rfl rfl rfl) rfl ?_ | refine stepY (y_cmpF rfl rfl rfl (by omega)) rfl ?_)
      refine call_ Tryz.func38 rfl rfl (hs1) rfl (by repeat (first | exact .refl _ | apply Les.cons | exact .nil)) rfl ?_
      repeat (first | refine seq_ ?_ | refine region_ ?_ | refine nil_ ?_ | refine cond_f rfl ?_ | refine stepY (y_assign rfl) rfl ?_ | refine stepY (y_loadA rfl rfl rfl) rfl ?_ | refine stepY (y_cmpF rfl rfl rfl (by omega)) rfl ?_)
      refine call_ Tryz.func38 rfl rfl (hs2) rfl (by repeat (first | exact .refl _ | apply Les.cons | exact .nil)) rfl ?_
      repeat (first | refine seq_ ?_ | refine region_ ?_ | refine nil_ ?_ | refine cond_t rfl ?_ | refine stepY (y_assign rfl) rfl ?_ | refine stepY (y_cmpT rfl rfl rfl (by omega)) rfl ?_)
      refine call_ Tryz.func24 rfl rfl (hOf) rfl (by repeat (first | exact .refl _ | apply Les.cons | exact .nil)) rfl ?_
      repeat (first | refine nil_ ?_ | refine ret_ ?_ | refine stepY (y_assign rfl) rfl ?_ | refine stepY (y_extract rfl rfl) rfl ?_ | refine stepE (e_store rfl rfl rfl rfl rfl rfl rfl) ?_)
      ((apply fin_r); (repeat (first | exact .nil | exact .tmp rfl | exact .agg rfl rfl rfl | apply ResL.cons)); (repeat (exact .refl _)))
    · have hx0 : x.num < 0 := by
        rcases (by omega : x.num < 0 ∨ 0 ≤ x.num) with h3 | h3
        · exact h3
        · have h3 := (Rat.le_iff _ _).1 h
          have h4 : 0 ≤ x.num * y.den := Int.mul_nonneg (by omega) (by omega)
          have h5 : y.num * x.den < 0 := Int.mul_neg_of_neg_of_pos (by omega) (by have := Nat.pos_of_ne_zero x.den_nz; omega)
          omega
      have hj : ¬ 0 ≤ icmp y.num 0 := by unfold icmp; rw [if_pos (by omega)]; omega
      have hsm : smp x y = -(sqr y.num.natAbs y.den x.num.natAbs x.den) := by unfold smp; rw [if_neg h1, if_neg h2]
      have hS := simplest_s y.num.natAbs y.den x.num.natAbs x.den (gd_neg (by omega) h) (by omega) hy.1 hy.2 hx.1 hx.2
      have hz := (sqr_ok (gd_neg (by omega) h) (by omega) hy.1 hy.2).1
      rw [hsm]
      have n1 := negative_c true y.num.natAbs y.den (by have := (vG_bd (vG_q hy)).2.2.2.2.1; rwa [decide_eq_true (by omega)] at this)
      have n2 := negative_c true x.num.natAbs x.den (by have := (vG_bd (vG_q hx)).2.2.2.2.1; rwa [decide_eq_true (by omega)] at this)
      have em : ∀ m : Nat, decide (-(sgn true m) < 0) = false := fun m => decide_eq_false (by simp [sgn])
      rw [em] at n1 n2
      have n3 := fun A a c => negative_v (decide ((sqr y.num.natAbs y.den x.num.natAbs x.den).num < 0)) (sqr y.num.natAbs y.den x.num.natAbs x.den).num.natAbs A a c (vG_bd (vG_q hz)).2.2.2.2.1
      rw [sgn_self] at n3
      generalize sqr y.num.natAbs y.den x.num.natAbs x.den = z at *
      have ez : FQ (-z) = .ag [Bo (decide (-z.num < 0)), FM z.num.natAbs, Bo false, FM z.den] := by
        unfold FQ
        rw [Rat.neg_num, Rat.neg_den, Int.natAbs_neg]
      rw [ez]
      have e1 : decide (x.num < 0) = true := decide_eq_true (by omega)
      have e2 : decide (y.num < 0) = true := decide_eq_true (by omega)
      have n1 : Con Tryz.prog 40 [QV y] (GF false y.num.natAbs y.den) := by unfold QV; rw [e2]; exact Con.le n1 (by repeat (first | exact .refl _ | exact .tag _ _ | apply Le.ag | apply Les.cons | exact .nil))
      have n2 : Con Tryz.prog 40 [QV x] (GF false x.num.natAbs x.den) := by unfold QV; rw [e1]; exact Con.le n2 (by repeat (first | exact .refl _ | exact .tag _ _ | apply Le.ag | apply Les.cons | exact .nil))
      refine con_of Tryz.func14 rfl rfl rfl rfl rfl ?_
      repeat (first | refine seq_ ?_ | refine region_ ?_ | refine nil_ ?_ | refine block_ ?_ | refine stepY (y_assign rfl) rfl ?_ | refine stepY (y_loadA rfl rfl rfl) rfl ?_ | refine stepE (e_box rfl rfl rfl rfl rfl rfl) ?_ | refine stepE (e_alloc rfl rfl rfl) ?_ | refine stepE (e_bs_vs rfl rfl rfl rfl rfl rfl) ?_)
      refine seal_Ls (i := 11) (h := 11) rfl rfl rfl rfl ?_
      refine call_ Tryz.func33 rfl rfl (hv) rfl (by repeat (first | exact .tags _ _ | apply Les.cons | exact .nil)) rfl ?_
      repeat (first | refine seq_ ?_ | refine region_ ?_ | refine nil_ ?_ | refine cond_f rfl ?_ | refine stepY (y_assign rfl) rfl ?_ | refine stepY (y_loadA rfl rfl rfl) rfl ?_ | refine stepY (y_not rfl) rfl ?_)
      refine call_ Tryz.func37 rfl rfl (hc) rfl (by repeat (first | exact .refl _ | apply Les.cons | exact .nil)) rfl ?_
      repeat (first | refine seq_ ?_ | refine region_ ?_ | refine nil_ ?_ | refine cond_f rfl ?_ | refine stepY (y_assign rfl) rfl ?_ | refine stepY (y_loadA rfl rfl rfl) rfl ?_ | refine stepY (y_cmpF rfl rfl rfl (by omega)) rfl ?_)
      refine call_ Tryz.func38 rfl rfl (hs1) rfl (by repeat (first | exact .refl _ | apply Les.cons | exact .nil)) rfl ?_
      repeat (first | refine seq_ ?_ | refine region_ ?_ | refine nil_ ?_ | refine cond_f rfl ?_ | refine stepY (y_assign rfl) rfl ?_ | refine stepY (y_loadA rfl rfl rfl) rfl ?_ | refine stepY (y_cmpF rfl rfl rfl (by omega)) rfl ?_)
      refine call_ Tryz.func38 rfl rfl (hs2) rfl (by repeat (first | exact .refl _ | apply Les.cons | exact .nil)) rfl ?_
      repeat (first | refine seq_ ?_ | refine nil_ ?_ | refine skip_ ?_ | refine cond_f rfl ?_ | refine stepY (y_assign rfl) rfl ?_ | refine stepY (y_cmpF rfl rfl rfl (by omega)) rfl ?_)
      refine cut_ [(4, .ptr 4 0), (5, .p (I 0)), (6, .ptr 6 0), (7, .p (E_ 0))] [(4, .bx Z4), (6, .bx [Bo (decide (z.num < 0)), FM z.num.natAbs, Bo false, FM z.den])] ?_ ?_
      · refine xDraw 1000 [2, 3] mixed ?_
        refine xY (i := 0) (op := .load _ _) rfl (by (exact y_loadA rfl rfl rfl)) rfl rfl rfl rfl (by kernel_rfl) ?_
        refine xY (i := 2) (op := .load _ _) rfl (by (exact y_loadA rfl rfl rfl)) rfl rfl rfl rfl (by kernel_rfl) ?_
        refine xAll (rs := [1, 8]) (by kernel_rfl) rfl ⟨?_, ?_, trivial⟩
        · (refine iC rfl Tryz.func40 rfl rfl (n1) rfl ?_ rfl rfl ?_; (focus ((repeat (first | exact .refl _ | apply Les.cons | exact .nil)); done)))
          refine xAll (rs := [3, 8]) (by kernel_rfl) rfl ⟨?_, ?_, trivial⟩
          · (refine iC rfl Tryz.func40 rfl rfl (n2) rfl ?_ rfl rfl ?_; (focus ((repeat (first | exact .refl _ | apply Les.cons | exact .nil)); done)))
            refine xAll (rs := [4, 8]) (by kernel_rfl) rfl ⟨?_, ?_, trivial⟩
            · (refine iC rfl Tryz.func39 rfl rfl (hS) rfl (by repeat (first | exact .refl _ | apply Les.cons | exact .nil)) rfl rfl ?_)
              refine xY (i := 5) (op := .move _) rfl (by (exact y_move rfl)) rfl rfl rfl rfl (by kernel_rfl) ?_
              refine xY (i := 6) (op := .extract _ _) rfl (by (exact y_extract rfl rfl)) rfl rfl rfl rfl (by kernel_rfl) ?_
              refine xY (i := 7) (op := .extract _ _) rfl (by (exact y_extract rfl rfl)) rfl rfl rfl rfl (by kernel_rfl) ?_
              refine xAll (rs := [8]) (by kernel_rfl) rfl ⟨?_, trivial⟩
              · (refine iE rfl (e_alloc rfl rfl rfl) rfl rfl ?_)
                refine xAll (rs := [9]) (by kernel_rfl) rfl ⟨?_, trivial⟩
                · (refine iE rfl (e_store rfl rfl rfl rfl rfl rfl rfl) rfl rfl ?_)
                  refine xY (i := 10) (op := .assign _) rfl (by (exact y_assign rfl)) rfl rfl rfl rfl (by kernel_rfl) ?_
                  exact xEnd (by kernel_rfl) ⟨rfl, by (repeat (first | exact sub_nil | refine sub_cons rfl ?_)), by (repeat (first | exact subH_nil | refine subH_cons rfl ?_))⟩
            · (refine iE rfl (e_alloc rfl rfl rfl) rfl rfl ?_)
              refine xAll (rs := [4]) (by kernel_rfl) rfl ⟨?_, trivial⟩
              · (refine iC rfl Tryz.func39 rfl rfl (hS) rfl (by repeat (first | exact .refl _ | apply Les.cons | exact .nil)) rfl rfl ?_)
                refine xY (i := 5) (op := .move _) rfl (by (exact y_move rfl)) rfl rfl rfl rfl (by kernel_rfl) ?_
                refine xY (i := 6) (op := .extract _ _) rfl (by (exact y_extract rfl rfl)) rfl rfl rfl rfl (by kernel_rfl) ?_
                refine xY (i := 7) (op := .extract _ _) rfl (by (exact y_extract rfl rfl)) rfl rfl rfl rfl (by kernel_rfl) ?_
                refine xAll (rs := [9]) (by kernel_rfl) rfl ⟨?_, trivial⟩
                · (refine iE rfl (e_store rfl rfl rfl rfl rfl rfl rfl) rfl rfl ?_)
                  refine xY (i := 10) (op := .assign _) rfl (by (exact y_assign rfl)) rfl rfl rfl rfl (by kernel_rfl) ?_
                  exact xEnd (by kernel_rfl) ⟨rfl, by (repeat (first | exact sub_nil | refine sub_cons rfl ?_)), by (repeat (first | exact subH_nil | refine subH_cons rfl ?_))⟩
          · (refine iE rfl (e_alloc rfl rfl rfl) rfl rfl ?_)
            refine xAll (rs := [3]) (by kernel_rfl) rfl ⟨?_, trivial⟩
            · (refine iC rfl Tryz.func40 rfl rfl (n2) rfl ?_ rfl rfl ?_; (focus ((repeat (first | exact .refl _ | apply Les.cons | exact .nil)); done)))
              refine xAll (rs := [4]) (by kernel_rfl) rfl ⟨?_, trivial⟩
              · (refine iC rfl Tryz.func39 rfl rfl (hS) rfl (by repeat (first | exact .refl _ | apply Les.cons | exact .nil)) rfl rfl ?_)
                refine xY (i := 5) (op := .move _) rfl (by (exact y_move rfl)) rfl rfl rfl rfl (by kernel_rfl) ?_
                refine xY (i := 6) (op := .extract _ _) rfl (by (exact y_extract rfl rfl)) rfl rfl rfl rfl (by kernel_rfl) ?_
                refine xY (i := 7) (op := .extract _ _) rfl (by (exact y_extract rfl rfl)) rfl rfl rfl rfl (by kernel_rfl) ?_
                refine xAll (rs := [9]) (by kernel_rfl) rfl ⟨?_, trivial⟩
                · (refine iE rfl (e_store rfl rfl rfl rfl rfl rfl rfl) rfl rfl ?_)
                  refine xY (i := 10) (op := .assign _) rfl (by (exact y_assign rfl)) rfl rfl rfl rfl (by kernel_rfl) ?_
                  exact xEnd (by kernel_rfl) ⟨rfl, by (repeat (first | exact sub_nil | refine sub_cons rfl ?_)), by (repeat (first | exact subH_nil | refine subH_cons rfl ?_))⟩
        · (refine iE rfl (e_alloc rfl rfl rfl) rfl rfl ?_)
          refine xAll (rs := [1]) (by kernel_rfl) rfl ⟨?_, trivial⟩
          · (refine iC rfl Tryz.func40 rfl rfl (n1) rfl ?_ rfl rfl ?_; (focus ((repeat (first | exact .refl _ | apply Les.cons | exact .nil)); done)))
            refine xAll (rs := [3]) (by kernel_rfl) rfl ⟨?_, trivial⟩
            · (refine iC rfl Tryz.func40 rfl rfl (n2) rfl ?_ rfl rfl ?_; (focus ((repeat (first | exact .refl _ | apply Les.cons | exact .nil)); done)))
              refine xAll (rs := [4]) (by kernel_rfl) rfl ⟨?_, trivial⟩
              · (refine iC rfl Tryz.func39 rfl rfl (hS) rfl (by repeat (first | exact .refl _ | apply Les.cons | exact .nil)) rfl rfl ?_)
                refine xY (i := 5) (op := .move _) rfl (by (exact y_move rfl)) rfl rfl rfl rfl (by kernel_rfl) ?_
                refine xY (i := 6) (op := .extract _ _) rfl (by (exact y_extract rfl rfl)) rfl rfl rfl rfl (by kernel_rfl) ?_
                refine xY (i := 7) (op := .extract _ _) rfl (by (exact y_extract rfl rfl)) rfl rfl rfl rfl (by kernel_rfl) ?_
                refine xAll (rs := [9]) (by kernel_rfl) rfl ⟨?_, trivial⟩
                · (refine iE rfl (e_store rfl rfl rfl rfl rfl rfl rfl) rfl rfl ?_)
                  refine xY (i := 10) (op := .assign _) rfl (by (exact y_assign rfl)) rfl rfl rfl rfl (by kernel_rfl) ?_
                  exact xEnd (by kernel_rfl) ⟨rfl, by (repeat (first | exact sub_nil | refine sub_cons rfl ?_)), by (repeat (first | exact subH_nil | refine subH_cons rfl ?_))⟩
      repeat (first | refine seq_ ?_ | refine region_ ?_ | refine stepY (y_loadA rfl rfl rfl) rfl ?_)
      refine callN_ Tryz.func40 rfl rfl n3 rfl rfl ?_
      repeat (first | refine nil_ ?_ | refine ret_ ?_ | refine stepY (y_move rfl) rfl ?_ | refine stepY (y_assign rfl) rfl ?_ | refine stepE (e_store rfl rfl rfl rfl rfl rfl rfl) ?_)
      ((apply fin_r); (repeat (first | exact .nil | exact .tmp rfl | exact .agg rfl rfl rfl | apply ResL.cons)); (repeat (exact .refl _)))
end Go.Av

set_option maxHeartbeats 8000000
set_option exponentiation.threshold 100000
set_option maxRecDepth 100000
set_option linter.unusedVariables false
set_option linter.unusedSimpArgs false
namespace Go.Av
open Go Go.Proofs
/-! barscanref02.Format -/
theorem drop_rd {l : List Int} {k : Nat} (h : k < l.length) : (l.drop (k + 1)).reverse ++ [rd l k] = (l.drop k).reverse := by
  unfold rd
  rw [Int.toNat_natCast, List.getD, List.getElem?_eq_getElem h, List.drop_eq_getElem_cons h, List.reverse_cons]
  rfl
end Go.Av

/-! Numbers read out of a string. -/
set_option exponentiation.threshold 100000
namespace Go.Av
open Go
theorem bt_bd (s : ByteArray) (i : Int) : 0 ≤ bt s i ∧ bt s i ≤ 255 := by
  unfold bt
  split
  · rename_i h
    have := (s[i.toNat]'h).toNat_lt
    omega
  · omega
theorem bt_pos {s : ByteArray} (h : bt s 0 = 48) : 0 < s.size := by
  unfold bt at h
  split at h
  · rename_i h1; simpa using h1
  · omega
def negS (s : ByteArray) : Bool := decide (0 < s.size) && decide (bt s 0 = 45)
def tS (s : ByteArray) : ByteArray := if negS s then s.extract 1 s.size else s
def nm (t : ByteArray) : Nat → Nat
  | 0 => 0
  | k + 1 => nm t k * 10 + ((bt t k).toNat - 48)
def okD (t : ByteArray) : Nat → Bool
  | 0 => true
  | k + 1 => okD t k && (decide (48 ≤ bt t k) && decide (bt t k ≤ 57))
theorem okD_down {t : ByteArray} : ∀ {n k : Nat}, k ≤ n → okD t n = true → okD t k = true
  | 0, k, h, h1 => by obtain rfl : k = 0 := by omega
                      exact h1
  | n + 1, k, h, h1 => by
    simp only [okD, Bool.and_eq_true] at h1
    rcases Nat.lt_or_ge n k with h2 | h2
    · obtain rfl : k = n + 1 := by omega
      simp only [okD, Bool.and_eq_true]; exact h1
    · exact okD_down h2 h1.1
theorem okD_at {t : ByteArray} {n k : Nat} (h : k < n) (h1 : okD t n = true) : 48 ≤ bt t k ∧ bt t k ≤ 57 := by
  have := okD_down (k := k + 1) h h1
  simp only [okD, Bool.and_eq_true, decide_eq_true_eq] at this
  exact this.2
theorem nm_lt {t : ByteArray} : ∀ {k : Nat}, okD t k = true → nm t k < 10 ^ k
  | 0, _ => by simp [nm]
  | k + 1, h => by
    simp only [okD, Bool.and_eq_true, decide_eq_true_eq] at h
    have := nm_lt h.1
    simp only [nm, Nat.pow_succ]
    omega
theorem ten_B {k : Nat} (h : k ≤ 4096) : 10 ^ k ≤ B ^ 512 := by
  have h1 : 10 ^ k ≤ 16 ^ k := Nat.pow_le_pow_left (by decide) k
  have h2 : (16 : Nat) ^ k = 2 ^ (4 * k) := by rw [Nat.pow_mul]
  have h3 : (2 : Nat) ^ (4 * k) ≤ 2 ^ (32 * 512) := Nat.pow_le_pow_right (by decide) (by omega)
  rw [B_pow]
  omega
theorem nm_ln {t : ByteArray} {k : Nat} (h : okD t k = true) (hk : k ≤ 4096) : ln (nm t k) ≤ 512 := ln_le.2 (Nat.lt_of_lt_of_le (nm_lt h) (ten_B hk))
theorem dec_lo {t : ByteArray} {k : Nat} (h : k < t.size) (hb : bt t k < 128) : ((Utf8.decode t k).1 : Int) = bt t k ∧ (Utf8.decode t k).2 = 1 := by
  have hb' : bt t k = ((t[k]'h).toNat : Int) := by
    unfold bt
    rw [dif_pos (by simpa using h)]
    simp
  rw [hb'] at hb ⊢
  rw [decode_ascii t k h (by omega)]
  exact ⟨rfl, rfl⟩
theorem dec_hi {t : ByteArray} {k : Nat} (h : k < t.size) (hb : 128 ≤ bt t k) : 128 ≤ (Utf8.decode t k).1 ∧ (Utf8.decode t k).1 ≤ 2097152 := by
  have hb' : bt t k = ((t[k]'h).toNat : Int) := by
    unfold bt
    rw [dif_pos (by simpa using h)]
    simp
  rw [hb'] at hb
  have e : t.get! (k + 0) = t[k]'h := by
    show t.get! k = _
    simp [ByteArray.get!, getElem!_pos, h]
    rfl
  have h255 := (t[k]'h).toNat_lt
  have hre : Utf8.runeError = 65533 := rfl
  simp only [Utf8.decode, e]
  generalize (t[k]'h).toNat = b at *
  generalize (t.get! (k + 1)).toNat = b1
  generalize (t.get! (k + 2)).toNat = b2
  generalize (t.get! (k + 3)).toNat = b3
  have hn : ¬ b < 128 := by omega
  simp only [hn, if_false]
  repeat (first | omega | (split <;> simp_all <;> omega) | split)

/-- What Parse answers. -/
def prT (neg : Bool) (t : ByteArray) : Option (Option (Bool × Nat)) :=
  if 4096 < t.size then none
  else if t.size = 0 ∨ (bt t 0 = 48 ∧ (1 < t.size ∨ neg = true)) then some none
  else if okD t t.size = true then some (some (neg, nm t t.size)) else some none
end Go.Av

set_option maxHeartbeats 8000000
set_option exponentiation.threshold 100000
set_option maxRecDepth 100000
set_option linter.unusedVariables false
set_option linter.unusedSimpArgs false
namespace Go.Av
open Go Go.Proofs
def prV : Option (Option (Bool × Nat)) → PV
  | none => .tp [FIV 0, E_ 4]
  | some none => .tp [FIV 0, E_ 9]
  | some (some (g, n)) => .tp [FIV (sgn g n), E_ 0]
abbrev R32 (n : Int) : PV := .v (.int .i32 n)
theorem digit_t (c : Int) (h : 48 ≤ c ∧ c ≤ 57) : Con Tryz.prog 80 [R32 c] (.tp [U (c - 48), Bo true]) := by
  refine con_of Tryz.func80 rfl rfl rfl rfl rfl ?_
  repeat (first | refine seq_ ?_ | refine region_ ?_ | refine nil_ ?_ | refine ret_ ?_ | refine guard_t rfl rfl rfl ?_ | refine stepY (y_move rfl) rfl ?_ | refine stepY (y_assign rfl) rfl ?_ | refine stepY (y_convn rfl (by simp only [InK, loK, hiK]; omega)) rfl ?_ | refine stepY (y_pick_t rfl rfl) rfl ?_ | refine stepY (y_binn rfl rfl rfl (by simp only [InK, loK, hiK]; omega)) rfl ?_ | refine stepY (y_cmpT rfl rfl rfl (by omega)) rfl ?_ | refine stepY (y_cmpT rfl rfl rfl (by omega)) rfl ?_)
  ((apply fin_r); (repeat (first | exact .nil | exact .tmp rfl | apply ResL.cons)); (repeat (exact .refl _)))
theorem digit_f (c : Int) (h0 : 0 ≤ c ∧ c ≤ 2097152) (h : ¬ (48 ≤ c ∧ c ≤ 57)) : ∃ d, Con Tryz.prog 80 [R32 c] (.tp [U d, Bo false]) := by
  by_cases h1 : 48 ≤ c
  · refine ⟨c - 48, con_of Tryz.func80 rfl rfl rfl rfl rfl ?_⟩
    repeat (first | refine seq_ ?_ | refine region_ ?_ | refine nil_ ?_ | refine ret_ ?_ | refine guard_t rfl rfl rfl ?_ | refine stepY (y_move rfl) rfl ?_ | refine stepY (y_assign rfl) rfl ?_ | refine stepY (y_convn rfl (by simp only [InK, loK, hiK]; omega)) rfl ?_ | refine stepY (y_pick_t rfl rfl) rfl ?_ | refine stepY (y_binn rfl rfl rfl (by simp only [InK, loK, hiK]; omega)) rfl ?_ | refine stepY (y_cmpF rfl rfl rfl (by omega)) rfl ?_ | refine stepY (y_cmpT rfl rfl rfl (by omega)) rfl ?_)
    ((apply fin_r); (repeat (first | exact .nil | exact .tmp rfl | apply ResL.cons)); (repeat (exact .refl _)))
  · refine ⟨IntKind.wrap .u32 (c - 48), con_of Tryz.func80 rfl rfl rfl rfl rfl ?_⟩
    repeat (first | refine seq_ ?_ | refine region_ ?_ | refine nil_ ?_ | refine ret_ ?_ | refine guard_f rfl rfl rfl rfl ?_ | refine stepY (y_move rfl) rfl ?_ | refine stepY (y_assign rfl) rfl ?_ | refine stepY (y_conv rfl) rfl ?_ | refine stepY (y_pick_f rfl rfl) rfl ?_ | refine stepY (y_binn rfl rfl rfl (by simp only [InK, loK, hiK]; omega)) rfl ?_ | refine stepY (y_cmpF rfl rfl rfl (by omega)) rfl ?_)
    ((apply fin_r); (repeat (first | exact .nil | exact .tmp rfl | apply ResL.cons)); (repeat (exact .refl _)))
theorem Parse_c (s : ByteArray) : Con Tryz.prog 55 [.v (.string s)] (prV (prT (negS s) (tS s))) := by
  refine con_of Tryz.func55 rfl rfl rfl rfl rfl ?_
  have hb := bt_bd s 0
  by_cases hs : 0 < s.size
  · by_cases h45 : bt s 0 = 45
    · have hn : negS s = true := by simp [negS, hs, h45]
      have ht : tS s = s.extract (1 : Int).toNat s.size := by simp [tS, hn]
      rw [hn, ht]
      have hb0 := bt_bd (s.extract (1 : Int).toNat s.size) 0
      by_cases hlong : 4096 < (s.extract (1 : Int).toNat s.size).size
      · have hprt : prT true (s.extract (1 : Int).toNat s.size) = none := by
          unfold prT
          rw [if_pos hlong]
        rw [hprt]
        repeat (first | refine seq_ ?_ | refine region_ ?_ | refine nil_ ?_ | refine ret_ ?_ | refine cond_t rfl ?_ | refine guard_t rfl rfl rfl ?_ | refine stepY (y_move rfl) rfl ?_ | refine stepY (y_assign rfl) rfl ?_ | refine stepY (y_len_str rfl) rfl ?_ | refine stepY (y_pick_t rfl rfl) rfl ?_ | refine stepY (y_build rfl rfl rfl) rfl ?_ | refine stepY (y_index_str rfl rfl (by omega) (by omega)) rfl ?_ | refine stepY (y_slice_str_l rfl rfl (by omega) (by omega)) rfl ?_ | refine stepY (y_cmpT rfl rfl rfl (by omega)) rfl ?_ | refine stepY (y_cmpT rfl rfl rfl (by omega)) rfl ?_ | refine stepE (e_alloc rfl rfl rfl) ?_ | refine stepE (e_store rfl rfl rfl rfl rfl rfl rfl) ?_)
        ((apply fin_r); (repeat (first | exact .nil | exact .tmp rfl | exact .agg rfl rfl rfl | apply ResL.cons)); (repeat (first | exact .refl _ | exact .nil _ _ | apply Le.ag | apply Le.tp | apply Les.cons | exact .nil)))
      by_cases hfm : (s.extract (1 : Int).toNat s.size).size = 0 ∨ (bt (s.extract (1 : Int).toNat s.size) 0 = 48 ∧ (1 < (s.extract (1 : Int).toNat s.size).size ∨ true = true))
      · have hprt : prT true (s.extract (1 : Int).toNat s.size) = some none := by
          unfold prT
          rw [if_neg hlong, if_pos hfm]
        rw [hprt]
        rcases hfm with hz | ⟨h48, h1⟩
        · have he : s.extract (1 : Int).toNat s.size = ⟨#[]⟩ := by
            apply ByteArray.ext
            apply Array.eq_empty_of_size_eq_zero
            exact hz
          have hde : decide (s.extract (1 : Int).toNat s.size = (⟨#[]⟩ : ByteArray)) = true := decide_eq_true he
          repeat (first | refine seq_ ?_ | refine region_ ?_ | refine nil_ ?_ | refine skip_ ?_ | refine cond_t rfl ?_ | refine cond_f rfl ?_ | refine guard_t rfl rfl rfl ?_ | refine stepY (y_move rfl) rfl ?_ | refine stepY (y_assign rfl) rfl ?_ | refine stepY (y_len_str rfl) rfl ?_ | refine stepY (y_pick_t rfl rfl) rfl ?_ | refine stepY (y_index_str rfl rfl (by omega) (by omega)) rfl ?_ | refine stepY (y_slice_str_l rfl rfl (by omega) (by omega)) rfl ?_ | (first | refine stepY (y_cmpT rfl rfl rfl (by omega)) rfl ?_ | refine stepY (y_eqs rfl rfl) rfl ?_) | (first | refine stepY (y_cmpT rfl rfl rfl (by omega)) rfl ?_ | refine stepY (y_cmpF rfl rfl rfl (by omega)) rfl ?_) | refine stepE (e_alloc rfl rfl rfl) ?_)
          rw [hde]
          repeat (first | refine seq_ ?_ | refine region_ ?_ | refine nil_ ?_ | refine ret_ ?_ | refine cond_t rfl ?_ | refine guard_f rfl rfl rfl rfl ?_ | refine guard_u rfl rfl rfl ?_ | refine stepY (y_assign rfl) rfl ?_ | refine stepY (y_pick_t rfl rfl) rfl ?_ | refine stepY (y_build rfl rfl rfl) rfl ?_ | refine stepE (e_store rfl rfl rfl rfl rfl rfl rfl) ?_)
          ((apply fin_r); (repeat (first | exact .nil | exact .tmp rfl | exact .agg rfl rfl rfl | apply ResL.cons)); (repeat (first | exact .refl _ | exact .nil _ _ | apply Le.ag | apply Le.tp | apply Les.cons | exact .nil)))
        · have hz := bt_pos h48
          have he : decide (s.extract (1 : Int).toNat s.size = (⟨#[]⟩ : ByteArray)) = false := decide_eq_false (fun e => by rw [e] at hz; exact absurd hz (by decide))
          by_cases h1s : 1 < (s.extract (1 : Int).toNat s.size).size
          · repeat (first | refine seq_ ?_ | refine region_ ?_ | refine nil_ ?_ | refine skip_ ?_ | refine cond_t rfl ?_ | refine cond_f rfl ?_ | refine guard_t rfl rfl rfl ?_ | refine stepY (y_move rfl) rfl ?_ | refine stepY (y_assign rfl) rfl ?_ | refine stepY (y_len_str rfl) rfl ?_ | refine stepY (y_pick_t rfl rfl) rfl ?_ | refine stepY (y_index_str rfl rfl (by omega) (by omega)) rfl ?_ | refine stepY (y_slice_str_l rfl rfl (by omega) (by omega)) rfl ?_ | (first | refine stepY (y_cmpT rfl rfl rfl (by omega)) rfl ?_ | refine stepY (y_eqs rfl rfl) rfl ?_) | (first | refine stepY (y_cmpT rfl rfl rfl (by omega)) rfl ?_ | refine stepY (y_cmpF rfl rfl rfl (by omega)) rfl ?_) | refine stepE (e_alloc rfl rfl rfl) ?_)
            rw [he]
            repeat (first | refine seq_ ?_ | refine region_ ?_ | refine nil_ ?_ | refine ret_ ?_ | refine cond_t rfl ?_ | refine guard_t rfl rfl rfl ?_ | refine guard_f rfl rfl rfl rfl ?_ | refine stepY (y_move rfl) rfl ?_ | refine stepY (y_assign rfl) rfl ?_ | refine stepY (y_len_str rfl) rfl ?_ | (first | refine stepY (y_pick_t rfl rfl) rfl ?_ | refine stepY (y_pick_f rfl rfl) rfl ?_) | refine stepY (y_build rfl rfl rfl) rfl ?_ | refine stepY (y_index_str rfl rfl (by omega) (by omega)) rfl ?_ | refine stepY (y_cmpT rfl rfl rfl (by omega)) rfl ?_ | refine stepY (y_cmpT rfl rfl rfl (by omega)) rfl ?_ | refine stepE (e_store rfl rfl rfl rfl rfl rfl rfl) ?_)
            ((apply fin_r); (repeat (first | exact .nil | exact .tmp rfl | exact .agg rfl rfl rfl | apply ResL.cons)); (repeat (first | exact .refl _ | exact .nil _ _ | apply Le.ag | apply Le.tp | apply Les.cons | exact .nil)))
          · repeat (first | refine seq_ ?_ | refine region_ ?_ | refine nil_ ?_ | refine skip_ ?_ | refine cond_t rfl ?_ | refine cond_f rfl ?_ | refine guard_t rfl rfl rfl ?_ | refine stepY (y_move rfl) rfl ?_ | refine stepY (y_assign rfl) rfl ?_ | refine stepY (y_len_str rfl) rfl ?_ | refine stepY (y_pick_t rfl rfl) rfl ?_ | refine stepY (y_index_str rfl rfl (by omega) (by omega)) rfl ?_ | refine stepY (y_slice_str_l rfl rfl (by omega) (by omega)) rfl ?_ | (first | refine stepY (y_cmpT rfl rfl rfl (by omega)) rfl ?_ | refine stepY (y_eqs rfl rfl) rfl ?_) | (first | refine stepY (y_cmpT rfl rfl rfl (by omega)) rfl ?_ | refine stepY (y_cmpF rfl rfl rfl (by omega)) rfl ?_) | refine stepE (e_alloc rfl rfl rfl) ?_)
            rw [he]
            repeat (first | refine seq_ ?_ | refine region_ ?_ | refine nil_ ?_ | refine ret_ ?_ | refine cond_t rfl ?_ | refine guard_t rfl rfl rfl ?_ | refine stepY (y_move rfl) rfl ?_ | refine stepY (y_assign rfl) rfl ?_ | refine stepY (y_len_str rfl) rfl ?_ | (first | refine stepY (y_pick_t rfl rfl) rfl ?_ | refine stepY (y_pick_f rfl rfl) rfl ?_) | refine stepY (y_build rfl rfl rfl) rfl ?_ | refine stepY (y_index_str rfl rfl (by omega) (by omega)) rfl ?_ | refine stepY (y_cmpT rfl rfl rfl (by omega)) rfl ?_ | refine stepY (y_cmpF rfl rfl rfl (by omega)) rfl ?_ | refine stepE (e_store rfl rfl rfl rfl rfl rfl rfl) ?_)
            ((apply fin_r); (repeat (first | exact .nil | exact .tmp rfl | exact .agg rfl rfl rfl | apply ResL.cons)); (repeat (first | exact .refl _ | exact .nil _ _ | apply Le.ag | apply Le.tp | apply Les.cons | exact .nil)))
      have hsz : 0 < (s.extract (1 : Int).toNat s.size).size := Nat.pos_of_ne_zero fun h => hfm (.inl h)
      have hfm2 : bt (s.extract (1 : Int).toNat s.size) 0 = 48 → ¬ 1 < (s.extract (1 : Int).toNat s.size).size := fun h1 h2 => hfm (.inr ⟨h1, .inl h2⟩)
      have hprt : prT true (s.extract (1 : Int).toNat s.size) = if okD (s.extract (1 : Int).toNat s.size) (s.extract (1 : Int).toNat s.size).size = true then some (some (true, nm (s.extract (1 : Int).toNat s.size) (s.extract (1 : Int).toNat s.size).size)) else some none := by
        unfold prT
        rw [if_neg hlong, if_neg hfm]
      rw [hprt]
      have he : decide (s.extract (1 : Int).toNat s.size = (⟨#[]⟩ : ByteArray)) = false := decide_eq_false (fun e => by rw [e] at hsz; exact absurd hsz (by decide))
      have h48 : ¬ bt (s.extract (1 : Int).toNat s.size) 0 = 48 := fun h => hfm (.inr ⟨h, .inr rfl⟩)
      repeat (first | refine seq_ ?_ | refine region_ ?_ | refine nil_ ?_ | refine skip_ ?_ | refine cond_t rfl ?_ | refine cond_f rfl ?_ | refine guard_t rfl rfl rfl ?_ | refine stepY (y_move rfl) rfl ?_ | refine stepY (y_assign rfl) rfl ?_ | refine stepY (y_len_str rfl) rfl ?_ | refine stepY (y_pick_t rfl rfl) rfl ?_ | refine stepY (y_index_str rfl rfl (by omega) (by omega)) rfl ?_ | refine stepY (y_slice_str_l rfl rfl (by omega) (by omega)) rfl ?_ | (first | refine stepY (y_cmpT rfl rfl rfl (by omega)) rfl ?_ | refine stepY (y_eqs rfl rfl) rfl ?_) | (first | refine stepY (y_cmpT rfl rfl rfl (by omega)) rfl ?_ | refine stepY (y_cmpF rfl rfl rfl (by omega)) rfl ?_) | refine stepE (e_alloc rfl rfl rfl) ?_)
      rw [he]
      repeat (first | refine seq_ ?_ | refine region_ ?_ | refine nil_ ?_ | refine skip_ ?_ | refine block_ ?_ | refine cond_f rfl ?_ | refine guard_t rfl rfl rfl ?_ | refine guard_f rfl rfl rfl rfl ?_ | refine guard_u rfl rfl rfl ?_ | refine stepY (y_move rfl) rfl ?_ | refine stepY (y_assign rfl) rfl ?_ | refine stepY (y_pick_f rfl rfl) rfl ?_ | refine stepY (y_index_str rfl rfl (by omega) (by omega)) rfl ?_ | refine stepY (y_cmpF rfl rfl rfl (by omega)) rfl ?_ | refine stepE (e_range_str rfl rfl rfl rfl) ?_)
      refine le_C (i := 6) (M 0) rfl (.nil _ _) ?_
      refine loop_ (α := Nat) (fun k => ([(2, .ptr 2 0), (5, .p (Bo true)), (6, .p (M (nm (s.extract (1 : Int).toNat s.size) k))), (44, .ptr 44 0)], [(2, .bx [Bo false, .v (.slice none 0 0)]), (44, .it (s.extract (1 : Int).toNat s.size) k)])) (fun k => k ≤ (s.extract (1 : Int).toNat s.size).size ∧ okD (s.extract (1 : Int).toNat s.size) k = true) (fun k => (s.extract (1 : Int).toNat s.size).size - k) 0 ⟨Nat.zero_le _, rfl⟩ ?_ ?_ ?_
      · (repeat (first | exact sub_nil | refine sub_cons rfl ?_))
      · (repeat (first | exact subH_nil | refine subH_cons rfl ?_))
      intro k ⟨hk, hok⟩
      have hbd := bt_bd (s.extract (1 : Int).toNat s.size) k
      have hnl := nm_ln hok (by omega)
      by_cases hlt : k < (s.extract (1 : Int).toNat s.size).size
      · by_cases hdig : 48 ≤ bt (s.extract (1 : Int).toNat s.size) k ∧ bt (s.extract (1 : Int).toNat s.size) k ≤ 57
        · obtain ⟨hd1, hd2⟩ := dec_lo hlt (by omega)
          have hx := extended_c (nm (s.extract (1 : Int).toNat s.size) k) 10 ((bt (s.extract (1 : Int).toNat s.size) k).toNat - 48) (by omega) (by decide) (by omega)
          have hd : bt (s.extract (1 : Int).toNat s.size) k - 48 = (((bt (s.extract (1 : Int).toNat s.size) k).toNat - 48 : Nat) : Int) := by omega
          repeat (first | refine seq_ ?_ | refine region_ ?_ | refine nil_ ?_ | refine skip_ ?_ | refine block_ ?_ | refine cond_t rfl ?_ | refine stepY (y_move rfl) rfl ?_ | refine stepY (y_assign rfl) rfl ?_ | refine stepY (y_extract rfl rfl) rfl ?_ | refine stepE (e_next_in rfl rfl (by omega) rfl) ?_)
          rw [hd1, hd2]
          refine call_ Tryz.func80 rfl rfl (digit_t _ hdig) rfl (by repeat (first | exact .refl _ | apply Les.cons | exact .nil)) rfl ?_
          rw [hd]
          repeat (first | refine seq_ ?_ | refine region_ ?_ | refine nil_ ?_ | refine skip_ ?_ | refine cond_f rfl ?_ | refine stepY (y_move rfl) rfl ?_ | refine stepY (y_assign rfl) rfl ?_ | refine stepY (y_extract rfl rfl) rfl ?_ | refine stepY (y_not rfl) rfl ?_)
          refine call_ Tryz.func81 rfl rfl hx rfl (by repeat (first | exact .refl _ | apply Les.cons | exact .nil)) rfl ?_
          repeat (first | refine nil_ ?_ | refine stepY (y_assign rfl) rfl ?_)
          refine ⟨k + 1, ⟨by omega, ?_⟩, by omega, ?_, ?_⟩
          · simp only [okD, hok, Bool.true_and, Bool.and_eq_true, decide_eq_true_eq]; exact hdig
          · show ∀ i x, _
            (repeat (first | exact sub_nil | refine sub_cons rfl ?_))
          · (repeat (first | exact subH_nil | refine subH_cons rfl ?_))
        · have hbad : ¬ okD (s.extract (1 : Int).toNat s.size) (s.extract (1 : Int).toNat s.size).size = true := fun h => hdig (okD_at hlt h)
          rw [if_neg hbad]
          have hc : 0 ≤ ((Utf8.decode (s.extract (1 : Int).toNat s.size) k).1 : Int) ∧ ((Utf8.decode (s.extract (1 : Int).toNat s.size) k).1 : Int) ≤ 2097152 ∧ ¬ (48 ≤ ((Utf8.decode (s.extract (1 : Int).toNat s.size) k).1 : Int) ∧ ((Utf8.decode (s.extract (1 : Int).toNat s.size) k).1 : Int) ≤ 57) := by
            by_cases h128 : bt (s.extract (1 : Int).toNat s.size) k < 128
            · rw [(dec_lo hlt h128).1]; omega
            · have := dec_hi hlt (by omega); omega
          obtain ⟨dd, hdf⟩ := digit_f _ ⟨hc.1, hc.2.1⟩ hc.2.2
          repeat (first | refine seq_ ?_ | refine region_ ?_ | refine nil_ ?_ | refine skip_ ?_ | refine block_ ?_ | refine cond_t rfl ?_ | refine stepY (y_move rfl) rfl ?_ | refine stepY (y_assign rfl) rfl ?_ | refine stepY (y_extract rfl rfl) rfl ?_ | refine stepE (e_next_in rfl rfl (by omega) rfl) ?_)
          refine call_ Tryz.func80 rfl rfl hdf rfl (by repeat (first | exact .refl _ | apply Les.cons | exact .nil)) rfl ?_
          repeat (first | refine seq_ ?_ | refine region_ ?_ | refine nil_ ?_ | refine ret_ ?_ | refine cond_t rfl ?_ | refine stepY (y_move rfl) rfl ?_ | refine stepY (y_assign rfl) rfl ?_ | refine stepY (y_extract rfl rfl) rfl ?_ | refine stepY (y_not rfl) rfl ?_ | refine stepY (y_build rfl rfl rfl) rfl ?_ | refine stepE (e_store rfl rfl rfl rfl rfl rfl rfl) ?_)
          ((apply fin_r); (repeat (first | exact .nil | exact .tmp rfl | exact .agg rfl rfl rfl | apply ResL.cons)); (repeat (first | exact .refl _ | exact .nil _ _ | apply Le.ag | apply Le.tp | apply Les.cons | exact .nil)))
      · obtain rfl : k = (s.extract (1 : Int).toNat s.size).size := by omega
        rw [if_pos hok]
        have hmd := made_c true (limbs (nm (s.extract (1 : Int).toNat s.size) (s.extract (1 : Int).toNat s.size).size)) (wf_limbs _) (by rw [limbs_length]; omega)
        rw [val_limbs] at hmd
        repeat (first | refine seq_ ?_ | refine region_ ?_ | refine nil_ ?_ | refine exit_ ?_ | refine cond_f rfl ?_ | refine stepY (y_move rfl) rfl ?_ | refine stepY (y_extract rfl rfl) rfl ?_ | refine stepY (e_next_end (d := 0) (N := 1) rfl rfl (by omega) rfl) rfl ?_)
        refine call_ Tryz.func71 rfl rfl hmd rfl (by repeat (first | exact .refl _ | apply Les.cons | exact .nil)) rfl ?_
        repeat (first | refine nil_ ?_ | refine ret_ ?_ | refine stepY (y_assign rfl) rfl ?_ | refine stepE (e_store rfl rfl rfl rfl rfl rfl rfl) ?_)
        ((apply fin_r); (repeat (first | exact .nil | exact .tmp rfl | exact .agg rfl rfl rfl | apply ResL.cons)); (repeat (exact .refl _)))
    · have hn : negS s = false := by simp [negS, h45]
      have ht : tS s = s := by simp [tS, hn]
      rw [hn, ht]
      have hb0 := bt_bd (s) 0
      by_cases hlong : 4096 < (s).size
      · have hprt : prT false (s) = none := by
          unfold prT
          rw [if_pos hlong]
        rw [hprt]
        repeat (first | refine seq_ ?_ | refine region_ ?_ | refine nil_ ?_ | refine skip_ ?_ | refine ret_ ?_ | refine cond_t rfl ?_ | refine cond_f rfl ?_ | refine guard_t rfl rfl rfl ?_ | refine stepY (y_move rfl) rfl ?_ | refine stepY (y_assign rfl) rfl ?_ | refine stepY (y_len_str rfl) rfl ?_ | refine stepY (y_pick_t rfl rfl) rfl ?_ | refine stepY (y_build rfl rfl rfl) rfl ?_ | refine stepY (y_index_str rfl rfl (by omega) (by omega)) rfl ?_ | refine stepY (y_cmpF rfl rfl rfl (by omega)) rfl ?_ | refine stepY (y_cmpT rfl rfl rfl (by omega)) rfl ?_ | refine stepE (e_alloc rfl rfl rfl) ?_ | refine stepE (e_store rfl rfl rfl rfl rfl rfl rfl) ?_)
        ((apply fin_r); (repeat (first | exact .nil | exact .tmp rfl | exact .agg rfl rfl rfl | apply ResL.cons)); (repeat (first | exact .refl _ | exact .nil _ _ | apply Le.ag | apply Le.tp | apply Les.cons | exact .nil)))
      by_cases hfm : (s).size = 0 ∨ (bt (s) 0 = 48 ∧ (1 < (s).size ∨ false = true))
      · have hprt : prT false (s) = some none := by
          unfold prT
          rw [if_neg hlong, if_pos hfm]
        rw [hprt]
        rcases hfm with hz | ⟨h48, h1⟩
        · omega
        · have hz := bt_pos h48
          have he : decide (s = (⟨#[]⟩ : ByteArray)) = false := decide_eq_false (fun e => by rw [e] at hz; exact absurd hz (by decide))
          by_cases h1s : 1 < (s).size
          · repeat (first | refine seq_ ?_ | refine region_ ?_ | refine nil_ ?_ | refine skip_ ?_ | refine cond_f rfl ?_ | refine guard_t rfl rfl rfl ?_ | refine stepY (y_move rfl) rfl ?_ | refine stepY (y_assign rfl) rfl ?_ | refine stepY (y_len_str rfl) rfl ?_ | refine stepY (y_pick_t rfl rfl) rfl ?_ | refine stepY (y_index_str rfl rfl (by omega) (by omega)) rfl ?_ | (first | refine stepY (y_cmpF rfl rfl rfl (by omega)) rfl ?_ | refine stepY (y_eqs rfl rfl) rfl ?_) | (first | refine stepY (y_cmpT rfl rfl rfl (by omega)) rfl ?_ | refine stepY (y_cmpF rfl rfl rfl (by omega)) rfl ?_) | refine stepE (e_alloc rfl rfl rfl) ?_)
            rw [he]
            repeat (first | refine seq_ ?_ | refine region_ ?_ | refine nil_ ?_ | refine ret_ ?_ | refine cond_t rfl ?_ | refine guard_t rfl rfl rfl ?_ | refine guard_f rfl rfl rfl rfl ?_ | refine stepY (y_move rfl) rfl ?_ | refine stepY (y_assign rfl) rfl ?_ | refine stepY (y_len_str rfl) rfl ?_ | (first | refine stepY (y_pick_t rfl rfl) rfl ?_ | refine stepY (y_pick_f rfl rfl) rfl ?_) | refine stepY (y_build rfl rfl rfl) rfl ?_ | refine stepY (y_index_str rfl rfl (by omega) (by omega)) rfl ?_ | refine stepY (y_cmpT rfl rfl rfl (by omega)) rfl ?_ | refine stepY (y_cmpT rfl rfl rfl (by omega)) rfl ?_ | refine stepE (e_store rfl rfl rfl rfl rfl rfl rfl) ?_)
            ((apply fin_r); (repeat (first | exact .nil | exact .tmp rfl | exact .agg rfl rfl rfl | apply ResL.cons)); (repeat (first | exact .refl _ | exact .nil _ _ | apply Le.ag | apply Le.tp | apply Les.cons | exact .nil)))
          · exact absurd (h1.resolve_left h1s) (by decide)
      have hsz : 0 < (s).size := Nat.pos_of_ne_zero fun h => hfm (.inl h)
      have hfm2 : bt (s) 0 = 48 → ¬ 1 < (s).size := fun h1 h2 => hfm (.inr ⟨h1, .inl h2⟩)
      have hprt : prT false (s) = if okD (s) (s).size = true then some (some (false, nm (s) (s).size)) else some none := by
        unfold prT
        rw [if_neg hlong, if_neg hfm]
      rw [hprt]
      have he : decide (s = (⟨#[]⟩ : ByteArray)) = false := decide_eq_false (fun e => by rw [e] at hsz; exact absurd hsz (by decide))
      by_cases h48 : bt s 0 = 48
      · have hfm3 := hfm2 h48
        repeat (first | refine seq_ ?_ | refine region_ ?_ | refine nil_ ?_ | refine skip_ ?_ | refine cond_f rfl ?_ | refine guard_t rfl rfl rfl ?_ | refine stepY (y_move rfl) rfl ?_ | refine stepY (y_assign rfl) rfl ?_ | refine stepY (y_len_str rfl) rfl ?_ | refine stepY (y_pick_t rfl rfl) rfl ?_ | refine stepY (y_index_str rfl rfl (by omega) (by omega)) rfl ?_ | (first | refine stepY (y_cmpF rfl rfl rfl (by omega)) rfl ?_ | refine stepY (y_eqs rfl rfl) rfl ?_) | (first | refine stepY (y_cmpT rfl rfl rfl (by omega)) rfl ?_ | refine stepY (y_cmpF rfl rfl rfl (by omega)) rfl ?_) | refine stepE (e_alloc rfl rfl rfl) ?_)
        rw [he]
        repeat (first | refine seq_ ?_ | refine region_ ?_ | refine nil_ ?_ | refine skip_ ?_ | refine block_ ?_ | refine cond_f rfl ?_ | refine guard_t rfl rfl rfl ?_ | refine stepY (y_move rfl) rfl ?_ | refine stepY (y_assign rfl) rfl ?_ | refine stepY (y_len_str rfl) rfl ?_ | (first | refine stepY (y_pick_t rfl rfl) rfl ?_ | refine stepY (y_pick_f rfl rfl) rfl ?_) | refine stepY (y_index_str rfl rfl (by omega) (by omega)) rfl ?_ | refine stepY (y_cmpT rfl rfl rfl (by omega)) rfl ?_ | refine stepY (y_cmpF rfl rfl rfl (by omega)) rfl ?_ | refine stepE (e_range_str rfl rfl rfl rfl) ?_)
        refine le_C (i := 6) (M 0) rfl (.nil _ _) ?_
        refine loop_ (α := Nat) (fun k => ([(2, .ptr 2 0), (5, .p (Bo false)), (6, .p (M (nm (s) k))), (44, .ptr 44 0)], [(2, .bx [Bo false, .v (.slice none 0 0)]), (44, .it (s) k)])) (fun k => k ≤ (s).size ∧ okD (s) k = true) (fun k => (s).size - k) 0 ⟨Nat.zero_le _, rfl⟩ ?_ ?_ ?_
        · (repeat (first | exact sub_nil | refine sub_cons rfl ?_))
        · (repeat (first | exact subH_nil | refine subH_cons rfl ?_))
        intro k ⟨hk, hok⟩
        have hbd := bt_bd (s) k
        have hnl := nm_ln hok (by omega)
        by_cases hlt : k < (s).size
        · by_cases hdig : 48 ≤ bt (s) k ∧ bt (s) k ≤ 57
          · obtain ⟨hd1, hd2⟩ := dec_lo hlt (by omega)
            have hx := extended_c (nm (s) k) 10 ((bt (s) k).toNat - 48) (by omega) (by decide) (by omega)
            have hd : bt (s) k - 48 = (((bt (s) k).toNat - 48 : Nat) : Int) := by omega
            repeat (first | refine seq_ ?_ | refine region_ ?_ | refine nil_ ?_ | refine skip_ ?_ | refine block_ ?_ | refine cond_t rfl ?_ | refine stepY (y_move rfl) rfl ?_ | refine stepY (y_assign rfl) rfl ?_ | refine stepY (y_extract rfl rfl) rfl ?_ | refine stepE (e_next_in rfl rfl (by omega) rfl) ?_)
            rw [hd1, hd2]
            refine call_ Tryz.func80 rfl rfl (digit_t _ hdig) rfl (by repeat (first | exact .refl _ | apply Les.cons | exact .nil)) rfl ?_
            rw [hd]
            repeat (first | refine seq_ ?_ | refine region_ ?_ | refine nil_ ?_ | refine skip_ ?_ | refine cond_f rfl ?_ | refine stepY (y_move rfl) rfl ?_ | refine stepY (y_assign rfl) rfl ?_ | refine stepY (y_extract rfl rfl) rfl ?_ | refine stepY (y_not rfl) rfl ?_)
            refine call_ Tryz.func81 rfl rfl hx rfl (by repeat (first | exact .refl _ | apply Les.cons | exact .nil)) rfl ?_
            repeat (first | refine nil_ ?_ | refine stepY (y_assign rfl) rfl ?_)
            refine ⟨k + 1, ⟨by omega, ?_⟩, by omega, ?_, ?_⟩
            · simp only [okD, hok, Bool.true_and, Bool.and_eq_true, decide_eq_true_eq]; exact hdig
            · show ∀ i x, _
              (repeat (first | exact sub_nil | refine sub_cons rfl ?_))
            · (repeat (first | exact subH_nil | refine subH_cons rfl ?_))
          · have hbad : ¬ okD (s) (s).size = true := fun h => hdig (okD_at hlt h)
            rw [if_neg hbad]
            have hc : 0 ≤ ((Utf8.decode (s) k).1 : Int) ∧ ((Utf8.decode (s) k).1 : Int) ≤ 2097152 ∧ ¬ (48 ≤ ((Utf8.decode (s) k).1 : Int) ∧ ((Utf8.decode (s) k).1 : Int) ≤ 57) := by
              by_cases h128 : bt (s) k < 128
              · rw [(dec_lo hlt h128).1]; omega
              · have := dec_hi hlt (by omega); omega
            obtain ⟨dd, hdf⟩ := digit_f _ ⟨hc.1, hc.2.1⟩ hc.2.2
            repeat (first | refine seq_ ?_ | refine region_ ?_ | refine nil_ ?_ | refine skip_ ?_ | refine block_ ?_ | refine cond_t rfl ?_ | refine stepY (y_move rfl) rfl ?_ | refine stepY (y_assign rfl) rfl ?_ | refine stepY (y_extract rfl rfl) rfl ?_ | refine stepE (e_next_in rfl rfl (by omega) rfl) ?_)
            refine call_ Tryz.func80 rfl rfl hdf rfl (by repeat (first | exact .refl _ | apply Les.cons | exact .nil)) rfl ?_
            repeat (first | refine seq_ ?_ | refine region_ ?_ | refine nil_ ?_ | refine ret_ ?_ | refine cond_t rfl ?_ | refine stepY (y_move rfl) rfl ?_ | refine stepY (y_assign rfl) rfl ?_ | refine stepY (y_extract rfl rfl) rfl ?_ | refine stepY (y_not rfl) rfl ?_ | refine stepY (y_build rfl rfl rfl) rfl ?_ | refine stepE (e_store rfl rfl rfl rfl rfl rfl rfl) ?_)
            ((apply fin_r); (repeat (first | exact .nil | exact .tmp rfl | exact .agg rfl rfl rfl | apply ResL.cons)); (repeat (first | exact .refl _ | exact .nil _ _ | apply Le.ag | apply Le.tp | apply Les.cons | exact .nil)))
        · obtain rfl : k = (s).size := by omega
          rw [if_pos hok]
          have hmd := made_c false (limbs (nm (s) (s).size)) (wf_limbs _) (by rw [limbs_length]; omega)
          rw [val_limbs] at hmd
          repeat (first | refine seq_ ?_ | refine region_ ?_ | refine nil_ ?_ | refine exit_ ?_ | refine cond_f rfl ?_ | refine stepY (y_move rfl) rfl ?_ | refine stepY (y_extract rfl rfl) rfl ?_ | refine stepY (e_next_end (d := 0) (N := 1) rfl rfl (by omega) rfl) rfl ?_)
          refine call_ Tryz.func71 rfl rfl hmd rfl (by repeat (first | exact .refl _ | apply Les.cons | exact .nil)) rfl ?_
          repeat (first | refine nil_ ?_ | refine ret_ ?_ | refine stepY (y_assign rfl) rfl ?_ | refine stepE (e_store rfl rfl rfl rfl rfl rfl rfl) ?_)
          ((apply fin_r); (repeat (first | exact .nil | exact .tmp rfl | exact .agg rfl rfl rfl | apply ResL.cons)); (repeat (exact .refl _)))
      · repeat (first | refine seq_ ?_ | refine region_ ?_ | refine nil_ ?_ | refine skip_ ?_ | refine cond_f rfl ?_ | refine guard_t rfl rfl rfl ?_ | refine stepY (y_move rfl) rfl ?_ | refine stepY (y_assign rfl) rfl ?_ | refine stepY (y_len_str rfl) rfl ?_ | refine stepY (y_pick_t rfl rfl) rfl ?_ | refine stepY (y_index_str rfl rfl (by omega) (by omega)) rfl ?_ | (first | refine stepY (y_cmpF rfl rfl rfl (by omega)) rfl ?_ | refine stepY (y_eqs rfl rfl) rfl ?_) | (first | refine stepY (y_cmpT rfl rfl rfl (by omega)) rfl ?_ | refine stepY (y_cmpF rfl rfl rfl (by omega)) rfl ?_) | refine stepE (e_alloc rfl rfl rfl) ?_)
        rw [he]
        repeat (first | refine seq_ ?_ | refine region_ ?_ | refine nil_ ?_ | refine skip_ ?_ | refine block_ ?_ | refine cond_f rfl ?_ | refine guard_t rfl rfl rfl ?_ | refine guard_f rfl rfl rfl rfl ?_ | refine guard_u rfl rfl rfl ?_ | refine stepY (y_move rfl) rfl ?_ | refine stepY (y_assign rfl) rfl ?_ | refine stepY (y_pick_f rfl rfl) rfl ?_ | refine stepY (y_index_str rfl rfl (by omega) (by omega)) rfl ?_ | refine stepY (y_cmpF rfl rfl rfl (by omega)) rfl ?_ | refine stepE (e_range_str rfl rfl rfl rfl) ?_)
        refine le_C (i := 6) (M 0) rfl (.nil _ _) ?_
        refine loop_ (α := Nat) (fun k => ([(2, .ptr 2 0), (5, .p (Bo false)), (6, .p (M (nm (s) k))), (44, .ptr 44 0)], [(2, .bx [Bo false, .v (.slice none 0 0)]), (44, .it (s) k)])) (fun k => k ≤ (s).size ∧ okD (s) k = true) (fun k => (s).size - k) 0 ⟨Nat.zero_le _, rfl⟩ ?_ ?_ ?_
        · (repeat (first | exact sub_nil | refine sub_cons rfl ?_))
        · (repeat (first | exact subH_nil | refine subH_cons rfl ?_))
        intro k ⟨hk, hok⟩
        have hbd := bt_bd (s) k
        have hnl := nm_ln hok (by omega)
        by_cases hlt : k < (s).size
        · by_cases hdig : 48 ≤ bt (s) k ∧ bt (s) k ≤ 57
          · obtain ⟨hd1, hd2⟩ := dec_lo hlt (by omega)
            have hx := extended_c (nm (s) k) 10 ((bt (s) k).toNat - 48) (by omega) (by decide) (by omega)
            have hd : bt (s) k - 48 = (((bt (s) k).toNat - 48 : Nat) : Int) := by omega
            repeat (first | refine seq_ ?_ | refine region_ ?_ | refine nil_ ?_ | refine skip_ ?_ | refine block_ ?_ | refine cond_t rfl ?_ | refine stepY (y_move rfl) rfl ?_ | refine stepY (y_assign rfl) rfl ?_ | refine stepY (y_extract rfl rfl) rfl ?_ | refine stepE (e_next_in rfl rfl (by omega) rfl) ?_)
            rw [hd1, hd2]
            refine call_ Tryz.func80 rfl rfl (digit_t _ hdig) rfl (by repeat (first | exact .refl _ | apply Les.cons | exact .nil)) rfl ?_
            rw [hd]
            repeat (first | refine seq_ ?_ | refine region_ ?_ | refine nil_ ?_ | refine skip_ ?_ | refine cond_f rfl ?_ | refine stepY (y_move rfl) rfl ?_ | refine stepY (y_assign rfl) rfl ?_ | refine stepY (y_extract rfl rfl) rfl ?_ | refine stepY (y_not rfl) rfl ?_)
            refine call_ Tryz.func81 rfl rfl hx rfl (by repeat (first | exact .refl _ | apply Les.cons | exact .nil)) rfl ?_
            repeat (first | refine nil_ ?_ | refine stepY (y_assign rfl) rfl ?_)
            refine ⟨k + 1, ⟨by omega, ?_⟩, by omega, ?_, ?_⟩
            · simp only [okD, hok, Bool.true_and, Bool.and_eq_true, decide_eq_true_eq]; exact hdig
            · show ∀ i x, _
              (repeat (first | exact sub_nil | refine sub_cons rfl ?_))
            · (repeat (first | exact subH_nil | refine subH_cons rfl ?_))
          · have hbad : ¬ okD (s) (s).size = true := fun h => hdig (okD_at hlt h)
            rw [if_neg hbad]
            have hc : 0 ≤ ((Utf8.decode (s) k).1 : Int) ∧ ((Utf8.decode (s) k).1 : Int) ≤ 2097152 ∧ ¬ (48 ≤ ((Utf8.decode (s) k).1 : Int) ∧ ((Utf8.decode (s) k).1 : Int) ≤ 57) := by
              by_cases h128 : bt (s) k < 128
              · rw [(dec_lo hlt h128).1]; omega
              · have := dec_hi hlt (by omega); omega
            obtain ⟨dd, hdf⟩ := digit_f _ ⟨hc.1, hc.2.1⟩ hc.2.2
            repeat (first | refine seq_ ?_ | refine region_ ?_ | refine nil_ ?_ | refine skip_ ?_ | refine block_ ?_ | refine cond_t rfl ?_ | refine stepY (y_move rfl) rfl ?_ | refine stepY (y_assign rfl) rfl ?_ | refine stepY (y_extract rfl rfl) rfl ?_ | refine stepE (e_next_in rfl rfl (by omega) rfl) ?_)
            refine call_ Tryz.func80 rfl rfl hdf rfl (by repeat (first | exact .refl _ | apply Les.cons | exact .nil)) rfl ?_
            repeat (first | refine seq_ ?_ | refine region_ ?_ | refine nil_ ?_ | refine ret_ ?_ | refine cond_t rfl ?_ | refine stepY (y_move rfl) rfl ?_ | refine stepY (y_assign rfl) rfl ?_ | refine stepY (y_extract rfl rfl) rfl ?_ | refine stepY (y_not rfl) rfl ?_ | refine stepY (y_build rfl rfl rfl) rfl ?_ | refine stepE (e_store rfl rfl rfl rfl rfl rfl rfl) ?_)
            ((apply fin_r); (repeat (first | exact .nil | exact .tmp rfl | exact .agg rfl rfl rfl | apply ResL.cons)); (repeat (first | exact .refl _ | exact .nil _ _ | apply Le.ag | apply Le.tp | apply Les.cons | exact .nil)))
        · obtain rfl : k = (s).size := by omega
          rw [if_pos hok]
          have hmd := made_c false (limbs (nm (s) (s).size)) (wf_limbs _) (by rw [limbs_length]; omega)
          rw [val_limbs] at hmd
          repeat (first | refine seq_ ?_ | refine region_ ?_ | refine nil_ ?_ | refine exit_ ?_ | refine cond_f rfl ?_ | refine stepY (y_move rfl) rfl ?_ | refine stepY (y_extract rfl rfl) rfl ?_ | refine stepY (e_next_end (d := 0) (N := 1) rfl rfl (by omega) rfl) rfl ?_)
          refine call_ Tryz.func71 rfl rfl hmd rfl (by repeat (first | exact .refl _ | apply Les.cons | exact .nil)) rfl ?_
          repeat (first | refine nil_ ?_ | refine ret_ ?_ | refine stepY (y_assign rfl) rfl ?_ | refine stepE (e_store rfl rfl rfl rfl rfl rfl rfl) ?_)
          ((apply fin_r); (repeat (first | exact .nil | exact .tmp rfl | exact .agg rfl rfl rfl | apply ResL.cons)); (repeat (exact .refl _)))
  · have hn : negS s = false := by simp [negS, hs]
    have ht : tS s = s := by simp [tS, hn]
    have hz : s.size = 0 := by omega
    have he : s = ⟨#[]⟩ := by
      apply ByteArray.ext
      apply Array.eq_empty_of_size_eq_zero
      exact hz
    have hde : decide (s = (⟨#[]⟩ : ByteArray)) = true := decide_eq_true he
    have hprt : prT false s = some none := by
      unfold prT
      rw [if_neg (by omega), if_pos (.inl hz)]
    rw [hn, ht, hprt]
    repeat (first | refine seq_ ?_ | refine region_ ?_ | refine nil_ ?_ | refine skip_ ?_ | refine cond_f rfl ?_ | refine guard_f rfl rfl rfl rfl ?_ | refine stepY (y_move rfl) rfl ?_ | refine stepY (y_assign rfl) rfl ?_ | refine stepY (y_len_str rfl) rfl ?_ | refine stepY (y_pick_f rfl rfl) rfl ?_ | refine stepY (y_eqs rfl rfl) rfl ?_ | refine stepY (y_cmpF rfl rfl rfl (by omega)) rfl ?_ | refine stepE (e_alloc rfl rfl rfl) ?_)
    rw [hde]
    repeat (first | refine seq_ ?_ | refine region_ ?_ | refine nil_ ?_ | refine ret_ ?_ | refine cond_t rfl ?_ | refine guard_f rfl rfl rfl rfl ?_ | refine guard_u rfl rfl rfl ?_ | refine stepY (y_assign rfl) rfl ?_ | refine stepY (y_pick_t rfl rfl) rfl ?_ | refine stepY (y_build rfl rfl rfl) rfl ?_ | refine stepE (e_store rfl rfl rfl rfl rfl rfl rfl) ?_)
    ((apply fin_r); (repeat (first | exact .nil | exact .tmp rfl | exact .agg rfl rfl rfl | apply ResL.cons)); (repeat (first | exact .refl _ | exact .nil _ _ | apply Le.ag | apply Le.tp | apply Les.cons | exact .nil)))
end Go.Av

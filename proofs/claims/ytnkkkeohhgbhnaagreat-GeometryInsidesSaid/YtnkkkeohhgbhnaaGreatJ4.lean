/- Contracts of functions that the laws on fractions reach, and the plain arithmetic behind them: no conditions beyond those in each statement. -/
import Derived.Test.YtnkkkeohhgbhnaaGreatJ3
import Derived.Test.YtnkkkeohhgbhnaaGreatJ1
import Derived.Test.YtnkkkeohhgbhnaaGreatJ2
set_option maxHeartbeats 8000000
set_option exponentiation.threshold 100000
set_option maxRecDepth 100000
set_option linter.unusedVariables false
set_option linter.unusedSimpArgs false
namespace Go.Av
open Go Go.Proofs
theorem vld_pos {p : Bool} {m : Nat} (h : vldB p (limbs m) = true) : p = true → 0 < m := by
  intro hp
  subst hp
  unfold vldB at h
  rw [Bool.and_eq_true, limbs_length] at h
  rcases Nat.eq_zero_or_pos m with h0 | h0
  · subst h0
    have h2 := h.2
    rw [if_pos ln_zero] at h2
    cases h2
  · exact h0
theorem ln_mul {m n : Nat} (hm : ln m ≤ 512) (hn : ln n ≤ 512) : ln (m * n) ≤ 1024 := by
  rw [ln_le] at *
  rcases Nat.eq_zero_or_pos n with h | h
  · subst h; exact Bp_pos _
  · have : m * n < B ^ 512 * B ^ 512 := Nat.mul_lt_mul_of_lt_of_le hm (Nat.le_of_lt hn) (Bp_pos _)
    rwa [← Nat.pow_add] at this
theorem sgn_mul (p q : Bool) (m n : Nat) : sgn (p != q) (m * n) = sgn p m * sgn q n := by
  cases p <;> cases q <;> simp [sgn, Int.neg_mul, Int.mul_neg]
theorem sgn_not (q : Bool) (n : Nat) : sgn (!q) n = - sgn q n := by cases q <;> simp [sgn]
/-- the order of two whole numbers -/
def icmp (x y : Int) : Int := if x < y then -1 else if y < x then 1 else 0

theorem Neg_s (p : Bool) (m : Nat) (hp : vldB p (limbs m) = true) : Con Tryz.prog 64 [SV p m] (FIV (- sgn p m)) := by
  refine con_of Tryz.func64 rfl rfl rfl rfl rfl ?_
  have hv1 := Valid_c p (limbs m)
  rw [hp] at hv1
  have hm := made_c (!p) (limbs m) (wf_limbs _) (by rw [limbs_length]; have := vld_ln hp; omega)
  rw [val_limbs, sgn_not] at hm
  repeat (first | refine seq_ ?_ | refine region_ ?_ | refine nil_ ?_ | refine stepY (y_loadA rfl rfl rfl) rfl ?_ | refine stepE (e_box rfl rfl rfl rfl rfl rfl) ?_ | refine stepE (e_alloc rfl rfl rfl) ?_)
  refine call_ Tryz.func48 rfl rfl hv1 rfl (by repeat (first | exact .refl _ | apply Les.cons | exact .nil)) rfl ?_
  repeat (first | refine seq_ ?_ | refine region_ ?_ | refine nil_ ?_ | refine skip_ ?_ | refine cond_f rfl ?_ | refine stepY (y_load1 rfl rfl rfl) rfl ?_ | refine stepY (y_fieldAddr rfl) rfl ?_ | refine stepY (y_not rfl) rfl ?_)
  refine call_ Tryz.func62 rfl rfl hm rfl (by repeat (first | exact .refl _ | apply Les.cons | exact .nil)) rfl ?_
  repeat (first | refine nil_ ?_ | refine ret_ ?_ | refine stepE (e_store rfl rfl rfl rfl rfl rfl rfl) ?_)
  ((apply fin_r); (repeat (first | exact .nil | exact .agg rfl rfl rfl | apply ResL.cons)); (repeat (exact .refl _)))
theorem RNeg_s (p : Bool) (m : Nat) (hp : vldB p (limbs m) = true) : Con Tryz.prog 71 [SV p m] (FIV (- sgn p m)) := by
  refine con_of Tryz.func71 rfl rfl rfl rfl rfl ?_
  have hv1 := RValid_c p (limbs m)
  rw [hp] at hv1
  have hm := signed_c (!p) (limbs m) (wf_limbs _) (by rw [limbs_length]; have := vld_ln hp; omega)
  rw [val_limbs, sgn_not] at hm
  repeat (first | refine seq_ ?_ | refine region_ ?_ | refine nil_ ?_ | refine stepY (y_loadA rfl rfl rfl) rfl ?_ | refine stepE (e_box rfl rfl rfl rfl rfl rfl) ?_ | refine stepE (e_alloc rfl rfl rfl) ?_)
  refine call_ Tryz.func53 rfl rfl hv1 rfl (by repeat (first | exact .refl _ | apply Les.cons | exact .nil)) rfl ?_
  repeat (first | refine seq_ ?_ | refine region_ ?_ | refine nil_ ?_ | refine skip_ ?_ | refine cond_f rfl ?_ | refine stepY (y_load1 rfl rfl rfl) rfl ?_ | refine stepY (y_fieldAddr rfl) rfl ?_ | refine stepY (y_not rfl) rfl ?_)
  refine call_ Tryz.func56 rfl rfl hm rfl (by repeat (first | exact .refl _ | apply Les.cons | exact .nil)) rfl ?_
  repeat (first | refine nil_ ?_ | refine ret_ ?_ | refine stepE (e_store rfl rfl rfl rfl rfl rfl rfl) ?_)
  ((apply fin_r); (repeat (first | exact .nil | exact .agg rfl rfl rfl | apply ResL.cons)); (repeat (exact .refl _)))
theorem Sub_s (p q : Bool) (m n : Nat) (hp : vldB p (limbs m) = true) (hq : vldB q (limbs n) = true) : Con Tryz.prog 47 [SV p m, SV q n] (resI (sgn p m - sgn q n)) := by
  refine con_of Tryz.func47 rfl rfl rfl rfl rfl ?_
  have hv1 := Valid_c p (limbs m)
  have hv2 := Valid_c q (limbs n)
  rw [hp] at hv1
  rw [hq] at hv2
  have hn : ln (- sgn q n).natAbs ≤ 512 := by rw [Int.natAbs_neg, sgn_abs]; exact vld_ln hq
  have ha := added_c p (decide (- sgn q n < 0)) m (- sgn q n).natAbs (vld_ln hp) hn
  have hr := result_c (addN p (decide (- sgn q n < 0)) m (- sgn q n).natAbs) (addL p (decide (- sgn q n < 0)) m (- sgn q n).natAbs) (add_wf _ _ _ _) (by have := add_len (p := p) (q := decide (- sgn q n < 0)) (vld_ln hp) hn; omega)
  rw [add_val, sgn_self] at hr
  have e : sgn p m - sgn q n = sgn p m + - sgn q n := by omega
  rw [e]
  generalize hz : sgn p m + - sgn q n = z at *
  by_cases h : ln z.natAbs ≤ 512
  · rw [resI_ok h] at *
    repeat (first | refine seq_ ?_ | refine region_ ?_ | refine nil_ ?_ | refine stepY (y_assign rfl) rfl ?_ | refine stepY (y_loadA rfl rfl rfl) rfl ?_ | refine stepE (e_box rfl rfl rfl rfl rfl rfl) ?_ | refine stepE (e_alloc rfl rfl rfl) ?_)
    refine call_ Tryz.func48 rfl rfl hv1 rfl (by repeat (first | exact .refl _ | apply Les.cons | exact .nil)) rfl ?_
    repeat (first | refine guard_t rfl rfl rfl ?_ | refine stepY (y_move rfl) rfl ?_ | refine stepY (y_loadA rfl rfl rfl) rfl ?_ | refine stepY (y_not rfl) rfl ?_)
    refine call_ Tryz.func48 rfl rfl hv2 rfl (by repeat (first | exact .refl _ | apply Les.cons | exact .nil)) rfl ?_
    repeat (first | refine seq_ ?_ | refine nil_ ?_ | refine skip_ ?_ | refine cond_f rfl ?_ | refine guard_t rfl rfl rfl ?_ | refine stepY (y_not rfl) rfl ?_ | refine stepY (y_pick_f rfl rfl) rfl ?_)
    refine draw_ [(0, true), (1, true), (2, false), (3, false), (4, true), (5, true), (6, false), (7, true), (8, true), (9, false), (10, true)] 1000 [2, 3] mixed (by kernel_rfl) rfl ?_
    ((refine dY rfl (y_loadA rfl rfl rfl) rfl rfl rfl rfl ?_); refine dY rfl (y_loadA rfl rfl rfl) rfl rfl rfl rfl ?_)
    refine dC rfl Tryz.func64 rfl rfl (Neg_s q n hq) rfl (by repeat (first | exact .refl _ | apply Les.cons | exact .nil)) rfl rfl ?_
    refine dC rfl Tryz.func63 rfl rfl ha rfl (by repeat (first | exact .refl _ | exact .tag _ _ | apply Le.ag | apply Les.cons | exact .nil)) rfl rfl ?_
    skip
    ((refine dY rfl (y_extract rfl rfl) rfl rfl rfl rfl ?_); refine dY rfl (y_extract rfl rfl) rfl rfl rfl rfl ?_)
    refine dC rfl Tryz.func60 rfl rfl hr rfl (by repeat (first | exact .refl _ | apply Les.cons | exact .nil)) rfl rfl ?_
    ((refine dY rfl (y_extract rfl rfl) rfl rfl rfl rfl ?_); refine dY rfl (y_extract rfl rfl) rfl rfl rfl rfl ?_; (refine dE rfl (e_store rfl rfl rfl rfl rfl rfl rfl) rfl rfl ?_); refine dY rfl (y_assign rfl) rfl rfl rfl rfl ?_; refine dEnd ?_)
    repeat (refine ret_ ?_)
    ((apply fin_r); (repeat (first | exact .nil | exact .tmp rfl | exact .agg rfl rfl rfl | apply ResL.cons)); (repeat (exact .refl _)))
  · rw [resI_no h] at *
    repeat (first | refine seq_ ?_ | refine region_ ?_ | refine nil_ ?_ | refine stepY (y_assign rfl) rfl ?_ | refine stepY (y_loadA rfl rfl rfl) rfl ?_ | refine stepE (e_box rfl rfl rfl rfl rfl rfl) ?_ | refine stepE (e_alloc rfl rfl rfl) ?_)
    refine call_ Tryz.func48 rfl rfl hv1 rfl (by repeat (first | exact .refl _ | apply Les.cons | exact .nil)) rfl ?_
    repeat (first | refine guard_t rfl rfl rfl ?_ | refine stepY (y_move rfl) rfl ?_ | refine stepY (y_loadA rfl rfl rfl) rfl ?_ | refine stepY (y_not rfl) rfl ?_)
    refine call_ Tryz.func48 rfl rfl hv2 rfl (by repeat (first | exact .refl _ | apply Les.cons | exact .nil)) rfl ?_
    repeat (first | refine seq_ ?_ | refine nil_ ?_ | refine skip_ ?_ | refine cond_f rfl ?_ | refine guard_t rfl rfl rfl ?_ | refine stepY (y_not rfl) rfl ?_ | refine stepY (y_pick_f rfl rfl) rfl ?_)
    refine draw_ [(0, true), (1, true), (2, false), (3, false), (4, true), (5, true), (6, false), (7, true), (8, true), (9, false), (10, true)] 1000 [2, 3] mixed (by kernel_rfl) rfl ?_
    ((refine dY rfl (y_loadA rfl rfl rfl) rfl rfl rfl rfl ?_); refine dY rfl (y_loadA rfl rfl rfl) rfl rfl rfl rfl ?_)
    refine dC rfl Tryz.func64 rfl rfl (Neg_s q n hq) rfl (by repeat (first | exact .refl _ | apply Les.cons | exact .nil)) rfl rfl ?_
    refine dC rfl Tryz.func63 rfl rfl ha rfl (by repeat (first | exact .refl _ | exact .tag _ _ | apply Le.ag | apply Les.cons | exact .nil)) rfl rfl ?_
    skip
    ((refine dY rfl (y_extract rfl rfl) rfl rfl rfl rfl ?_); refine dY rfl (y_extract rfl rfl) rfl rfl rfl rfl ?_)
    refine dC rfl Tryz.func60 rfl rfl hr rfl (by repeat (first | exact .refl _ | apply Les.cons | exact .nil)) rfl rfl ?_
    ((refine dY rfl (y_extract rfl rfl) rfl rfl rfl rfl ?_); refine dY rfl (y_extract rfl rfl) rfl rfl rfl rfl ?_; (refine dE rfl (e_store rfl rfl rfl rfl rfl rfl rfl) rfl rfl ?_); refine dY rfl (y_assign rfl) rfl rfl rfl rfl ?_; refine dEnd ?_)
    repeat (refine ret_ ?_)
    ((apply fin_r); (repeat (first | exact .nil | exact .tmp rfl | exact .agg rfl rfl rfl | apply ResL.cons)); (repeat (exact .refl _)))

theorem RAdd_s (p q : Bool) (m n : Nat) (hp : vldB p (limbs m) = true) (hq : vldB q (limbs n) = true) : Con Tryz.prog 70 [SV p m, SV q n] (resI (sgn p m + sgn q n)) := by
  refine con_of Tryz.func70 rfl rfl rfl rfl rfl ?_
  have hv1 := RValid_c p (limbs m)
  have hv2 := RValid_c q (limbs n)
  rw [hp] at hv1
  rw [hq] at hv2
  have hlm := vld_ln hp
  have hln := vld_ln hq
  cases p <;> cases q
  · have hpl := plus_c (limbs m) (limbs n) (wf_limbs _) (wf_limbs _) (by rw [limbs_length]; omega) (by rw [limbs_length]; omega)
    rw [val_limbs, val_limbs] at hpl
    have hr := limit_c false (limbs (m + n)) (wf_limbs _) (by rw [limbs_length]; have := ln_add hlm hln; omega)
    rw [val_limbs, show sgn false (m + n) = sgn false m + sgn false n by simp [sgn]; try omega] at hr
    generalize sgn false m + sgn false n = z at *
    by_cases h : ln z.natAbs ≤ 512
    · rw [resI_ok h] at *
      repeat (first | refine seq_ ?_ | refine region_ ?_ | refine nil_ ?_ | refine stepY (y_assign rfl) rfl ?_ | refine stepY (y_loadA rfl rfl rfl) rfl ?_ | refine stepE (e_box rfl rfl rfl rfl rfl rfl) ?_ | refine stepE (e_alloc rfl rfl rfl) ?_)
      refine call_ Tryz.func53 rfl rfl hv1 rfl (by repeat (first | exact .refl _ | apply Les.cons | exact .nil)) rfl ?_
      repeat (first | refine guard_t rfl rfl rfl ?_ | refine stepY (y_move rfl) rfl ?_ | refine stepY (y_loadA rfl rfl rfl) rfl ?_ | refine stepY (y_not rfl) rfl ?_)
      refine call_ Tryz.func53 rfl rfl hv2 rfl (by repeat (first | exact .refl _ | apply Les.cons | exact .nil)) rfl ?_
      repeat (first | refine seq_ ?_ | refine region_ ?_ | refine nil_ ?_ | refine skip_ ?_ | refine cond_t rfl ?_ | refine cond_f rfl ?_ | refine guard_t rfl rfl rfl ?_ | refine stepY (y_load1 rfl rfl rfl) rfl ?_ | refine stepY (y_fieldAddr rfl) rfl ?_ | refine stepY (y_not rfl) rfl ?_ | refine stepY (y_pick_f rfl rfl) rfl ?_ | refine stepY (y_eqb rfl rfl) rfl ?_)
      refine draw_ [(0, true), (1, true), (2, true), (3, true), (4, true), (5, true), (6, false), (7, false), (8, true), (9, true), (10, false), (11, true)] 1000 [2, 3] mixed (by kernel_rfl) rfl ?_
      ((refine dY rfl (y_fieldAddr rfl) rfl rfl rfl rfl ?_); refine dY rfl (y_load1 rfl rfl rfl) rfl rfl rfl rfl ?_; refine dY rfl (y_fieldAddr rfl) rfl rfl rfl rfl ?_; refine dY rfl (y_load1 rfl rfl rfl) rfl rfl rfl rfl ?_; refine dY rfl (y_fieldAddr rfl) rfl rfl rfl rfl ?_; refine dY rfl (y_load1 rfl rfl rfl) rfl rfl rfl rfl ?_)
      refine dC rfl Tryz.func88 rfl rfl hpl rfl (by repeat (first | exact .refl _ | apply Les.cons | exact .nil)) rfl rfl ?_
      refine dC rfl Tryz.func68 rfl rfl hr rfl (by repeat (first | exact .refl _ | exact .tag _ _ | apply Les.cons | exact .nil)) rfl rfl ?_
      skip
      ((refine dY rfl (y_extract rfl rfl) rfl rfl rfl rfl ?_); refine dY rfl (y_extract rfl rfl) rfl rfl rfl rfl ?_; (refine dE rfl (e_store rfl rfl rfl rfl rfl rfl rfl) rfl rfl ?_); refine dY rfl (y_assign rfl) rfl rfl rfl rfl ?_; refine dEnd ?_)
      repeat (refine ret_ ?_)
      ((apply fin_r); (repeat (first | exact .nil | exact .tmp rfl | exact .agg rfl rfl rfl | apply ResL.cons)); (repeat (exact .refl _)))
    · rw [resI_no h] at *
      repeat (first | refine seq_ ?_ | refine region_ ?_ | refine nil_ ?_ | refine stepY (y_assign rfl) rfl ?_ | refine stepY (y_loadA rfl rfl rfl) rfl ?_ | refine stepE (e_box rfl rfl rfl rfl rfl rfl) ?_ | refine stepE (e_alloc rfl rfl rfl) ?_)
      refine call_ Tryz.func53 rfl rfl hv1 rfl (by repeat (first | exact .refl _ | apply Les.cons | exact .nil)) rfl ?_
      repeat (first | refine guard_t rfl rfl rfl ?_ | refine stepY (y_move rfl) rfl ?_ | refine stepY (y_loadA rfl rfl rfl) rfl ?_ | refine stepY (y_not rfl) rfl ?_)
      refine call_ Tryz.func53 rfl rfl hv2 rfl (by repeat (first | exact .refl _ | apply Les.cons | exact .nil)) rfl ?_
      repeat (first | refine seq_ ?_ | refine region_ ?_ | refine nil_ ?_ | refine skip_ ?_ | refine cond_t rfl ?_ | refine cond_f rfl ?_ | refine guard_t rfl rfl rfl ?_ | refine stepY (y_load1 rfl rfl rfl) rfl ?_ | refine stepY (y_fieldAddr rfl) rfl ?_ | refine stepY (y_not rfl) rfl ?_ | refine stepY (y_pick_f rfl rfl) rfl ?_ | refine stepY (y_eqb rfl rfl) rfl ?_)
      refine draw_ [(0, true), (1, true), (2, true), (3, true), (4, true), (5, true), (6, false), (7, false), (8, true), (9, true), (10, false), (11, true)] 1000 [2, 3] mixed (by kernel_rfl) rfl ?_
      ((refine dY rfl (y_fieldAddr rfl) rfl rfl rfl rfl ?_); refine dY rfl (y_load1 rfl rfl rfl) rfl rfl rfl rfl ?_; refine dY rfl (y_fieldAddr rfl) rfl rfl rfl rfl ?_; refine dY rfl (y_load1 rfl rfl rfl) rfl rfl rfl rfl ?_; refine dY rfl (y_fieldAddr rfl) rfl rfl rfl rfl ?_; refine dY rfl (y_load1 rfl rfl rfl) rfl rfl rfl rfl ?_)
      refine dC rfl Tryz.func88 rfl rfl hpl rfl (by repeat (first | exact .refl _ | apply Les.cons | exact .nil)) rfl rfl ?_
      refine dC rfl Tryz.func68 rfl rfl hr rfl (by repeat (first | exact .refl _ | exact .tag _ _ | apply Les.cons | exact .nil)) rfl rfl ?_
      skip
      ((refine dY rfl (y_extract rfl rfl) rfl rfl rfl rfl ?_); refine dY rfl (y_extract rfl rfl) rfl rfl rfl rfl ?_; (refine dE rfl (e_store rfl rfl rfl rfl rfl rfl rfl) rfl rfl ?_); refine dY rfl (y_assign rfl) rfl rfl rfl rfl ?_; refine dEnd ?_)
      repeat (refine ret_ ?_)
      ((apply fin_r); (repeat (first | exact .nil | exact .tmp rfl | exact .agg rfl rfl rfl | apply ResL.cons)); (repeat (exact .refl _)))
  · have ho := order_c (limbs m) (limbs n) (wf_limbs _) (wf_limbs _) (by rw [limbs_length]; omega) (by rw [limbs_length]; omega)
    rw [val_limbs, val_limbs] at ho
    by_cases h1 : n ≤ m
    · have hs : 0 ≤ sg m n := by unfold sg; rw [if_neg (by omega)]; split <;> omega
      have hd := minus_c (limbs m) (limbs n) (wf_limbs _) (wf_limbs _) (by rw [limbs_length]; omega) (by rw [val_limbs, val_limbs]; exact h1)
      rw [val_limbs, val_limbs] at hd
      have hr := limit_c false (limbs (m - n)) (wf_limbs _) (by rw [limbs_length]; have := ln_mono (Nat.sub_le m n); omega)
      rw [val_limbs, show sgn false (m - n) = sgn false m + sgn true n by simp [sgn]; try omega] at hr
      generalize sgn false m + sgn true n = z at *
      by_cases h : ln z.natAbs ≤ 512
      · rw [resI_ok h] at *
        repeat (first | refine seq_ ?_ | refine region_ ?_ | refine nil_ ?_ | refine stepY (y_assign rfl) rfl ?_ | refine stepY (y_loadA rfl rfl rfl) rfl ?_ | refine stepE (e_box rfl rfl rfl rfl rfl rfl) ?_ | refine stepE (e_alloc rfl rfl rfl) ?_)
        refine call_ Tryz.func53 rfl rfl hv1 rfl (by repeat (first | exact .refl _ | apply Les.cons | exact .nil)) rfl ?_
        repeat (first | refine guard_t rfl rfl rfl ?_ | refine stepY (y_move rfl) rfl ?_ | refine stepY (y_loadA rfl rfl rfl) rfl ?_ | refine stepY (y_not rfl) rfl ?_)
        refine call_ Tryz.func53 rfl rfl hv2 rfl (by repeat (first | exact .refl _ | apply Les.cons | exact .nil)) rfl ?_
        repeat (first | refine seq_ ?_ | refine region_ ?_ | refine nil_ ?_ | refine skip_ ?_ | refine cond_f rfl ?_ | refine guard_t rfl rfl rfl ?_ | refine stepY (y_load1 rfl rfl rfl) rfl ?_ | refine stepY (y_fieldAddr rfl) rfl ?_ | refine stepY (y_not rfl) rfl ?_ | refine stepY (y_pick_f rfl rfl) rfl ?_ | refine stepY (y_eqb rfl rfl) rfl ?_)
        refine call_ Tryz.func89 rfl rfl ho rfl (by repeat (first | exact .refl _ | apply Les.cons | exact .nil)) rfl ?_
        repeat (first | refine seq_ ?_ | refine nil_ ?_ | refine cond_t rfl ?_ | refine stepY (y_cmpT rfl rfl rfl (by omega)) rfl ?_)
        refine draw_ [(0, true), (1, true), (2, true), (3, true), (4, true), (5, true), (6, false), (7, false), (8, true), (9, true), (10, false), (11, true)] 1000 [2, 3] mixed (by kernel_rfl) rfl ?_
        ((refine dY rfl (y_fieldAddr rfl) rfl rfl rfl rfl ?_); refine dY rfl (y_load1 rfl rfl rfl) rfl rfl rfl rfl ?_; refine dY rfl (y_fieldAddr rfl) rfl rfl rfl rfl ?_; refine dY rfl (y_load1 rfl rfl rfl) rfl rfl rfl rfl ?_; refine dY rfl (y_fieldAddr rfl) rfl rfl rfl rfl ?_; refine dY rfl (y_load1 rfl rfl rfl) rfl rfl rfl rfl ?_)
        refine dC rfl Tryz.func90 rfl rfl hd rfl (by repeat (first | exact .refl _ | apply Les.cons | exact .nil)) rfl rfl ?_
        refine dC rfl Tryz.func68 rfl rfl hr rfl (by repeat (first | exact .refl _ | exact .tag _ _ | apply Les.cons | exact .nil)) rfl rfl ?_
        skip
        ((refine dY rfl (y_extract rfl rfl) rfl rfl rfl rfl ?_); refine dY rfl (y_extract rfl rfl) rfl rfl rfl rfl ?_; (refine dE rfl (e_store rfl rfl rfl rfl rfl rfl rfl) rfl rfl ?_); refine dY rfl (y_assign rfl) rfl rfl rfl rfl ?_; refine dEnd ?_)
        repeat (refine ret_ ?_)
        ((apply fin_r); (repeat (first | exact .nil | exact .tmp rfl | exact .agg rfl rfl rfl | apply ResL.cons)); (repeat (exact .refl _)))
      · rw [resI_no h] at *
        repeat (first | refine seq_ ?_ | refine region_ ?_ | refine nil_ ?_ | refine stepY (y_assign rfl) rfl ?_ | refine stepY (y_loadA rfl rfl rfl) rfl ?_ | refine stepE (e_box rfl rfl rfl rfl rfl rfl) ?_ | refine stepE (e_alloc rfl rfl rfl) ?_)
        refine call_ Tryz.func53 rfl rfl hv1 rfl (by repeat (first | exact .refl _ | apply Les.cons | exact .nil)) rfl ?_
        repeat (first | refine guard_t rfl rfl rfl ?_ | refine stepY (y_move rfl) rfl ?_ | refine stepY (y_loadA rfl rfl rfl) rfl ?_ | refine stepY (y_not rfl) rfl ?_)
        refine call_ Tryz.func53 rfl rfl hv2 rfl (by repeat (first | exact .refl _ | apply Les.cons | exact .nil)) rfl ?_
        repeat (first | refine seq_ ?_ | refine region_ ?_ | refine nil_ ?_ | refine skip_ ?_ | refine cond_f rfl ?_ | refine guard_t rfl rfl rfl ?_ | refine stepY (y_load1 rfl rfl rfl) rfl ?_ | refine stepY (y_fieldAddr rfl) rfl ?_ | refine stepY (y_not rfl) rfl ?_ | refine stepY (y_pick_f rfl rfl) rfl ?_ | refine stepY (y_eqb rfl rfl) rfl ?_)
        refine call_ Tryz.func89 rfl rfl ho rfl (by repeat (first | exact .refl _ | apply Les.cons | exact .nil)) rfl ?_
        repeat (first | refine seq_ ?_ | refine nil_ ?_ | refine cond_t rfl ?_ | refine stepY (y_cmpT rfl rfl rfl (by omega)) rfl ?_)
        refine draw_ [(0, true), (1, true), (2, true), (3, true), (4, true), (5, true), (6, false), (7, false), (8, true), (9, true), (10, false), (11, true)] 1000 [2, 3] mixed (by kernel_rfl) rfl ?_
        ((refine dY rfl (y_fieldAddr rfl) rfl rfl rfl rfl ?_); refine dY rfl (y_load1 rfl rfl rfl) rfl rfl rfl rfl ?_; refine dY rfl (y_fieldAddr rfl) rfl rfl rfl rfl ?_; refine dY rfl (y_load1 rfl rfl rfl) rfl rfl rfl rfl ?_; refine dY rfl (y_fieldAddr rfl) rfl rfl rfl rfl ?_; refine dY rfl (y_load1 rfl rfl rfl) rfl rfl rfl rfl ?_)
        refine dC rfl Tryz.func90 rfl rfl hd rfl (by repeat (first | exact .refl _ | apply Les.cons | exact .nil)) rfl rfl ?_
        refine dC rfl Tryz.func68 rfl rfl hr rfl (by repeat (first | exact .refl _ | exact .tag _ _ | apply Les.cons | exact .nil)) rfl rfl ?_
        skip
        ((refine dY rfl (y_extract rfl rfl) rfl rfl rfl rfl ?_); refine dY rfl (y_extract rfl rfl) rfl rfl rfl rfl ?_; (refine dE rfl (e_store rfl rfl rfl rfl rfl rfl rfl) rfl rfl ?_); refine dY rfl (y_assign rfl) rfl rfl rfl rfl ?_; refine dEnd ?_)
        repeat (refine ret_ ?_)
        ((apply fin_r); (repeat (first | exact .nil | exact .tmp rfl | exact .agg rfl rfl rfl | apply ResL.cons)); (repeat (exact .refl _)))
    · have hs : sg m n = -1 := sg_lt (by omega)
      have hd := minus_c (limbs n) (limbs m) (wf_limbs _) (wf_limbs _) (by rw [limbs_length]; omega) (by rw [val_limbs, val_limbs]; omega)
      rw [val_limbs, val_limbs] at hd
      have hr := limit_c true (limbs (n - m)) (wf_limbs _) (by rw [limbs_length]; have := ln_mono (Nat.sub_le n m); omega)
      rw [val_limbs, show sgn true (n - m) = sgn false m + sgn true n by simp [sgn]; try omega] at hr
      generalize sgn false m + sgn true n = z at *
      by_cases h : ln z.natAbs ≤ 512
      · rw [resI_ok h] at *
        repeat (first | refine seq_ ?_ | refine region_ ?_ | refine nil_ ?_ | refine stepY (y_assign rfl) rfl ?_ | refine stepY (y_loadA rfl rfl rfl) rfl ?_ | refine stepE (e_box rfl rfl rfl rfl rfl rfl) ?_ | refine stepE (e_alloc rfl rfl rfl) ?_)
        refine call_ Tryz.func53 rfl rfl hv1 rfl (by repeat (first | exact .refl _ | apply Les.cons | exact .nil)) rfl ?_
        repeat (first | refine guard_t rfl rfl rfl ?_ | refine stepY (y_move rfl) rfl ?_ | refine stepY (y_loadA rfl rfl rfl) rfl ?_ | refine stepY (y_not rfl) rfl ?_)
        refine call_ Tryz.func53 rfl rfl hv2 rfl (by repeat (first | exact .refl _ | apply Les.cons | exact .nil)) rfl ?_
        repeat (first | refine seq_ ?_ | refine region_ ?_ | refine nil_ ?_ | refine skip_ ?_ | refine cond_f rfl ?_ | refine guard_t rfl rfl rfl ?_ | refine stepY (y_load1 rfl rfl rfl) rfl ?_ | refine stepY (y_fieldAddr rfl) rfl ?_ | refine stepY (y_not rfl) rfl ?_ | refine stepY (y_pick_f rfl rfl) rfl ?_ | refine stepY (y_eqb rfl rfl) rfl ?_)
        refine call_ Tryz.func89 rfl rfl ho rfl (by repeat (first | exact .refl _ | apply Les.cons | exact .nil)) rfl ?_
        repeat (first | refine seq_ ?_ | refine nil_ ?_ | refine skip_ ?_ | refine cond_f rfl ?_ | refine stepY (y_cmpF rfl rfl rfl (by omega)) rfl ?_)
        refine draw_ [(0, true), (1, true), (2, true), (3, true), (4, true), (5, true), (6, false), (7, false), (8, true), (9, true), (10, false), (11, true)] 1000 [2, 3] mixed (by kernel_rfl) rfl ?_
        ((refine dY rfl (y_fieldAddr rfl) rfl rfl rfl rfl ?_); refine dY rfl (y_load1 rfl rfl rfl) rfl rfl rfl rfl ?_; refine dY rfl (y_fieldAddr rfl) rfl rfl rfl rfl ?_; refine dY rfl (y_load1 rfl rfl rfl) rfl rfl rfl rfl ?_; refine dY rfl (y_fieldAddr rfl) rfl rfl rfl rfl ?_; refine dY rfl (y_load1 rfl rfl rfl) rfl rfl rfl rfl ?_)
        refine dC rfl Tryz.func90 rfl rfl hd rfl (by repeat (first | exact .refl _ | apply Les.cons | exact .nil)) rfl rfl ?_
        refine dC rfl Tryz.func68 rfl rfl hr rfl (by repeat (first | exact .refl _ | exact .tag _ _ | apply Les.cons | exact .nil)) rfl rfl ?_
        skip
        ((refine dY rfl (y_extract rfl rfl) rfl rfl rfl rfl ?_); refine dY rfl (y_extract rfl rfl) rfl rfl rfl rfl ?_; (refine dE rfl (e_store rfl rfl rfl rfl rfl rfl rfl) rfl rfl ?_); refine dY rfl (y_assign rfl) rfl rfl rfl rfl ?_; refine dEnd ?_)
        repeat (refine ret_ ?_)
        ((apply fin_r); (repeat (first | exact .nil | exact .tmp rfl | exact .agg rfl rfl rfl | apply ResL.cons)); (repeat (exact .refl _)))
      · rw [resI_no h] at *
        repeat (first | refine seq_ ?_ | refine region_ ?_ | refine nil_ ?_ | refine stepY (y_assign rfl) rfl ?_ | refine stepY (y_loadA rfl rfl rfl) rfl ?_ | refine stepE (e_box rfl rfl rfl rfl rfl rfl) ?_ | refine stepE (e_alloc rfl rfl rfl) ?_)
        refine call_ Tryz.func53 rfl rfl hv1 rfl (by repeat (first | exact .refl _ | apply Les.cons | exact .nil)) rfl ?_
        repeat (first | refine guard_t rfl rfl rfl ?_ | refine stepY (y_move rfl) rfl ?_ | refine stepY (y_loadA rfl rfl rfl) rfl ?_ | refine stepY (y_not rfl) rfl ?_)
        refine call_ Tryz.func53 rfl rfl hv2 rfl (by repeat (first | exact .refl _ | apply Les.cons | exact .nil)) rfl ?_
        repeat (first | refine seq_ ?_ | refine region_ ?_ | refine nil_ ?_ | refine skip_ ?_ | refine cond_f rfl ?_ | refine guard_t rfl rfl rfl ?_ | refine stepY (y_load1 rfl rfl rfl) rfl ?_ | refine stepY (y_fieldAddr rfl) rfl ?_ | refine stepY (y_not rfl) rfl ?_ | refine stepY (y_pick_f rfl rfl) rfl ?_ | refine stepY (y_eqb rfl rfl) rfl ?_)
        refine call_ Tryz.func89 rfl rfl ho rfl (by repeat (first | exact .refl _ | apply Les.cons | exact .nil)) rfl ?_
        repeat (first | refine seq_ ?_ | refine nil_ ?_ | refine skip_ ?_ | refine cond_f rfl ?_ | refine stepY (y_cmpF rfl rfl rfl (by omega)) rfl ?_)
        refine draw_ [(0, true), (1, true), (2, true), (3, true), (4, true), (5, true), (6, false), (7, false), (8, true), (9, true), (10, false), (11, true)] 1000 [2, 3] mixed (by kernel_rfl) rfl ?_
        ((refine dY rfl (y_fieldAddr rfl) rfl rfl rfl rfl ?_); refine dY rfl (y_load1 rfl rfl rfl) rfl rfl rfl rfl ?_; refine dY rfl (y_fieldAddr rfl) rfl rfl rfl rfl ?_; refine dY rfl (y_load1 rfl rfl rfl) rfl rfl rfl rfl ?_; refine dY rfl (y_fieldAddr rfl) rfl rfl rfl rfl ?_; refine dY rfl (y_load1 rfl rfl rfl) rfl rfl rfl rfl ?_)
        refine dC rfl Tryz.func90 rfl rfl hd rfl (by repeat (first | exact .refl _ | apply Les.cons | exact .nil)) rfl rfl ?_
        refine dC rfl Tryz.func68 rfl rfl hr rfl (by repeat (first | exact .refl _ | exact .tag _ _ | apply Les.cons | exact .nil)) rfl rfl ?_
        skip
        ((refine dY rfl (y_extract rfl rfl) rfl rfl rfl rfl ?_); refine dY rfl (y_extract rfl rfl) rfl rfl rfl rfl ?_; (refine dE rfl (e_store rfl rfl rfl rfl rfl rfl rfl) rfl rfl ?_); refine dY rfl (y_assign rfl) rfl rfl rfl rfl ?_; refine dEnd ?_)
        repeat (refine ret_ ?_)
        ((apply fin_r); (repeat (first | exact .nil | exact .tmp rfl | exact .agg rfl rfl rfl | apply ResL.cons)); (repeat (exact .refl _)))
  · have ho := order_c (limbs m) (limbs n) (wf_limbs _) (wf_limbs _) (by rw [limbs_length]; omega) (by rw [limbs_length]; omega)
    rw [val_limbs, val_limbs] at ho
    by_cases h1 : n ≤ m
    · have hs : 0 ≤ sg m n := by unfold sg; rw [if_neg (by omega)]; split <;> omega
      have hd := minus_c (limbs m) (limbs n) (wf_limbs _) (wf_limbs _) (by rw [limbs_length]; omega) (by rw [val_limbs, val_limbs]; exact h1)
      rw [val_limbs, val_limbs] at hd
      have hr := limit_c true (limbs (m - n)) (wf_limbs _) (by rw [limbs_length]; have := ln_mono (Nat.sub_le m n); omega)
      rw [val_limbs, show sgn true (m - n) = sgn true m + sgn false n by simp [sgn]; try omega] at hr
      generalize sgn true m + sgn false n = z at *
      by_cases h : ln z.natAbs ≤ 512
      · rw [resI_ok h] at *
        repeat (first | refine seq_ ?_ | refine region_ ?_ | refine nil_ ?_ | refine stepY (y_assign rfl) rfl ?_ | refine stepY (y_loadA rfl rfl rfl) rfl ?_ | refine stepE (e_box rfl rfl rfl rfl rfl rfl) ?_ | refine stepE (e_alloc rfl rfl rfl) ?_)
        refine call_ Tryz.func53 rfl rfl hv1 rfl (by repeat (first | exact .refl _ | apply Les.cons | exact .nil)) rfl ?_
        repeat (first | refine guard_t rfl rfl rfl ?_ | refine stepY (y_move rfl) rfl ?_ | refine stepY (y_loadA rfl rfl rfl) rfl ?_ | refine stepY (y_not rfl) rfl ?_)
        refine call_ Tryz.func53 rfl rfl hv2 rfl (by repeat (first | exact .refl _ | apply Les.cons | exact .nil)) rfl ?_
        repeat (first | refine seq_ ?_ | refine region_ ?_ | refine nil_ ?_ | refine skip_ ?_ | refine cond_f rfl ?_ | refine guard_t rfl rfl rfl ?_ | refine stepY (y_load1 rfl rfl rfl) rfl ?_ | refine stepY (y_fieldAddr rfl) rfl ?_ | refine stepY (y_not rfl) rfl ?_ | refine stepY (y_pick_f rfl rfl) rfl ?_ | refine stepY (y_eqb rfl rfl) rfl ?_)
        refine call_ Tryz.func89 rfl rfl ho rfl (by repeat (first | exact .refl _ | apply Les.cons | exact .nil)) rfl ?_
        repeat (first | refine seq_ ?_ | refine nil_ ?_ | refine cond_t rfl ?_ | refine stepY (y_cmpT rfl rfl rfl (by omega)) rfl ?_)
        refine draw_ [(0, true), (1, true), (2, true), (3, true), (4, true), (5, true), (6, false), (7, false), (8, true), (9, true), (10, false), (11, true)] 1000 [2, 3] mixed (by kernel_rfl) rfl ?_
        ((refine dY rfl (y_fieldAddr rfl) rfl rfl rfl rfl ?_); refine dY rfl (y_load1 rfl rfl rfl) rfl rfl rfl rfl ?_; refine dY rfl (y_fieldAddr rfl) rfl rfl rfl rfl ?_; refine dY rfl (y_load1 rfl rfl rfl) rfl rfl rfl rfl ?_; refine dY rfl (y_fieldAddr rfl) rfl rfl rfl rfl ?_; refine dY rfl (y_load1 rfl rfl rfl) rfl rfl rfl rfl ?_)
        refine dC rfl Tryz.func90 rfl rfl hd rfl (by repeat (first | exact .refl _ | apply Les.cons | exact .nil)) rfl rfl ?_
        refine dC rfl Tryz.func68 rfl rfl hr rfl (by repeat (first | exact .refl _ | exact .tag _ _ | apply Les.cons | exact .nil)) rfl rfl ?_
        skip
        ((refine dY rfl (y_extract rfl rfl) rfl rfl rfl rfl ?_); refine dY rfl (y_extract rfl rfl) rfl rfl rfl rfl ?_; (refine dE rfl (e_store rfl rfl rfl rfl rfl rfl rfl) rfl rfl ?_); refine dY rfl (y_assign rfl) rfl rfl rfl rfl ?_; refine dEnd ?_)
        repeat (refine ret_ ?_)
        ((apply fin_r); (repeat (first | exact .nil | exact .tmp rfl | exact .agg rfl rfl rfl | apply ResL.cons)); (repeat (exact .refl _)))
      · rw [resI_no h] at *
        repeat (first | refine seq_ ?_ | refine region_ ?_ | refine nil_ ?_ | refine stepY (y_assign rfl) rfl ?_ | refine stepY (y_loadA rfl rfl rfl) rfl ?_ | refine stepE (e_box rfl rfl rfl rfl rfl rfl) ?_ | refine stepE (e_alloc rfl rfl rfl) ?_)
        refine call_ Tryz.func53 rfl rfl hv1 rfl (by repeat (first | exact .refl _ | apply Les.cons | exact .nil)) rfl ?_
        repeat (first | refine guard_t rfl rfl rfl ?_ | refine stepY (y_move rfl) rfl ?_ | refine stepY (y_loadA rfl rfl rfl) rfl ?_ | refine stepY (y_not rfl) rfl ?_)
        refine call_ Tryz.func53 rfl rfl hv2 rfl (by repeat (first | exact .refl _ | apply Les.cons | exact .nil)) rfl ?_
        repeat (first | refine seq_ ?_ | refine region_ ?_ | refine nil_ ?_ | refine skip_ ?_ | refine cond_f rfl ?_ | refine guard_t rfl rfl rfl ?_ | refine stepY (y_load1 rfl rfl rfl) rfl ?_ | refine stepY (y_fieldAddr rfl) rfl ?_ | refine stepY (y_not rfl) rfl ?_ | refine stepY (y_pick_f rfl rfl) rfl ?_ | refine stepY (y_eqb rfl rfl) rfl ?_)
        refine call_ Tryz.func89 rfl rfl ho rfl (by repeat (first | exact .refl _ | apply Les.cons | exact .nil)) rfl ?_
        repeat (first | refine seq_ ?_ | refine nil_ ?_ | refine cond_t rfl ?_ | refine stepY (y_cmpT rfl rfl rfl (by omega)) rfl ?_)
        refine draw_ [(0, true), (1, true), (2, true), (3, true), (4, true), (5, true), (6, false), (7, false), (8, true), (9, true), (10, false), (11, true)] 1000 [2, 3] mixed (by kernel_rfl) rfl ?_
        ((refine dY rfl (y_fieldAddr rfl) rfl rfl rfl rfl ?_); refine dY rfl (y_load1 rfl rfl rfl) rfl rfl rfl rfl ?_; refine dY rfl (y_fieldAddr rfl) rfl rfl rfl rfl ?_; refine dY rfl (y_load1 rfl rfl rfl) rfl rfl rfl rfl ?_; refine dY rfl (y_fieldAddr rfl) rfl rfl rfl rfl ?_; refine dY rfl (y_load1 rfl rfl rfl) rfl rfl rfl rfl ?_)
        refine dC rfl Tryz.func90 rfl rfl hd rfl (by repeat (first | exact .refl _ | apply Les.cons | exact .nil)) rfl rfl ?_
        refine dC rfl Tryz.func68 rfl rfl hr rfl (by repeat (first | exact .refl _ | exact .tag _ _ | apply Les.cons | exact .nil)) rfl rfl ?_
        skip
        ((refine dY rfl (y_extract rfl rfl) rfl rfl rfl rfl ?_); refine dY rfl (y_extract rfl rfl) rfl rfl rfl rfl ?_; (refine dE rfl (e_store rfl rfl rfl rfl rfl rfl rfl) rfl rfl ?_); refine dY rfl (y_assign rfl) rfl rfl rfl rfl ?_; refine dEnd ?_)
        repeat (refine ret_ ?_)
        ((apply fin_r); (repeat (first | exact .nil | exact .tmp rfl | exact .agg rfl rfl rfl | apply ResL.cons)); (repeat (exact .refl _)))
    · have hs : sg m n = -1 := sg_lt (by omega)
      have hd := minus_c (limbs n) (limbs m) (wf_limbs _) (wf_limbs _) (by rw [limbs_length]; omega) (by rw [val_limbs, val_limbs]; omega)
      rw [val_limbs, val_limbs] at hd
      have hr := limit_c false (limbs (n - m)) (wf_limbs _) (by rw [limbs_length]; have := ln_mono (Nat.sub_le n m); omega)
      rw [val_limbs, show sgn false (n - m) = sgn true m + sgn false n by simp [sgn]; try omega] at hr
      generalize sgn true m + sgn false n = z at *
      by_cases h : ln z.natAbs ≤ 512
      · rw [resI_ok h] at *
        repeat (first | refine seq_ ?_ | refine region_ ?_ | refine nil_ ?_ | refine stepY (y_assign rfl) rfl ?_ | refine stepY (y_loadA rfl rfl rfl) rfl ?_ | refine stepE (e_box rfl rfl rfl rfl rfl rfl) ?_ | refine stepE (e_alloc rfl rfl rfl) ?_)
        refine call_ Tryz.func53 rfl rfl hv1 rfl (by repeat (first | exact .refl _ | apply Les.cons | exact .nil)) rfl ?_
        repeat (first | refine guard_t rfl rfl rfl ?_ | refine stepY (y_move rfl) rfl ?_ | refine stepY (y_loadA rfl rfl rfl) rfl ?_ | refine stepY (y_not rfl) rfl ?_)
        refine call_ Tryz.func53 rfl rfl hv2 rfl (by repeat (first | exact .refl _ | apply Les.cons | exact .nil)) rfl ?_
        repeat (first | refine seq_ ?_ | refine region_ ?_ | refine nil_ ?_ | refine skip_ ?_ | refine cond_f rfl ?_ | refine guard_t rfl rfl rfl ?_ | refine stepY (y_load1 rfl rfl rfl) rfl ?_ | refine stepY (y_fieldAddr rfl) rfl ?_ | refine stepY (y_not rfl) rfl ?_ | refine stepY (y_pick_f rfl rfl) rfl ?_ | refine stepY (y_eqb rfl rfl) rfl ?_)
        refine call_ Tryz.func89 rfl rfl ho rfl (by repeat (first | exact .refl _ | apply Les.cons | exact .nil)) rfl ?_
        repeat (first | refine seq_ ?_ | refine nil_ ?_ | refine skip_ ?_ | refine cond_f rfl ?_ | refine stepY (y_cmpF rfl rfl rfl (by omega)) rfl ?_)
        refine draw_ [(0, true), (1, true), (2, true), (3, true), (4, true), (5, true), (6, false), (7, false), (8, true), (9, true), (10, false), (11, true)] 1000 [2, 3] mixed (by kernel_rfl) rfl ?_
        ((refine dY rfl (y_fieldAddr rfl) rfl rfl rfl rfl ?_); refine dY rfl (y_load1 rfl rfl rfl) rfl rfl rfl rfl ?_; refine dY rfl (y_fieldAddr rfl) rfl rfl rfl rfl ?_; refine dY rfl (y_load1 rfl rfl rfl) rfl rfl rfl rfl ?_; refine dY rfl (y_fieldAddr rfl) rfl rfl rfl rfl ?_; refine dY rfl (y_load1 rfl rfl rfl) rfl rfl rfl rfl ?_)
        refine dC rfl Tryz.func90 rfl rfl hd rfl (by repeat (first | exact .refl _ | apply Les.cons | exact .nil)) rfl rfl ?_
        refine dC rfl Tryz.func68 rfl rfl hr rfl (by repeat (first | exact .refl _ | exact .tag _ _ | apply Les.cons | exact .nil)) rfl rfl ?_
        skip
        ((refine dY rfl (y_extract rfl rfl) rfl rfl rfl rfl ?_); refine dY rfl (y_extract rfl rfl) rfl rfl rfl rfl ?_; (refine dE rfl (e_store rfl rfl rfl rfl rfl rfl rfl) rfl rfl ?_); refine dY rfl (y_assign rfl) rfl rfl rfl rfl ?_; refine dEnd ?_)
        repeat (refine ret_ ?_)
        ((apply fin_r); (repeat (first | exact .nil | exact .tmp rfl | exact .agg rfl rfl rfl | apply ResL.cons)); (repeat (exact .refl _)))
      · rw [resI_no h] at *
        repeat (first | refine seq_ ?_ | refine region_ ?_ | refine nil_ ?_ | refine stepY (y_assign rfl) rfl ?_ | refine stepY (y_loadA rfl rfl rfl) rfl ?_ | refine stepE (e_box rfl rfl rfl rfl rfl rfl) ?_ | refine stepE (e_alloc rfl rfl rfl) ?_)
        refine call_ Tryz.func53 rfl rfl hv1 rfl (by repeat (first | exact .refl _ | apply Les.cons | exact .nil)) rfl ?_
        repeat (first | refine guard_t rfl rfl rfl ?_ | refine stepY (y_move rfl) rfl ?_ | refine stepY (y_loadA rfl rfl rfl) rfl ?_ | refine stepY (y_not rfl) rfl ?_)
        refine call_ Tryz.func53 rfl rfl hv2 rfl (by repeat (first | exact .refl _ | apply Les.cons | exact .nil)) rfl ?_
        repeat (first | refine seq_ ?_ | refine region_ ?_ | refine nil_ ?_ | refine skip_ ?_ | refine cond_f rfl ?_ | refine guard_t rfl rfl rfl ?_ | refine stepY (y_load1 rfl rfl rfl) rfl ?_ | refine stepY (y_fieldAddr rfl) rfl ?_ | refine stepY (y_not rfl) rfl ?_ | refine stepY (y_pick_f rfl rfl) rfl ?_ | refine stepY (y_eqb rfl rfl) rfl ?_)
        refine call_ Tryz.func89 rfl rfl ho rfl (by repeat (first | exact .refl _ | apply Les.cons | exact .nil)) rfl ?_
        repeat (first | refine seq_ ?_ | refine nil_ ?_ | refine skip_ ?_ | refine cond_f rfl ?_ | refine stepY (y_cmpF rfl rfl rfl (by omega)) rfl ?_)
        refine draw_ [(0, true), (1, true), (2, true), (3, true), (4, true), (5, true), (6, false), (7, false), (8, true), (9, true), (10, false), (11, true)] 1000 [2, 3] mixed (by kernel_rfl) rfl ?_
        ((refine dY rfl (y_fieldAddr rfl) rfl rfl rfl rfl ?_); refine dY rfl (y_load1 rfl rfl rfl) rfl rfl rfl rfl ?_; refine dY rfl (y_fieldAddr rfl) rfl rfl rfl rfl ?_; refine dY rfl (y_load1 rfl rfl rfl) rfl rfl rfl rfl ?_; refine dY rfl (y_fieldAddr rfl) rfl rfl rfl rfl ?_; refine dY rfl (y_load1 rfl rfl rfl) rfl rfl rfl rfl ?_)
        refine dC rfl Tryz.func90 rfl rfl hd rfl (by repeat (first | exact .refl _ | apply Les.cons | exact .nil)) rfl rfl ?_
        refine dC rfl Tryz.func68 rfl rfl hr rfl (by repeat (first | exact .refl _ | exact .tag _ _ | apply Les.cons | exact .nil)) rfl rfl ?_
        skip
        ((refine dY rfl (y_extract rfl rfl) rfl rfl rfl rfl ?_); refine dY rfl (y_extract rfl rfl) rfl rfl rfl rfl ?_; (refine dE rfl (e_store rfl rfl rfl rfl rfl rfl rfl) rfl rfl ?_); refine dY rfl (y_assign rfl) rfl rfl rfl rfl ?_; refine dEnd ?_)
        repeat (refine ret_ ?_)
        ((apply fin_r); (repeat (first | exact .nil | exact .tmp rfl | exact .agg rfl rfl rfl | apply ResL.cons)); (repeat (exact .refl _)))
  · have hpl := plus_c (limbs m) (limbs n) (wf_limbs _) (wf_limbs _) (by rw [limbs_length]; omega) (by rw [limbs_length]; omega)
    rw [val_limbs, val_limbs] at hpl
    have hr := limit_c true (limbs (m + n)) (wf_limbs _) (by rw [limbs_length]; have := ln_add hlm hln; omega)
    rw [val_limbs, show sgn true (m + n) = sgn true m + sgn true n by simp [sgn]; try omega] at hr
    generalize sgn true m + sgn true n = z at *
    by_cases h : ln z.natAbs ≤ 512
    · rw [resI_ok h] at *
      repeat (first | refine seq_ ?_ | refine region_ ?_ | refine nil_ ?_ | refine stepY (y_assign rfl) rfl ?_ | refine stepY (y_loadA rfl rfl rfl) rfl ?_ | refine stepE (e_box rfl rfl rfl rfl rfl rfl) ?_ | refine stepE (e_alloc rfl rfl rfl) ?_)
      refine call_ Tryz.func53 rfl rfl hv1 rfl (by repeat (first | exact .refl _ | apply Les.cons | exact .nil)) rfl ?_
      repeat (first | refine guard_t rfl rfl rfl ?_ | refine stepY (y_move rfl) rfl ?_ | refine stepY (y_loadA rfl rfl rfl) rfl ?_ | refine stepY (y_not rfl) rfl ?_)
      refine call_ Tryz.func53 rfl rfl hv2 rfl (by repeat (first | exact .refl _ | apply Les.cons | exact .nil)) rfl ?_
      repeat (first | refine seq_ ?_ | refine region_ ?_ | refine nil_ ?_ | refine skip_ ?_ | refine cond_t rfl ?_ | refine cond_f rfl ?_ | refine guard_t rfl rfl rfl ?_ | refine stepY (y_load1 rfl rfl rfl) rfl ?_ | refine stepY (y_fieldAddr rfl) rfl ?_ | refine stepY (y_not rfl) rfl ?_ | refine stepY (y_pick_f rfl rfl) rfl ?_ | refine stepY (y_eqb rfl rfl) rfl ?_)
      refine draw_ [(0, true), (1, true), (2, true), (3, true), (4, true), (5, true), (6, false), (7, false), (8, true), (9, true), (10, false), (11, true)] 1000 [2, 3] mixed (by kernel_rfl) rfl ?_
      ((refine dY rfl (y_fieldAddr rfl) rfl rfl rfl rfl ?_); refine dY rfl (y_load1 rfl rfl rfl) rfl rfl rfl rfl ?_; refine dY rfl (y_fieldAddr rfl) rfl rfl rfl rfl ?_; refine dY rfl (y_load1 rfl rfl rfl) rfl rfl rfl rfl ?_; refine dY rfl (y_fieldAddr rfl) rfl rfl rfl rfl ?_; refine dY rfl (y_load1 rfl rfl rfl) rfl rfl rfl rfl ?_)
      refine dC rfl Tryz.func88 rfl rfl hpl rfl (by repeat (first | exact .refl _ | apply Les.cons | exact .nil)) rfl rfl ?_
      refine dC rfl Tryz.func68 rfl rfl hr rfl (by repeat (first | exact .refl _ | exact .tag _ _ | apply Les.cons | exact .nil)) rfl rfl ?_
      skip
      ((refine dY rfl (y_extract rfl rfl) rfl rfl rfl rfl ?_); refine dY rfl (y_extract rfl rfl) rfl rfl rfl rfl ?_; (refine dE rfl (e_store rfl rfl rfl rfl rfl rfl rfl) rfl rfl ?_); refine dY rfl (y_assign rfl) rfl rfl rfl rfl ?_; refine dEnd ?_)
      repeat (refine ret_ ?_)
      ((apply fin_r); (repeat (first | exact .nil | exact .tmp rfl | exact .agg rfl rfl rfl | apply ResL.cons)); (repeat (exact .refl _)))
    · rw [resI_no h] at *
      repeat (first | refine seq_ ?_ | refine region_ ?_ | refine nil_ ?_ | refine stepY (y_assign rfl) rfl ?_ | refine stepY (y_loadA rfl rfl rfl) rfl ?_ | refine stepE (e_box rfl rfl rfl rfl rfl rfl) ?_ | refine stepE (e_alloc rfl rfl rfl) ?_)
      refine call_ Tryz.func53 rfl rfl hv1 rfl (by repeat (first | exact .refl _ | apply Les.cons | exact .nil)) rfl ?_
      repeat (first | refine guard_t rfl rfl rfl ?_ | refine stepY (y_move rfl) rfl ?_ | refine stepY (y_loadA rfl rfl rfl) rfl ?_ | refine stepY (y_not rfl) rfl ?_)
      refine call_ Tryz.func53 rfl rfl hv2 rfl (by repeat (first | exact .refl _ | apply Les.cons | exact .nil)) rfl ?_
      repeat (first | refine seq_ ?_ | refine region_ ?_ | refine nil_ ?_ | refine skip_ ?_ | refine cond_t rfl ?_ | refine cond_f rfl ?_ | refine guard_t rfl rfl rfl ?_ | refine stepY (y_load1 rfl rfl rfl) rfl ?_ | refine stepY (y_fieldAddr rfl) rfl ?_ | refine stepY (y_not rfl) rfl ?_ | refine stepY (y_pick_f rfl rfl) rfl ?_ | refine stepY (y_eqb rfl rfl) rfl ?_)
      refine draw_ [(0, true), (1, true), (2, true), (3, true), (4, true), (5, true), (6, false), (7, false), (8, true), (9, true), (10, false), (11, true)] 1000 [2, 3] mixed (by kernel_rfl) rfl ?_
      ((refine dY rfl (y_fieldAddr rfl) rfl rfl rfl rfl ?_); refine dY rfl (y_load1 rfl rfl rfl) rfl rfl rfl rfl ?_; refine dY rfl (y_fieldAddr rfl) rfl rfl rfl rfl ?_; refine dY rfl (y_load1 rfl rfl rfl) rfl rfl rfl rfl ?_; refine dY rfl (y_fieldAddr rfl) rfl rfl rfl rfl ?_; refine dY rfl (y_load1 rfl rfl rfl) rfl rfl rfl rfl ?_)
      refine dC rfl Tryz.func88 rfl rfl hpl rfl (by repeat (first | exact .refl _ | apply Les.cons | exact .nil)) rfl rfl ?_
      refine dC rfl Tryz.func68 rfl rfl hr rfl (by repeat (first | exact .refl _ | exact .tag _ _ | apply Les.cons | exact .nil)) rfl rfl ?_
      skip
      ((refine dY rfl (y_extract rfl rfl) rfl rfl rfl rfl ?_); refine dY rfl (y_extract rfl rfl) rfl rfl rfl rfl ?_; (refine dE rfl (e_store rfl rfl rfl rfl rfl rfl rfl) rfl rfl ?_); refine dY rfl (y_assign rfl) rfl rfl rfl rfl ?_; refine dEnd ?_)
      repeat (refine ret_ ?_)
      ((apply fin_r); (repeat (first | exact .nil | exact .tmp rfl | exact .agg rfl rfl rfl | apply ResL.cons)); (repeat (exact .refl _)))

theorem RSub_s (p q : Bool) (m n : Nat) (hp : vldB p (limbs m) = true) (hq : vldB q (limbs n) = true) : Con Tryz.prog 52 [SV p m, SV q n] (resI (sgn p m - sgn q n)) := by
  refine con_of Tryz.func52 rfl rfl rfl rfl rfl ?_
  have hv1 := RValid_c p (limbs m)
  have hv2 := RValid_c q (limbs n)
  rw [hp] at hv1
  rw [hq] at hv2
  have hn : ln (- sgn q n).natAbs ≤ 512 := by rw [Int.natAbs_neg, sgn_abs]; exact vld_ln hq
  have ha := RAdd_s p (decide (- sgn q n < 0)) m (- sgn q n).natAbs hp (vld_iv hn)
  rw [sgn_self] at ha
  have e : sgn p m - sgn q n = sgn p m + - sgn q n := by omega
  rw [e]
  generalize hz : sgn p m + - sgn q n = z at *
  by_cases h : ln z.natAbs ≤ 512
  · rw [resI_ok h] at *
    repeat (first | refine seq_ ?_ | refine region_ ?_ | refine nil_ ?_ | refine stepY (y_assign rfl) rfl ?_ | refine stepY (y_loadA rfl rfl rfl) rfl ?_ | refine stepE (e_box rfl rfl rfl rfl rfl rfl) ?_ | refine stepE (e_alloc rfl rfl rfl) ?_)
    refine call_ Tryz.func53 rfl rfl hv2 rfl (by repeat (first | exact .refl _ | apply Les.cons | exact .nil)) rfl ?_
    repeat (first | refine seq_ ?_ | refine nil_ ?_ | refine skip_ ?_ | refine cond_f rfl ?_ | refine stepY (y_not rfl) rfl ?_)
    refine draw_ [(0, true), (1, true), (2, false), (3, false), (4, true), (5, true), (6, false), (7, true)] 1000 [2, 3] mixed (by kernel_rfl) rfl ?_
    ((refine dY rfl (y_loadA rfl rfl rfl) rfl rfl rfl rfl ?_); refine dY rfl (y_loadA rfl rfl rfl) rfl rfl rfl rfl ?_)
    refine dC rfl Tryz.func71 rfl rfl (RNeg_s q n hq) rfl (by repeat (first | exact .refl _ | apply Les.cons | exact .nil)) rfl rfl ?_
    refine dC rfl Tryz.func70 rfl rfl ha rfl (by repeat (first | exact .refl _ | exact .tag _ _ | apply Le.ag | apply Les.cons | exact .nil)) rfl rfl ?_
    skip
    ((refine dY rfl (y_extract rfl rfl) rfl rfl rfl rfl ?_); refine dY rfl (y_extract rfl rfl) rfl rfl rfl rfl ?_; (refine dE rfl (e_store rfl rfl rfl rfl rfl rfl rfl) rfl rfl ?_); refine dY rfl (y_assign rfl) rfl rfl rfl rfl ?_; refine dEnd ?_)
    repeat (refine ret_ ?_)
    ((apply fin_r); (repeat (first | exact .nil | exact .tmp rfl | exact .agg rfl rfl rfl | apply ResL.cons)); (repeat (exact .refl _)))
  · rw [resI_no h] at *
    repeat (first | refine seq_ ?_ | refine region_ ?_ | refine nil_ ?_ | refine stepY (y_assign rfl) rfl ?_ | refine stepY (y_loadA rfl rfl rfl) rfl ?_ | refine stepE (e_box rfl rfl rfl rfl rfl rfl) ?_ | refine stepE (e_alloc rfl rfl rfl) ?_)
    refine call_ Tryz.func53 rfl rfl hv2 rfl (by repeat (first | exact .refl _ | apply Les.cons | exact .nil)) rfl ?_
    repeat (first | refine seq_ ?_ | refine nil_ ?_ | refine skip_ ?_ | refine cond_f rfl ?_ | refine stepY (y_not rfl) rfl ?_)
    refine draw_ [(0, true), (1, true), (2, false), (3, false), (4, true), (5, true), (6, false), (7, true)] 1000 [2, 3] mixed (by kernel_rfl) rfl ?_
    ((refine dY rfl (y_loadA rfl rfl rfl) rfl rfl rfl rfl ?_); refine dY rfl (y_loadA rfl rfl rfl) rfl rfl rfl rfl ?_)
    refine dC rfl Tryz.func71 rfl rfl (RNeg_s q n hq) rfl (by repeat (first | exact .refl _ | apply Les.cons | exact .nil)) rfl rfl ?_
    refine dC rfl Tryz.func70 rfl rfl ha rfl (by repeat (first | exact .refl _ | exact .tag _ _ | apply Le.ag | apply Les.cons | exact .nil)) rfl rfl ?_
    skip
    ((refine dY rfl (y_extract rfl rfl) rfl rfl rfl rfl ?_); refine dY rfl (y_extract rfl rfl) rfl rfl rfl rfl ?_; (refine dE rfl (e_store rfl rfl rfl rfl rfl rfl rfl) rfl rfl ?_); refine dY rfl (y_assign rfl) rfl rfl rfl rfl ?_; refine dEnd ?_)
    repeat (refine ret_ ?_)
    ((apply fin_r); (repeat (first | exact .nil | exact .tmp rfl | exact .agg rfl rfl rfl | apply ResL.cons)); (repeat (exact .refl _)))
theorem RSub_e (p q : Bool) (l k : List Int) (hw : wf k) (h : (vldB p l && vldB q k) = false) : Con Tryz.prog 52 [AV p l, AV q k] (.tp [FIV 0, E_ 1]) := by
  refine con_of Tryz.func52 rfl rfl rfl rfl rfl ?_
  cases h1 : vldB q k with
  | false =>
    have hv := RValid_c q k
    rw [h1] at hv
    repeat (first | refine seq_ ?_ | refine region_ ?_ | refine nil_ ?_ | refine stepY (y_assign rfl) rfl ?_ | refine stepY (y_loadA rfl rfl rfl) rfl ?_ | refine stepE (e_box rfl rfl rfl rfl rfl rfl) ?_ | refine stepE (e_alloc rfl rfl rfl) ?_)
    refine call_ Tryz.func53 rfl rfl hv rfl (by repeat (first | exact .refl _ | apply Les.cons | exact .nil)) rfl ?_
    repeat (first | refine seq_ ?_ | refine region_ ?_ | refine nil_ ?_ | refine ret_ ?_ | refine cond_t rfl ?_ | refine stepY (y_assign rfl) rfl ?_ | refine stepY (y_not rfl) rfl ?_ | refine stepY (y_build rfl rfl rfl) rfl ?_ | refine stepE (e_store rfl rfl rfl rfl rfl rfl rfl) ?_)
    ((apply fin_r); (repeat (first | exact .nil | exact .tmp rfl | exact .agg rfl rfl rfl | apply ResL.cons)); (repeat (first | exact .refl _ | exact .nil _ _ | apply Le.ag | apply Le.tp | apply Les.cons | exact .nil)))
  | true =>
    have hv2 := RValid_c q k
    rw [h1] at hv2
    obtain ⟨e, hl⟩ := iv_vld hw h1
    rw [h1, Bool.and_true] at h
    generalize sgn q (val k) = z at *
    have hne := RNeg_s (decide (z < 0)) z.natAbs (vld_iv hl)
    rw [sgn_self] at hne
    have ha := RAdd_e p (decide (-z < 0)) l (limbs (-z).natAbs) (by rw [h]; rfl)
    rw [e] at hv2 ⊢
    repeat (first | refine seq_ ?_ | refine region_ ?_ | refine nil_ ?_ | refine stepY (y_assign rfl) rfl ?_ | refine stepY (y_loadA rfl rfl rfl) rfl ?_ | refine stepE (e_box rfl rfl rfl rfl rfl rfl) ?_ | refine stepE (e_alloc rfl rfl rfl) ?_)
    refine call_ Tryz.func53 rfl rfl hv2 rfl (by repeat (first | exact .refl _ | apply Les.cons | exact .nil)) rfl ?_
    repeat (first | refine seq_ ?_ | refine nil_ ?_ | refine skip_ ?_ | refine cond_f rfl ?_ | refine stepY (y_not rfl) rfl ?_)
    refine draw_ [(0, true), (1, true), (2, false), (3, false), (4, true), (5, true), (6, false), (7, true)] 1000 [2, 3] mixed (by kernel_rfl) rfl ?_
    ((refine dY rfl (y_loadA rfl rfl rfl) rfl rfl rfl rfl ?_); refine dY rfl (y_loadA rfl rfl rfl) rfl rfl rfl rfl ?_)
    refine dC rfl Tryz.func71 rfl rfl hne rfl (by repeat (first | exact .refl _ | apply Les.cons | exact .nil)) rfl rfl ?_
    refine dC rfl Tryz.func70 rfl rfl ha rfl (by repeat (first | exact .refl _ | exact .tag _ _ | apply Le.ag | apply Les.cons | exact .nil)) rfl rfl ?_
    skip
    ((refine dY rfl (y_extract rfl rfl) rfl rfl rfl rfl ?_); refine dY rfl (y_extract rfl rfl) rfl rfl rfl rfl ?_; (refine dE rfl (e_store rfl rfl rfl rfl rfl rfl rfl) rfl rfl ?_); refine dY rfl (y_assign rfl) rfl rfl rfl rfl ?_; refine dEnd ?_)
    repeat (refine ret_ ?_)
    ((apply fin_r); (repeat (first | exact .nil | exact .tmp rfl | exact .agg rfl rfl rfl | apply ResL.cons)); (repeat (exact .refl _)))
theorem Mul_s (p q : Bool) (m n : Nat) (hp : vldB p (limbs m) = true) (hq : vldB q (limbs n) = true) : Con Tryz.prog 45 [SV p m, SV q n] (resI (sgn p m * sgn q n)) := by
  refine con_of Tryz.func45 rfl rfl rfl rfl rfl ?_
  have hv1 := Valid_c p (limbs m)
  have hv2 := Valid_c q (limbs n)
  rw [hp] at hv1
  rw [hq] at hv2
  have hlm := vld_ln hp
  have hln := vld_ln hq
  have hd := Product_c (limbs m) (limbs n) (wf_limbs _) (wf_limbs _) (by rw [limbs_length]; omega) (by rw [limbs_length]; omega)
  rw [val_limbs, val_limbs] at hd
  have hr := result_c (p != q) (limbs (m * n)) (wf_limbs _) (by rw [limbs_length]; have := ln_mul hlm hln; omega)
  rw [val_limbs, sgn_mul] at hr
  cases p <;> cases q <;> (
  generalize sgn _ m * sgn _ n = z at *
  by_cases h : ln z.natAbs ≤ 512
  · rw [resI_ok h] at *
    repeat (first | refine seq_ ?_ | refine region_ ?_ | refine nil_ ?_ | refine stepY (y_assign rfl) rfl ?_ | refine stepY (y_loadA rfl rfl rfl) rfl ?_ | refine stepE (e_box rfl rfl rfl rfl rfl rfl) ?_ | refine stepE (e_alloc rfl rfl rfl) ?_)
    refine call_ Tryz.func48 rfl rfl hv1 rfl (by repeat (first | exact .refl _ | apply Les.cons | exact .nil)) rfl ?_
    repeat (first | refine guard_t rfl rfl rfl ?_ | refine stepY (y_move rfl) rfl ?_ | refine stepY (y_loadA rfl rfl rfl) rfl ?_ | refine stepY (y_not rfl) rfl ?_)
    refine call_ Tryz.func48 rfl rfl hv2 rfl (by repeat (first | exact .refl _ | apply Les.cons | exact .nil)) rfl ?_
    repeat (first | refine seq_ ?_ | refine nil_ ?_ | refine skip_ ?_ | refine cond_f rfl ?_ | refine guard_t rfl rfl rfl ?_ | refine stepY (y_not rfl) rfl ?_ | refine stepY (y_pick_f rfl rfl) rfl ?_)
    refine draw_ [(0, true), (1, true), (2, true), (3, true), (4, true), (5, true), (6, true), (7, true), (8, true), (9, false), (10, false), (11, true), (12, true), (13, false), (14, true)] 1000 [2, 3] mixed (by kernel_rfl) rfl ?_
    ((refine dY rfl (y_fieldAddr rfl) rfl rfl rfl rfl ?_); refine dY rfl (y_load1 rfl rfl rfl) rfl rfl rfl rfl ?_; refine dY rfl (y_fieldAddr rfl) rfl rfl rfl rfl ?_; refine dY rfl (y_load1 rfl rfl rfl) rfl rfl rfl rfl ?_; refine dY rfl (y_neb rfl rfl) rfl rfl rfl rfl ?_; refine dY rfl (y_fieldAddr rfl) rfl rfl rfl rfl ?_; refine dY rfl (y_load1 rfl rfl rfl) rfl rfl rfl rfl ?_; refine dY rfl (y_fieldAddr rfl) rfl rfl rfl rfl ?_; refine dY rfl (y_load1 rfl rfl rfl) rfl rfl rfl rfl ?_)
    refine dC rfl Tryz.func61 rfl rfl hd rfl (by repeat (first | exact .refl _ | apply Les.cons | exact .nil)) rfl rfl ?_
    refine dC rfl Tryz.func60 rfl rfl hr rfl (by repeat (first | exact .refl _ | apply Les.cons | exact .nil)) rfl rfl ?_
    skip
    ((refine dY rfl (y_extract rfl rfl) rfl rfl rfl rfl ?_); refine dY rfl (y_extract rfl rfl) rfl rfl rfl rfl ?_; (refine dE rfl (e_store rfl rfl rfl rfl rfl rfl rfl) rfl rfl ?_); refine dY rfl (y_assign rfl) rfl rfl rfl rfl ?_; refine dEnd ?_)
    repeat (refine ret_ ?_)
    ((apply fin_r); (repeat (first | exact .nil | exact .tmp rfl | exact .agg rfl rfl rfl | apply ResL.cons)); (repeat (exact .refl _)))
  · rw [resI_no h] at *
    repeat (first | refine seq_ ?_ | refine region_ ?_ | refine nil_ ?_ | refine stepY (y_assign rfl) rfl ?_ | refine stepY (y_loadA rfl rfl rfl) rfl ?_ | refine stepE (e_box rfl rfl rfl rfl rfl rfl) ?_ | refine stepE (e_alloc rfl rfl rfl) ?_)
    refine call_ Tryz.func48 rfl rfl hv1 rfl (by repeat (first | exact .refl _ | apply Les.cons | exact .nil)) rfl ?_
    repeat (first | refine guard_t rfl rfl rfl ?_ | refine stepY (y_move rfl) rfl ?_ | refine stepY (y_loadA rfl rfl rfl) rfl ?_ | refine stepY (y_not rfl) rfl ?_)
    refine call_ Tryz.func48 rfl rfl hv2 rfl (by repeat (first | exact .refl _ | apply Les.cons | exact .nil)) rfl ?_
    repeat (first | refine seq_ ?_ | refine nil_ ?_ | refine skip_ ?_ | refine cond_f rfl ?_ | refine guard_t rfl rfl rfl ?_ | refine stepY (y_not rfl) rfl ?_ | refine stepY (y_pick_f rfl rfl) rfl ?_)
    refine draw_ [(0, true), (1, true), (2, true), (3, true), (4, true), (5, true), (6, true), (7, true), (8, true), (9, false), (10, false), (11, true), (12, true), (13, false), (14, true)] 1000 [2, 3] mixed (by kernel_rfl) rfl ?_
    ((refine dY rfl (y_fieldAddr rfl) rfl rfl rfl rfl ?_); refine dY rfl (y_load1 rfl rfl rfl) rfl rfl rfl rfl ?_; refine dY rfl (y_fieldAddr rfl) rfl rfl rfl rfl ?_; refine dY rfl (y_load1 rfl rfl rfl) rfl rfl rfl rfl ?_; refine dY rfl (y_neb rfl rfl) rfl rfl rfl rfl ?_; refine dY rfl (y_fieldAddr rfl) rfl rfl rfl rfl ?_; refine dY rfl (y_load1 rfl rfl rfl) rfl rfl rfl rfl ?_; refine dY rfl (y_fieldAddr rfl) rfl rfl rfl rfl ?_; refine dY rfl (y_load1 rfl rfl rfl) rfl rfl rfl rfl ?_)
    refine dC rfl Tryz.func61 rfl rfl hd rfl (by repeat (first | exact .refl _ | apply Les.cons | exact .nil)) rfl rfl ?_
    refine dC rfl Tryz.func60 rfl rfl hr rfl (by repeat (first | exact .refl _ | apply Les.cons | exact .nil)) rfl rfl ?_
    skip
    ((refine dY rfl (y_extract rfl rfl) rfl rfl rfl rfl ?_); refine dY rfl (y_extract rfl rfl) rfl rfl rfl rfl ?_; (refine dE rfl (e_store rfl rfl rfl rfl rfl rfl rfl) rfl rfl ?_); refine dY rfl (y_assign rfl) rfl rfl rfl rfl ?_; refine dEnd ?_)
    repeat (refine ret_ ?_)
    ((apply fin_r); (repeat (first | exact .nil | exact .tmp rfl | exact .agg rfl rfl rfl | apply ResL.cons)); (repeat (exact .refl _)))
  )
theorem RMul_s (p q : Bool) (m n : Nat) (hp : vldB p (limbs m) = true) (hq : vldB q (limbs n) = true) : Con Tryz.prog 51 [SV p m, SV q n] (resI (sgn p m * sgn q n)) := by
  refine con_of Tryz.func51 rfl rfl rfl rfl rfl ?_
  have hv1 := RValid_c p (limbs m)
  have hv2 := RValid_c q (limbs n)
  rw [hp] at hv1
  rw [hq] at hv2
  have hlm := vld_ln hp
  have hln := vld_ln hq
  have hd := times_c (limbs m) (limbs n) (wf_limbs _) (wf_limbs _) (by rw [limbs_length]; omega) (by rw [limbs_length]; omega)
  rw [val_limbs, val_limbs] at hd
  have hr := limit_c (p != q) (limbs (m * n)) (wf_limbs _) (by rw [limbs_length]; have := ln_mul hlm hln; omega)
  rw [val_limbs, sgn_mul] at hr
  cases p <;> cases q <;> (
  generalize sgn _ m * sgn _ n = z at *
  by_cases h : ln z.natAbs ≤ 512
  · rw [resI_ok h] at *
    repeat (first | refine seq_ ?_ | refine region_ ?_ | refine nil_ ?_ | refine stepY (y_assign rfl) rfl ?_ | refine stepY (y_loadA rfl rfl rfl) rfl ?_ | refine stepE (e_box rfl rfl rfl rfl rfl rfl) ?_ | refine stepE (e_alloc rfl rfl rfl) ?_)
    refine call_ Tryz.func53 rfl rfl hv1 rfl (by repeat (first | exact .refl _ | apply Les.cons | exact .nil)) rfl ?_
    repeat (first | refine guard_t rfl rfl rfl ?_ | refine stepY (y_move rfl) rfl ?_ | refine stepY (y_loadA rfl rfl rfl) rfl ?_ | refine stepY (y_not rfl) rfl ?_)
    refine call_ Tryz.func53 rfl rfl hv2 rfl (by repeat (first | exact .refl _ | apply Les.cons | exact .nil)) rfl ?_
    repeat (first | refine seq_ ?_ | refine nil_ ?_ | refine skip_ ?_ | refine cond_f rfl ?_ | refine guard_t rfl rfl rfl ?_ | refine stepY (y_not rfl) rfl ?_ | refine stepY (y_pick_f rfl rfl) rfl ?_)
    refine draw_ [(0, true), (1, true), (2, true), (3, true), (4, true), (5, true), (6, true), (7, true), (8, true), (9, false), (10, false), (11, true), (12, true), (13, false), (14, true)] 1000 [2, 3] mixed (by kernel_rfl) rfl ?_
    ((refine dY rfl (y_fieldAddr rfl) rfl rfl rfl rfl ?_); refine dY rfl (y_load1 rfl rfl rfl) rfl rfl rfl rfl ?_; refine dY rfl (y_fieldAddr rfl) rfl rfl rfl rfl ?_; refine dY rfl (y_load1 rfl rfl rfl) rfl rfl rfl rfl ?_; refine dY rfl (y_neb rfl rfl) rfl rfl rfl rfl ?_; refine dY rfl (y_fieldAddr rfl) rfl rfl rfl rfl ?_; refine dY rfl (y_load1 rfl rfl rfl) rfl rfl rfl rfl ?_; refine dY rfl (y_fieldAddr rfl) rfl rfl rfl rfl ?_; refine dY rfl (y_load1 rfl rfl rfl) rfl rfl rfl rfl ?_)
    refine dC rfl Tryz.func69 rfl rfl hd rfl (by repeat (first | exact .refl _ | apply Les.cons | exact .nil)) rfl rfl ?_
    refine dC rfl Tryz.func68 rfl rfl hr rfl (by repeat (first | exact .refl _ | exact .tag _ _ | apply Les.cons | exact .nil)) rfl rfl ?_
    skip
    ((refine dY rfl (y_extract rfl rfl) rfl rfl rfl rfl ?_); refine dY rfl (y_extract rfl rfl) rfl rfl rfl rfl ?_; (refine dE rfl (e_store rfl rfl rfl rfl rfl rfl rfl) rfl rfl ?_); refine dY rfl (y_assign rfl) rfl rfl rfl rfl ?_; refine dEnd ?_)
    repeat (refine ret_ ?_)
    ((apply fin_r); (repeat (first | exact .nil | exact .tmp rfl | exact .agg rfl rfl rfl | apply ResL.cons)); (repeat (exact .refl _)))
  · rw [resI_no h] at *
    repeat (first | refine seq_ ?_ | refine region_ ?_ | refine nil_ ?_ | refine stepY (y_assign rfl) rfl ?_ | refine stepY (y_loadA rfl rfl rfl) rfl ?_ | refine stepE (e_box rfl rfl rfl rfl rfl rfl) ?_ | refine stepE (e_alloc rfl rfl rfl) ?_)
    refine call_ Tryz.func53 rfl rfl hv1 rfl (by repeat (first | exact .refl _ | apply Les.cons | exact .nil)) rfl ?_
    repeat (first | refine guard_t rfl rfl rfl ?_ | refine stepY (y_move rfl) rfl ?_ | refine stepY (y_loadA rfl rfl rfl) rfl ?_ | refine stepY (y_not rfl) rfl ?_)
    refine call_ Tryz.func53 rfl rfl hv2 rfl (by repeat (first | exact .refl _ | apply Les.cons | exact .nil)) rfl ?_
    repeat (first | refine seq_ ?_ | refine nil_ ?_ | refine skip_ ?_ | refine cond_f rfl ?_ | refine guard_t rfl rfl rfl ?_ | refine stepY (y_not rfl) rfl ?_ | refine stepY (y_pick_f rfl rfl) rfl ?_)
    refine draw_ [(0, true), (1, true), (2, true), (3, true), (4, true), (5, true), (6, true), (7, true), (8, true), (9, false), (10, false), (11, true), (12, true), (13, false), (14, true)] 1000 [2, 3] mixed (by kernel_rfl) rfl ?_
    ((refine dY rfl (y_fieldAddr rfl) rfl rfl rfl rfl ?_); refine dY rfl (y_load1 rfl rfl rfl) rfl rfl rfl rfl ?_; refine dY rfl (y_fieldAddr rfl) rfl rfl rfl rfl ?_; refine dY rfl (y_load1 rfl rfl rfl) rfl rfl rfl rfl ?_; refine dY rfl (y_neb rfl rfl) rfl rfl rfl rfl ?_; refine dY rfl (y_fieldAddr rfl) rfl rfl rfl rfl ?_; refine dY rfl (y_load1 rfl rfl rfl) rfl rfl rfl rfl ?_; refine dY rfl (y_fieldAddr rfl) rfl rfl rfl rfl ?_; refine dY rfl (y_load1 rfl rfl rfl) rfl rfl rfl rfl ?_)
    refine dC rfl Tryz.func69 rfl rfl hd rfl (by repeat (first | exact .refl _ | apply Les.cons | exact .nil)) rfl rfl ?_
    refine dC rfl Tryz.func68 rfl rfl hr rfl (by repeat (first | exact .refl _ | exact .tag _ _ | apply Les.cons | exact .nil)) rfl rfl ?_
    skip
    ((refine dY rfl (y_extract rfl rfl) rfl rfl rfl rfl ?_); refine dY rfl (y_extract rfl rfl) rfl rfl rfl rfl ?_; (refine dE rfl (e_store rfl rfl rfl rfl rfl rfl rfl) rfl rfl ?_); refine dY rfl (y_assign rfl) rfl rfl rfl rfl ?_; refine dEnd ?_)
    repeat (refine ret_ ?_)
    ((apply fin_r); (repeat (first | exact .nil | exact .tmp rfl | exact .agg rfl rfl rfl | apply ResL.cons)); (repeat (exact .refl _)))
  )
end Go.Av

set_option maxHeartbeats 8000000
set_option exponentiation.threshold 100000
set_option maxRecDepth 100000
set_option linter.unusedVariables false
set_option linter.unusedSimpArgs false
namespace Go.Av
open Go Go.Proofs
theorem icmp_pp (m n : Nat) : icmp (sgn false m) (sgn false n) = sg m n := by
  unfold icmp sg sgn; simp
theorem icmp_nn (m n : Nat) : icmp (sgn true m) (sgn true n) = sg n m := by
  unfold icmp sg sgn; simp
theorem icmp_np {m n : Nat} (h : 0 < m) : icmp (sgn true m) (sgn false n) = -1 := by
  unfold icmp; rw [show sgn true m = -(m : Int) from rfl, show sgn false n = (n : Int) from rfl, if_pos (by omega)]
theorem icmp_pn {m n : Nat} (h : 0 < n) : icmp (sgn false m) (sgn true n) = 1 := by
  unfold icmp; rw [show sgn true n = -(n : Int) from rfl, show sgn false m = (m : Int) from rfl, if_neg (by omega), if_pos (by omega)]
end Go.Av

/-! Plain arithmetic of limbs: bits, halves, the division bit by bit, the greatest common divisor. -/
set_option linter.unusedVariables false
namespace Go.Av
theorem two_split (i : Nat) : 2 ^ i = B ^ (i / 32) * 2 ^ (i % 32) := by
  rw [B_pow, ← Nat.pow_add]; congr 1; omega
theorem B_two {r : Nat} (h : r ≤ 32) : B = 2 ^ r * 2 ^ (32 - r) := by rw [← Nat.pow_add, show r + (32 - r) = 32 by omega]; rfl
theorem bit_dg (n i : Nat) : dg n (i / 32) / 2 ^ (i % 32) % 2 = n / 2 ^ i % 2 := by
  unfold dg
  have hr : i % 32 < 32 := Nat.mod_lt _ (by decide)
  rw [two_split i, ← Nat.div_div_eq_div_mul]
  generalize n / B ^ (i / 32) = x
  generalize i % 32 = r at *
  rw [B_two (r := r) (by omega), Nat.mod_mul_right_div_self, show 32 - r = (31 - r) + 1 by omega, Nat.pow_succ, Nat.mul_comm, Nat.mod_mul_right_mod]
/-- one round of the division bit by bit -/
theorem bit_step {A V i : Nat} (hV : 0 < V) : (V ≤ 2 * (A / 2 ^ (i + 1) % V) + A / 2 ^ i % 2 → A / 2 ^ i / V = 2 * (A / 2 ^ (i + 1) / V) + 1 ∧ A / 2 ^ i % V = 2 * (A / 2 ^ (i + 1) % V) + A / 2 ^ i % 2 - V) ∧
    (¬ V ≤ 2 * (A / 2 ^ (i + 1) % V) + A / 2 ^ i % 2 → A / 2 ^ i / V = 2 * (A / 2 ^ (i + 1) / V) ∧ A / 2 ^ i % V = 2 * (A / 2 ^ (i + 1) % V) + A / 2 ^ i % 2) := by
  have e : A / 2 ^ (i + 1) = A / 2 ^ i / 2 := by rw [Nat.pow_succ, Nat.div_div_eq_div_mul]
  rw [e]
  generalize A / 2 ^ i = x
  have h1 := Nat.div_add_mod x 2
  have h2 := Nat.div_add_mod (x / 2) V
  have h3 := Nat.mod_lt (x / 2) hV
  have h4 := Nat.mod_lt x (show 2 > 0 by decide)
  generalize x / 2 / V = q at *
  generalize x / 2 % V = r at *
  generalize x % 2 = b at *
  have h5 : x = V * (2 * q) + (2 * r + b) := by rw [Nat.mul_left_comm]; omega
  constructor
  · intro h
    have h6 : x = V * (2 * q + 1) + (2 * r + b - V) := by rw [Nat.mul_add, Nat.mul_one]; omega
    constructor
    · rw [h6, Nat.mul_add_div hV, Nat.div_eq_of_lt (by omega), Nat.add_zero]
    · rw [h6, Nat.mul_add_mod, Nat.mod_eq_of_lt (by omega)]
  · intro h
    constructor
    · rw [h5, Nat.mul_add_div hV, Nat.div_eq_of_lt (by omega), Nat.add_zero]
    · rw [h5, Nat.mul_add_mod, Nat.mod_eq_of_lt (by omega)]
theorem bit_room {o : List Int} {i z : Nat} (hw : wf o) (hv : val o = 2 ^ (i + 1) * z) : dg (val o) (i / 32) + 2 ^ (i % 32) < B := by
  have hr : i % 32 < 32 := Nat.mod_lt _ (by decide)
  have e : 2 ^ (i + 1) = B ^ (i / 32) * 2 ^ (i % 32 + 1) := by
    rw [Nat.pow_succ, two_split i, Nat.pow_succ, Nat.mul_assoc]
  rw [hv, e]
  unfold dg
  rw [Nat.mul_assoc, Nat.mul_div_cancel_left _ (Bp_pos _)]
  generalize i % 32 = r at *
  have h1 := B_two (r := r + 1) (by omega)
  rw [h1, Nat.mul_mod_mul_left]
  have h2 := Nat.mod_lt z (show 2 ^ (32 - (r + 1)) > 0 from Nat.pow_pos (by decide))
  have h3 : 2 ^ (r + 1) * (z % 2 ^ (32 - (r + 1)) + 1) ≤ 2 ^ (r + 1) * 2 ^ (32 - (r + 1)) := Nat.mul_le_mul_left _ h2
  have h4 : 2 ^ r < 2 ^ (r + 1) := Nat.pow_lt_pow_right (by decide) (by omega)
  rw [Nat.mul_succ] at h3
  omega
theorem bit_set {o : List Int} {i : Nat} (hw : wf o) (hi : i / 32 < o.length) (hr : dg (val o) (i / 32) + 2 ^ (i % 32) < B) :
    wf (o.set (i / 32) ((dg (val o) (i / 32) + 2 ^ (i % 32) : Nat) : Int)) ∧ val (o.set (i / 32) ((dg (val o) (i / 32) + 2 ^ (i % 32) : Nat) : Int)) = val o + 2 ^ i := by
  refine ⟨wf_set hw ⟨Int.natCast_nonneg _, Int.ofNat_lt.2 hr⟩, ?_⟩
  · have h1 := val_set (l := o) (i := i / 32) (x := ((dg (val o) (i / 32) + 2 ^ (i % 32) : Nat) : Int)) hi
    have h2 := rd_wf hw (i := ((i / 32 : Nat) : Int)) (by omega)
    rw [Int.toNat_natCast] at h2
    rw [h2, Int.toNat_natCast, Int.toNat_natCast, Nat.mul_add, ← two_split] at h1
    omega
/-- halves -/
theorem half_dg (n i : Nat) : dg (n / 2) i = dg n i / 2 + dg n (i + 1) % 2 * 2147483648 := by
  have h := low_step (a := n) (n := 1) (by decide) i
  rw [Nat.pow_one] at h
  have h1 := dg_lt n i
  rw [h]
  unfold B at *
  omega
end Go.Av

set_option maxHeartbeats 8000000
set_option exponentiation.threshold 100000
set_option maxRecDepth 100000
set_option linter.unusedVariables false
set_option linter.unusedSimpArgs false
namespace Go.Av
open Go Go.Proofs
/-! barscanref02.half -/
end Go.Av

set_option maxHeartbeats 8000000
set_option exponentiation.threshold 100000
set_option maxRecDepth 100000
set_option linter.unusedVariables false
set_option linter.unusedSimpArgs false
namespace Go.Av
open Go Go.Proofs
theorem mod_lt_two {a : Nat} : a % 2 = 0 ∨ a % 2 = 1 := by omega
end Go.Av

set_option maxHeartbeats 8000000
set_option exponentiation.threshold 100000
set_option maxRecDepth 100000
set_option linter.unusedVariables false
set_option linter.unusedSimpArgs false
namespace Go.Av
open Go Go.Proofs
/-- floor of a quotient, and the rest -/
def dq (p q : Bool) (m n : Nat) : Int := if (p != q) = true ∧ 0 < m % n then sgn true (m / n + 1) else sgn (p != q) (m / n)
def dr (p q : Bool) (m n : Nat) : Int := if (p != q) = true ∧ 0 < m % n then sgn q (n - m % n) else sgn q (m % n)
end Go.Av

set_option maxHeartbeats 8000000
set_option exponentiation.threshold 100000
set_option maxRecDepth 100000
set_option linter.unusedVariables false
set_option linter.unusedSimpArgs false
namespace Go.Av
open Go Go.Proofs
theorem ln_succ {m : Nat} (h : ln m ≤ 512) : ln (m + 1) ≤ 513 := by
  rw [ln_le] at h ⊢
  exact sum_lt h (Nat.lt_of_lt_of_le (show 1 < B by decide) (by rw [show B = B ^ 1 by rw [Nat.pow_one], ← Nat.pow_mul]; exact Nat.pow_le_pow_right B_pos (by omega)))
/-! the greatest common divisor -/
end Go.Av

set_option linter.unusedVariables false
set_option linter.unusedSimpArgs false
/-! Function values without captured variables. -/
namespace Go.Av
open Go Go.RowKit
section
variable {P : Program} {N : Nat} {E : Env} {H : Hp} {Q : Exit → Env → Hp → Prop} {ops : Array Oper} {rest : List Oper}
theorem y_mkfn {g : FuncId} {ty : TypeId} : Yl P (.makeFunc (.func g) #[] #[]) ty E H (.p (.v (.func (.func g) #[] #[]))) .no := by
  unfold Yl
  intro _ _ _ _ _ _ r
  exact ⟨.func (.func g) #[] #[], fun W _ _ _ _ _ => by simp [execOp, Instr.makeFunc], by simp [RelT, Rel]⟩
/-- A call of a function value that is known. -/
theorem callV_ {d i : Nat} {f : FuncId} {fn : Func} {os : Array Operand} {ts : Array TypeId} {ty : TypeId} {pos : String} {af : Array Edge} {args xs : List PV} {res : PV} (hf : P.funcs[f]? = some fn) (hn : (fn.name == "runtime.NumGoroutine") = false) (hb : fn.body.isNone = false)
    (hc : Con P f args res) (hi : lk i E = some (.p (.v (.func (.func f) #[] #[])))) (hx : evs E os.toList = some xs) (hle : Les xs args) (hd : Nat.blt d N = true) (k : TrL P N ops rest ((d, .p res) :: E) H Q) :
    TrL P N ops (⟨some d, .call { callee := .value (.tmp i), args := os, argTypes := ts }, ty, pos, af, none⟩ :: rest) E H Q := by
  unfold TrL at k ⊢
  intro okA w0 ρ tmps w r
  refine wpList_plain rfl fun K hK => ?_
  have hcall := call_rep r hc hx hle
  have hv := ev_v r (o := .tmp i) hi
  have hrun : (execOp (Act.eval ⟨tmps, []⟩) ⟨some d, .call { callee := .value (.tmp i), args := os, argTypes := ts }, ty, pos, af, none⟩).run P w = .ok (.enter f (os.map (Act.eval ⟨tmps, []⟩))) w := by
    have hn' : ¬ fn.name = "runtime.NumGoroutine" := by simpa using hn
    have hb' : ¬ fn.body = none := by intro h; rw [h] at hb; simp at hb
    simp [execOp, resolve, Deferred.ofValue, hv, invoke, callFunc, hf, hn', hb']
  simp only [Oper.wp, hrun, Oper.upon]
  have harr : os.map (Act.eval ⟨tmps, []⟩) = (os.toList.map (Act.eval ⟨tmps, []⟩)).toArray := by apply Array.ext'; simp
  rw [harr]
  refine hcall.mono fun e w' ⟨y, he, hr, hrel, _⟩ => ?_
  subst he
  exact hK _ _ (k okA w0 ρ _ w' (hr.put (Nat.le_of_ble_eq_true hd) (x := .p res) (by simpa only [RelT] using hrel)))
end
end Go.Av

set_option maxHeartbeats 8000000
set_option exponentiation.threshold 100000
set_option maxRecDepth 100000
set_option linter.unusedVariables false
set_option linter.unusedSimpArgs false
namespace Go.Av
open Go Go.Proofs
/-! fraction: wide numbers and reduced fractions -/
theorem wideOf_c (p : Bool) (n : Nat) : Con Tryz.prog 50 [SV p n] (SV p n) := by
  refine con_of Tryz.func50 rfl rfl rfl rfl rfl ?_
  repeat (first | refine seq_ ?_ | refine region_ ?_ | refine nil_ ?_ | refine ret_ ?_ | refine stepY (y_load1 rfl rfl rfl) rfl ?_ | refine stepY (y_fieldAddr rfl) rfl ?_ | refine stepY (y_build rfl rfl rfl) rfl ?_ | refine stepE (e_box rfl rfl rfl rfl rfl rfl) ?_ | refine stepE (e_alloc rfl rfl rfl) ?_ | refine stepE (e_store rfl rfl rfl rfl rfl rfl rfl) ?_)
  ((apply fin_r); (repeat (first | exact .nil | exact .agg rfl rfl rfl | apply ResL.cons)); (repeat (exact .refl _)))
def addA (p q : Bool) (m n : Nat) : Nat := if p = q then m + n else if n ≤ m then m - n else n - m
theorem addA_val (p q : Bool) (m n : Nat) : sgn (addN p q m n) (addA p q m n) = sgn p m + sgn q n := by
  unfold addN addA sgn
  cases p <;> cases q <;> by_cases h : n ≤ m <;> simp [h] <;> omega
theorem fcommon_c (a b : Nat) (hla : ln a ≤ 20000) (hlb : ln b ≤ 20000) : Con Tryz.prog 65 [M a, M b] (M (Nat.gcd a b)) := by
  refine con_of Tryz.func65 rfl rfl rfl rfl rfl ?_
  repeat (first | refine seq_ ?_ | refine region_ ?_ | refine nil_ ?_ | refine block_ ?_ | refine stepY (y_assign rfl) rfl ?_)
  refine loop_ (α := Nat × Nat) (fun s => ([(0, .p (M s.1)), (1, .p (M s.2))], [])) (fun s => Nat.gcd s.1 s.2 = Nat.gcd a b ∧ ln s.1 ≤ 20000 ∧ ln s.2 ≤ 20000) (fun s => s.2) (a, b) ⟨rfl, hla, hlb⟩ ?_ ?_ ?_
  · (repeat (first | exact sub_nil | refine sub_cons rfl ?_))
  · (repeat (exact subH_nil))
  intro ⟨x, y⟩ ⟨hg, hx, hy⟩
  dsimp only at hg hx hy ⊢
  have hly : ((limbs y).length : Int) = ln y := by rw [limbs_length]
  by_cases h : 0 < y
  · have hp := ln_pos.2 h
    have hm := Nat.mod_lt x h
    have ht := Trim_c (limbs (x % y)) (wf_limbs _)
    rw [val_limbs] at ht
    repeat (first | refine seq_ ?_ | refine region_ ?_ | refine nil_ ?_ | refine skip_ ?_ | refine block_ ?_ | refine cond_t rfl ?_ | refine stepY (y_move rfl) rfl ?_ | refine stepY (y_len_si rfl) rfl ?_ | refine stepY (y_cmpT rfl rfl rfl (by omega)) rfl ?_)
    refine call_ Tryz.func66 rfl rfl (Division_c x y h (by omega)) rfl (by repeat (first | exact .refl _ | apply Les.cons | exact .nil)) rfl ?_
    repeat (first | refine region_ ?_ | refine nil_ ?_ | refine stepY (y_move rfl) rfl ?_ | refine stepY (y_assign rfl) rfl ?_ | refine stepY (y_extract rfl rfl) rfl ?_)
    refine call_ Tryz.func77 rfl rfl ht rfl (by repeat (first | exact .refl _ | apply Les.cons | exact .nil)) rfl ?_
    repeat (first | refine nil_ ?_ | refine stepY (y_assign rfl) rfl ?_)
    refine ⟨(y, x % y), ⟨?_, hy, ?_⟩, hm, ?_, ?_⟩
    · rw [← hg]; simp only; rw [Nat.gcd_comm x y, Nat.gcd_rec y x, Nat.gcd_comm]
    · exact Nat.le_trans (ln_mono (Nat.le_of_lt hm)) hy
    · (repeat (first | exact sub_nil | refine sub_cons rfl ?_))
    · (repeat (exact subH_nil))
  · obtain rfl : y = 0 := by omega
    have hp : ln 0 = 0 := rfl
    rw [Nat.gcd_zero_right] at hg
    subst hg
    repeat (first | refine seq_ ?_ | refine region_ ?_ | refine nil_ ?_ | refine exit_ ?_ | refine ret_ ?_ | refine cond_f rfl ?_ | refine stepY (y_move rfl) rfl ?_ | refine stepY (y_assign rfl) rfl ?_ | refine stepY (y_len_si rfl) rfl ?_ | refine stepY (y_cmpF rfl rfl rfl (by omega)) rfl ?_)
    ((apply fin_r); (repeat (first | exact .nil | exact .tmp rfl | apply ResL.cons)); (repeat (exact .refl _)))
end Go.Av

set_option maxHeartbeats 8000000
set_option exponentiation.threshold 100000
set_option maxRecDepth 100000
set_option linter.unusedVariables false
set_option linter.unusedSimpArgs false
namespace Go.Av
open Go Go.Proofs
/-! fractions: normal form -/
abbrev QV (x : Rat) : PV := .ag [Bo (decide (x.num < 0)), M x.num.natAbs, Bo false, M x.den]
abbrev FQ (x : Rat) : PV := .ag [Bo (decide (x.num < 0)), FM x.num.natAbs, Bo false, FM x.den]
abbrev ZF : PV := .ag [Bo false, FM 0, Bo false, FM 0]
def okQ (x : Rat) : Prop := ln x.num.natAbs ≤ 512 ∧ ln x.den ≤ 512
instance (x : Rat) : Decidable (okQ x) := by unfold okQ; infer_instance
def resQ (x : Rat) : PV := if okQ x then .tp [FQ x, E_ 0] else .tp [ZF, E_ 4]
theorem mkQ (z : Int) {d : Nat} (hd : 0 < d) : (mkRat z d).num = z / (Nat.gcd z.natAbs d : Nat) ∧ (mkRat z d).den = d / Nat.gcd z.natAbs d := by
  rw [← Rat.normalize_eq_mkRat (Nat.ne_of_gt hd), Rat.normalize_eq]
  exact ⟨rfl, rfl⟩
theorem gcd_pos' {n d : Nat} (hd : 0 < d) : 0 < Nat.gcd n d := Nat.gcd_pos_of_pos_right _ hd
theorem mkQ_num (p : Bool) (n : Nat) {d : Nat} (hd : 0 < d) : (mkRat (sgn p n) d).num = sgn p (n / Nat.gcd n d) := by
  rw [(mkQ _ hd).1, sgn_abs]
  unfold sgn
  cases p
  · simp
  · simp only [if_true]
    rw [Int.neg_ediv_of_dvd (Int.natCast_dvd_natCast.2 (Nat.gcd_dvd_left n d))]
    simp
theorem mkQ_den (p : Bool) (n : Nat) {d : Nat} (hd : 0 < d) : (mkRat (sgn p n) d).den = d / Nat.gcd n d := by
  rw [(mkQ _ hd).2, sgn_abs]
theorem resQ_ok {x : Rat} (h : okQ x) : resQ x = .tp [FQ x, E_ 0] := by unfold resQ; rw [if_pos h]
theorem resQ_no {x : Rat} (h : ¬ okQ x) : resQ x = .tp [ZF, E_ 4] := by unfold resQ; rw [if_neg h]
theorem resQ_eq (s : Bool) (n : Nat) {d : Nat} (hd : 0 < d) : resQ (mkRat (sgn s n) d) = if ln (n / Nat.gcd n d) ≤ 512 ∧ ln (d / Nat.gcd n d) ≤ 512 then .tp [.ag [Bo (s && decide (0 < n / Nat.gcd n d)), FM (n / Nat.gcd n d), Bo false, FM (d / Nat.gcd n d)], E_ 0] else .tp [ZF, E_ 4] := by
  have hnm := mkQ_num s n hd
  have hdn := mkQ_den s n hd
  have hna : (mkRat (sgn s n) d).num.natAbs = n / Nat.gcd n d := by rw [hnm, sgn_abs]
  have hsg : decide ((mkRat (sgn s n) d).num < 0) = (s && decide (0 < n / Nat.gcd n d)) := by rw [hnm, sgn_neg]
  by_cases h : okQ (mkRat (sgn s n) d)
  · rw [resQ_ok h]
    unfold okQ at h
    rw [hna, hdn] at h
    rw [if_pos h]
    simp only [FQ]
    rw [hsg, hna, hdn]
  · rw [resQ_no h]
    unfold okQ at h
    rw [hna, hdn] at h
    rw [if_neg h]
theorem reduced_c (p q : Bool) (n d : Nat) (hd : 0 < d) (hn : ln n ≤ 20000) (hld : ln d ≤ 20000) : Con Tryz.prog 49 [SV p n, SV q d] (resQ (mkRat (sgn (p != q) n) d)) := by
  rw [resQ_eq _ _ hd]
  have hg := gcd_pos' (n := n) hd
  have hc := fcommon_c n d hn hld
  have hD1 := Division_c n (Nat.gcd n d) hg (by omega)
  have hD2 := Division_c d (Nat.gcd n d) hg (by omega)
  generalize n / Nat.gcd n d = a at *
  generalize d / Nat.gcd n d = b at *
  have hb : decide (p ≠ q) = (p != q) := by cases p <;> cases q <;> rfl
  refine con_of Tryz.func49 rfl rfl rfl rfl rfl ?_
  have hla : ((limbs a).length : Int) = ln a := by rw [limbs_length]
  have hlb : ((limbs b).length : Int) = ln b := by rw [limbs_length]
  repeat (first | refine seq_ ?_ | refine region_ ?_ | refine nil_ ?_ | refine stepY (y_assign rfl) rfl ?_ | refine stepY (y_load1 rfl rfl rfl) rfl ?_ | refine stepY (y_fieldAddr rfl) rfl ?_ | refine stepE (e_box rfl rfl rfl rfl rfl rfl) ?_ | refine stepE (e_alloc rfl rfl rfl) ?_)
  refine call_ Tryz.func65 rfl rfl hc rfl (by repeat (first | exact .refl _ | apply Les.cons | exact .nil)) rfl ?_
  repeat (first | refine seq_ ?_ | refine region_ ?_ | refine nil_ ?_ | refine stepY (y_move rfl) rfl ?_ | refine stepY (y_assign rfl) rfl ?_ | refine stepY (y_load1 rfl rfl rfl) rfl ?_ | refine stepY (y_fieldAddr rfl) rfl ?_)
  refine call_ Tryz.func66 rfl rfl hD1 rfl (by repeat (first | exact .refl _ | apply Les.cons | exact .nil)) rfl ?_
  repeat (first | refine seq_ ?_ | refine region_ ?_ | refine nil_ ?_ | refine stepY (y_move rfl) rfl ?_ | refine stepY (y_assign rfl) rfl ?_ | refine stepY (y_load1 rfl rfl rfl) rfl ?_ | refine stepY (y_fieldAddr rfl) rfl ?_ | refine stepY (y_extract rfl rfl) rfl ?_)
  refine call_ Tryz.func66 rfl rfl hD2 rfl (by repeat (first | exact .refl _ | apply Les.cons | exact .nil)) rfl ?_
  by_cases h1 : ln a ≤ 512
  · by_cases h2 : ln b ≤ 512
    · rw [if_pos ⟨h1, h2⟩]
      have hC1 := Clone_c (limbs a) (by rw [limbs_length]; omega)
      have hC2 := Clone_c (limbs b) (by rw [limbs_length]; omega)
      repeat (first | refine seq_ ?_ | refine region_ ?_ | refine nil_ ?_ | refine skip_ ?_ | refine cond_f rfl ?_ | refine guard_t rfl rfl rfl ?_ | refine stepY (y_move rfl) rfl ?_ | refine stepY (y_assign rfl) rfl ?_ | refine stepY (y_load1 rfl rfl rfl) rfl ?_ | refine stepY (y_fieldAddr rfl) rfl ?_ | refine stepY (y_extract rfl rfl) rfl ?_ | refine stepY (y_len_si rfl) rfl ?_ | refine stepY (y_pick_f rfl rfl) rfl ?_ | refine stepY (y_neb rfl rfl) rfl ?_ | refine stepY (y_cmpF rfl rfl rfl (by omega)) rfl ?_)
      rw [hb]
      by_cases h3 : (p != q) = true
      · rw [h3] at *
        by_cases h4 : 0 < a
        · have := ln_pos.2 h4
          rw [decide_eq_true h4]
          repeat (first | refine seq_ ?_ | refine region_ ?_ | refine nil_ ?_ | refine guard_t rfl rfl rfl ?_ | refine stepY (y_move rfl) rfl ?_ | refine stepY (y_assign rfl) rfl ?_ | refine stepY (y_len_si rfl) rfl ?_ | refine stepY (y_pick_t rfl rfl) rfl ?_ | refine stepY (y_cmpT rfl rfl rfl (by omega)) rfl ?_)
          refine call_ Tryz.func67 rfl rfl hC1 rfl (by repeat (first | exact .refl _ | apply Les.cons | exact .nil)) rfl ?_
          repeat (first | refine stepY (y_move rfl) rfl ?_ | refine stepY (y_build rfl rfl rfl) rfl ?_)
          refine call_ Tryz.func67 rfl rfl hC2 rfl (by repeat (first | exact .refl _ | apply Les.cons | exact .nil)) rfl ?_
          repeat (first | refine nil_ ?_ | refine ret_ ?_ | refine stepY (y_assign rfl) rfl ?_ | refine stepY (y_build rfl rfl rfl) rfl ?_ | refine stepE (e_store rfl rfl rfl rfl rfl rfl rfl) ?_)
          ((apply fin_r); (repeat (first | exact .nil | exact .tmp rfl | exact .agg rfl rfl rfl | apply ResL.cons)); (repeat (exact .refl _)))
        · have : ¬ 0 < ln a := fun h => h4 (ln_pos.1 h)
          rw [decide_eq_false h4]
          repeat (first | refine seq_ ?_ | refine region_ ?_ | refine nil_ ?_ | refine guard_t rfl rfl rfl ?_ | refine stepY (y_move rfl) rfl ?_ | refine stepY (y_assign rfl) rfl ?_ | refine stepY (y_len_si rfl) rfl ?_ | refine stepY (y_pick_t rfl rfl) rfl ?_ | refine stepY (y_cmpF rfl rfl rfl (by omega)) rfl ?_)
          refine call_ Tryz.func67 rfl rfl hC1 rfl (by repeat (first | exact .refl _ | apply Les.cons | exact .nil)) rfl ?_
          repeat (first | refine stepY (y_move rfl) rfl ?_ | refine stepY (y_build rfl rfl rfl) rfl ?_)
          refine call_ Tryz.func67 rfl rfl hC2 rfl (by repeat (first | exact .refl _ | apply Les.cons | exact .nil)) rfl ?_
          repeat (first | refine nil_ ?_ | refine ret_ ?_ | refine stepY (y_assign rfl) rfl ?_ | refine stepY (y_build rfl rfl rfl) rfl ?_ | refine stepE (e_store rfl rfl rfl rfl rfl rfl rfl) ?_)
          ((apply fin_r); (repeat (first | exact .nil | exact .tmp rfl | exact .agg rfl rfl rfl | apply ResL.cons)); (repeat (exact .refl _)))
      · rw [show (p != q) = false from Bool.eq_false_iff.2 h3] at *
        repeat (first | refine seq_ ?_ | refine region_ ?_ | refine nil_ ?_ | refine guard_f rfl rfl rfl rfl ?_ | refine stepY (y_move rfl) rfl ?_ | refine stepY (y_assign rfl) rfl ?_ | refine stepY (y_pick_f rfl rfl) rfl ?_)
        refine call_ Tryz.func67 rfl rfl hC1 rfl (by repeat (first | exact .refl _ | apply Les.cons | exact .nil)) rfl ?_
        repeat (first | refine stepY (y_move rfl) rfl ?_ | refine stepY (y_build rfl rfl rfl) rfl ?_)
        refine call_ Tryz.func67 rfl rfl hC2 rfl (by repeat (first | exact .refl _ | apply Les.cons | exact .nil)) rfl ?_
        repeat (first | refine nil_ ?_ | refine ret_ ?_ | refine stepY (y_assign rfl) rfl ?_ | refine stepY (y_build rfl rfl rfl) rfl ?_ | refine stepE (e_store rfl rfl rfl rfl rfl rfl rfl) ?_)
        ((apply fin_r); (repeat (first | exact .nil | exact .tmp rfl | exact .agg rfl rfl rfl | apply ResL.cons)); (repeat (exact .refl _)))
    · rw [if_neg (fun h => h2 h.2)]
      repeat (first | refine seq_ ?_ | refine region_ ?_ | refine nil_ ?_ | refine ret_ ?_ | refine cond_t rfl ?_ | refine guard_t rfl rfl rfl ?_ | refine stepY (y_move rfl) rfl ?_ | refine stepY (y_assign rfl) rfl ?_ | refine stepY (y_extract rfl rfl) rfl ?_ | refine stepY (y_len_si rfl) rfl ?_ | refine stepY (y_pick_f rfl rfl) rfl ?_ | refine stepY (y_build rfl rfl rfl) rfl ?_ | (first | refine stepY (y_cmpT rfl rfl rfl (by omega)) rfl ?_ | refine stepY (y_cmpF rfl rfl rfl (by omega)) rfl ?_) | refine stepE (e_store rfl rfl rfl rfl rfl rfl rfl) ?_)
      ((apply fin_r); (repeat (first | exact .nil | exact .tmp rfl | exact .agg rfl rfl rfl | apply ResL.cons)); (repeat (first | exact .refl _ | exact .nil _ _ | apply Le.ag | apply Le.tp | apply Les.cons | exact .nil)))
  · rw [if_neg (fun h => h1 h.1)]
    repeat (first | refine seq_ ?_ | refine region_ ?_ | refine nil_ ?_ | refine ret_ ?_ | refine cond_t rfl ?_ | refine guard_f rfl rfl rfl rfl ?_ | refine stepY (y_move rfl) rfl ?_ | refine stepY (y_assign rfl) rfl ?_ | refine stepY (y_extract rfl rfl) rfl ?_ | refine stepY (y_len_si rfl) rfl ?_ | refine stepY (y_pick_t rfl rfl) rfl ?_ | refine stepY (y_build rfl rfl rfl) rfl ?_ | refine stepY (y_cmpT rfl rfl rfl (by omega)) rfl ?_ | refine stepE (e_store rfl rfl rfl rfl rfl rfl rfl) ?_)
    ((apply fin_r); (repeat (first | exact .nil | exact .tmp rfl | exact .agg rfl rfl rfl | apply ResL.cons)); (repeat (first | exact .refl _ | exact .nil _ _ | apply Le.ag | apply Le.tp | apply Les.cons | exact .nil)))
/-- any four fields -/
abbrev AF (p : Bool) (l : List Int) (q : Bool) (k : List Int) : PV := .ag [Bo p, Li l, Bo q, Li k]
def vldF (p : Bool) (l : List Int) (q : Bool) (k : List Int) : Bool := vldB p l && vldB q k && !q && decide (0 < k.length) && (Nat.gcd (val l) (val k) == 1)
theorem vld_limbs {p : Bool} {l : List Int} (hw : wf l) (h : vldB p l = true) : l = limbs (val l) := by
  have h1 := (iv_vld hw h).1
  unfold AV IV at h1
  rw [sgn_abs] at h1
  injection h1 with h1
  injection h1 with _ h1
  injection h1 with h1 _
  injection h1
theorem vldF_q {p : Bool} {l : List Int} {q : Bool} {k : List Int} (hl : wf l) (hk : wf k) (h : vldF p l q k = true) : ∃ x : Rat, okQ x ∧ p = decide (x.num < 0) ∧ l = limbs x.num.natAbs ∧ q = false ∧ k = limbs x.den := by
  unfold vldF at h
  simp only [Bool.and_eq_true, decide_eq_true_eq, Bool.not_eq_true', beq_iff_eq] at h
  obtain ⟨⟨⟨⟨h1, h2⟩, h3⟩, h4⟩, h5⟩ := h
  have e1 := (iv_vld hl h1)
  have e2 := vld_limbs hl h1
  have e3 := vld_limbs hk h2
  have hkp : val k ≠ 0 := by intro h0; rw [h0] at e3; rw [e3] at h4; exact absurd h4 (by decide)
  have hz : (sgn p (val l)).natAbs = val l := sgn_abs _ _
  refine ⟨⟨sgn p (val l), val k, hkp, by unfold Nat.Coprime; rw [hz]; exact h5⟩, ⟨e1.2, ?_⟩, ?_, ?_, h3, e3⟩
  · rw [e3] at h2; exact vld_ln h2
  · have := e1.1
    injection this with h6
    injection h6 with h6 _
    injection h6 with h6
    injection h6
  · show l = limbs (sgn p (val l)).natAbs
    rw [hz]; exact e2
theorem vldF_t {x : Rat} (h : okQ x) : vldF (decide (x.num < 0)) (limbs x.num.natAbs) false (limbs x.den) = true := by
  unfold vldF
  have h1 := vld_iv h.1
  have h2 := vld_iv (z := (x.den : Int)) (by simpa using h.2)
  rw [show decide ((x.den : Int) < 0) = false by rw [decide_eq_false]; omega, Int.natAbs_natCast] at h2
  have h3 := ln_pos.2 (Nat.pos_of_ne_zero x.den_nz)
  rw [h1, h2, val_limbs, val_limbs, limbs_length, decide_eq_true h3]
  have := x.reduced
  unfold Nat.Coprime at this
  simp [this]
end Go.Av

/-! The digits of a number in a base. -/
namespace Go.Av
def dgs (b : Nat) : Nat → Nat → List Nat
  | 0, _ => []
  | f + 1, n => if n = 0 then [] else n % b :: dgs b f (n / b)
def ds (b n : Nat) : List Nat := dgs b (n.log2 + 1) n
theorem dgs_fuel {b : Nat} (hb : 2 ≤ b) : ∀ (f g n : Nat), n < 2 ^ f → n < 2 ^ g → dgs b f n = dgs b g n
  | 0, g, n, hf, _ => by
    obtain rfl : n = 0 := by simpa using hf
    cases g <;> simp [dgs]
  | f + 1, 0, n, _, hg => by
    obtain rfl : n = 0 := by simpa using hg
    simp [dgs]
  | f + 1, g + 1, n, hf, hg => by
    simp only [dgs]
    by_cases h : n = 0
    · simp [h]
    · rw [if_neg h, if_neg h]
      have h1 : n / b ≤ n / 2 := Nat.div_le_div_left hb (by decide)
      rw [Nat.pow_succ] at hf hg
      rw [dgs_fuel hb f g (n / b) (by omega) (by omega)]
theorem ds_zero (b : Nat) : ds b 0 = [] := by simp [ds, dgs]
theorem ds_pos {b n : Nat} (hb : 2 ≤ b) (h : 0 < n) : ds b n = n % b :: ds b (n / b) := by
  have h1 : n / b ≤ n / 2 := Nat.div_le_div_left hb (by decide)
  have h2 := Nat.lt_log2_self (n := n)
  have h3 := Nat.lt_log2_self (n := n / b)
  unfold ds
  rw [dgs, if_neg (by omega)]
  rw [Nat.pow_succ] at h2
  rw [dgs_fuel hb _ ((n / b).log2 + 1) (n / b) (by omega) h3]
theorem ds_len {b : Nat} (hb : 2 ≤ b) : ∀ (k n : Nat), n < 2 ^ k → (ds b n).length ≤ k
  | 0, n, h => by
    obtain rfl : n = 0 := by simpa using h
    simp [ds_zero]
  | k + 1, n, h => by
    rcases Nat.eq_zero_or_pos n with rfl | hp
    · simp [ds_zero]
    · rw [ds_pos hb hp]
      have h1 : n / b ≤ n / 2 := Nat.div_le_div_left hb (by decide)
      rw [Nat.pow_succ] at h
      have := ds_len hb k (n / b) (by omega)
      simp only [List.length_cons]
      omega
theorem ds_lt {b : Nat} (hb : 2 ≤ b) : ∀ (k n : Nat), n < 2 ^ k → ∀ d ∈ ds b n, d < b
  | 0, n, h, d, hd => by
    obtain rfl : n = 0 := by simpa using h
    simp [ds_zero] at hd
  | k + 1, n, h, d, hd => by
    rcases Nat.eq_zero_or_pos n with rfl | hp
    · simp [ds_zero] at hd
    · rw [ds_pos hb hp] at hd
      have h1 : n / b ≤ n / 2 := Nat.div_le_div_left hb (by decide)
      rw [Nat.pow_succ] at h
      rcases List.mem_cons.1 hd with rfl | hd
      · exact Nat.mod_lt _ (by omega)
      · exact ds_lt hb k (n / b) (by omega) d hd
theorem ds_lt' {b n : Nat} (hb : 2 ≤ b) : ∀ d ∈ ds b n, d < b := ds_lt hb (n.log2 + 1) n Nat.lt_log2_self
theorem ds_ne {b n : Nat} (hb : 2 ≤ b) (h : 0 < n) : 0 < (ds b n).length := by rw [ds_pos hb h]; simp
def dI (b n : Nat) : List Int := (ds b n).map fun (d : Nat) => (d : Int)
theorem dI_zero (b : Nat) : dI b 0 = [] := by simp [dI, ds_zero]
theorem dI_pos {b n : Nat} (hb : 2 ≤ b) (h : 0 < n) : dI b n = ((n % b : Nat) : Int) :: dI b (n / b) := by simp [dI, ds_pos hb h]
theorem dI_len {b n k : Nat} (hb : 2 ≤ b) (h : ln n ≤ k) : (dI b n).length ≤ 32 * k := by
  have := ln_le.1 h
  rw [B_pow] at this
  simpa [dI] using ds_len hb (32 * k) n this
theorem dI_bd {b n : Nat} (hb : 2 ≤ b) {d : Int} (h : d ∈ dI b n) : 0 ≤ d ∧ d < b := by
  simp only [dI, List.mem_map] at h
  obtain ⟨a, ha, rfl⟩ := h
  have := ds_lt' hb a ha
  omega
/-- The number with digits, the most significant first. -/
def hor (b : Nat) (l : List Nat) : Nat := l.foldl (fun m d => m * b + d) 0
theorem hor_snoc (b : Nat) (l : List Nat) (d : Nat) : hor b (l ++ [d]) = hor b l * b + d := by simp [hor]
theorem hor_ds {b : Nat} (hb : 2 ≤ b) : ∀ (k n : Nat), n < 2 ^ k → hor b (ds b n).reverse = n
  | 0, n, h => by
    obtain rfl : n = 0 := by simpa using h
    simp [ds_zero, hor]
  | k + 1, n, h => by
    rcases Nat.eq_zero_or_pos n with rfl | hp
    · simp [ds_zero, hor]
    · have h1 : n / b ≤ n / 2 := Nat.div_le_div_left hb (by decide)
      rw [Nat.pow_succ] at h
      rw [ds_pos hb hp, List.reverse_cons, hor_snoc, hor_ds hb k (n / b) (by omega)]
      rw [Nat.mul_comm]; exact Nat.div_add_mod n b
theorem hor_ds' {b n : Nat} (hb : 2 ≤ b) : hor b (ds b n).reverse = n := hor_ds hb (n.log2 + 1) n Nat.lt_log2_self
theorem ds_top {b : Nat} (hb : 2 ≤ b) : ∀ (k n : Nat), n < 2 ^ k → 0 < n → (ds b n).getLast? ≠ some 0
  | 0, n, h, hp => by
    obtain rfl : n = 0 := by simpa using h
    omega
  | k + 1, n, h, hp => by
    have h1 : n / b ≤ n / 2 := Nat.div_le_div_left hb (by decide)
    rw [Nat.pow_succ] at h
    rw [ds_pos hb hp]
    rcases Nat.eq_zero_or_pos (n / b) with h0 | h0
    · rw [h0, ds_zero]
      have : n < b := (Nat.div_eq_zero_iff_lt (by omega)).1 h0
      simp [Nat.mod_eq_of_lt this]
      omega
    · have := ds_top hb k (n / b) (by omega) h0
      have hl := ds_ne hb h0
      rw [List.getLast?_cons]
      cases hx : (ds b (n / b)).getLast? with
      | none => rw [List.getLast?_eq_none_iff] at hx; rw [hx] at hl; simp at hl
      | some v => rw [hx] at this; simpa using this
theorem ds_top' {b n : Nat} (hb : 2 ≤ b) (h : 0 < n) : (ds b n).getLast? ≠ some 0 := ds_top hb (n.log2 + 1) n Nat.lt_log2_self h

/-! A number times a small one plus another: limb by limb -/
def lc (n b c i : Nat) : Nat := (n % B ^ i * b + c) / B ^ i
theorem lc_zero (n b c : Nat) : lc n b c 0 = c := by simp [lc, Nat.mod_one]
theorem lc_lt {n b c i : Nat} (hb : b < B) (hc : c < B) : lc n b c i < B := by
  unfold lc
  rw [Nat.div_lt_iff_lt_mul (Bp_pos i)]
  have h1 := Nat.mod_lt n (Bp_pos i)
  have h2 : n % B ^ i * b ≤ (B ^ i - 1) * b := Nat.mul_le_mul_right b (by omega)
  have h3 : (B ^ i - 1) * b + b = B ^ i * b := by rw [← Nat.succ_mul]; congr 1; have := Bp_pos i; omega
  have h4 : B ^ i * b ≤ B ^ i * (B - 1) := Nat.mul_le_mul_left _ (by omega)
  have h5 : B ^ i * (B - 1) + B ^ i = B ^ i * B := by rw [← Nat.mul_succ]; congr 1
  have h6 : B ≤ B ^ i ∨ i = 0 := by
    rcases Nat.eq_zero_or_pos i with h | h
    · exact .inr h
    · exact .inl (by simpa using Nat.pow_le_pow_right B_pos h)
  rw [Nat.mul_comm B]
  rcases h6 with h6 | rfl
  · have hbb : b = 0 ∨ 0 < b := by omega
    by_cases hb0 : b = 0
    · subst hb0; simp only [Nat.mul_zero, Nat.zero_add]; exact Nat.lt_of_lt_of_le hc (Nat.le_trans h6 (Nat.le_mul_of_pos_right _ B_pos))
    · by_cases hcb : c < b
      · omega
      · omega
  · simp [Nat.mod_one]; exact hc
theorem lc_step (n b c i : Nat) : dg n i * b + lc n b c i = dg (n * b + c) i + B * lc n b c (i + 1) := by
  have hn := Nat.div_add_mod n (B ^ i)
  have h1 : n * b + c = B ^ i * (n / B ^ i * b) + (n % B ^ i * b + c) := by
    rw [← Nat.mul_assoc, ← Nat.add_assoc, ← Nat.add_mul, hn]
  have h2 : (n * b + c) / B ^ i = n / B ^ i * b + lc n b c i := by
    rw [h1, Nat.mul_add_div (Bp_pos i)]; rfl
  have h3 : n % B ^ (i + 1) * b + c = B ^ i * (dg n i * b) + (n % B ^ i * b + c) := by
    rw [mod_succ, Nat.add_mul, Nat.mul_assoc]; omega
  have h4 : lc n b c (i + 1) = (dg n i * b + lc n b c i) / B := by
    unfold lc
    rw [h3, Nat.pow_succ, ← Nat.div_div_eq_div_mul, Nat.mul_add_div (Bp_pos i)]
  have h5 : dg (n * b + c) i = (dg n i * b + lc n b c i) % B := by
    unfold dg
    rw [h2]
    have h6 : n / B ^ i = B * (n / B ^ i / B) + n / B ^ i % B := (Nat.div_add_mod _ _).symm
    have h7 : n / B ^ i * b + lc n b c i = (n / B ^ i % B * b + lc n b c i) + B * (n / B ^ i / B * b) := by
      conv => lhs; rw [h6]
      rw [Nat.add_mul, Nat.mul_assoc]; omega
    rw [h7, Nat.add_mul_mod_self_left]
  rw [h4, h5]
  exact (Nat.mod_add_div _ _).symm
theorem lc_top {n b c i : Nat} (h : n < B ^ i) (hb : b < B) (hc : c < B) : lc n b c i = dg (n * b + c) i := by
  have h1 := lc_lt (n := n) (i := i) hb hc
  have h2 : lc n b c i = (n * b + c) / B ^ i := by unfold lc; rw [Nat.mod_eq_of_lt h]
  unfold dg
  rw [← h2, Nat.mod_eq_of_lt h1]
theorem lc_fit {n b c i : Nat} (h : n < B ^ i) (hb : b < B) (hc : c < B) : n * b + c < B ^ (i + 1) := by
  have h1 := lc_lt (n := n) (i := i) hb hc
  unfold lc at h1
  rw [Nat.mod_eq_of_lt h] at h1
  rw [Nat.div_lt_iff_lt_mul (Bp_pos i)] at h1
  rw [Nat.pow_succ, Nat.mul_comm (B ^ i)]
  exact h1

/-! A list turned round, step by step -/
def rv (l : List Int) (i : Nat) : List Int := (List.range l.length).map fun p => if p < i ∨ l.length - i ≤ p then l.getD (l.length - 1 - p) 0 else l.getD p 0
theorem rv_length (l : List Int) (i : Nat) : (rv l i).length = l.length := by simp [rv]
theorem rv_get {l : List Int} {i p : Nat} (h : p < l.length) : (rv l i)[p]'(by rw [rv_length]; exact h) = if p < i ∨ l.length - i ≤ p then l.getD (l.length - 1 - p) 0 else l.getD p 0 := by simp [rv]
theorem rv_zero (l : List Int) : rv l 0 = l := by
  refine List.ext_getElem (rv_length _ _) fun p h1 h2 => ?_
  rw [rv_get h2, if_neg (by omega)]
  simp [List.getD, h2]
theorem rv_end {l : List Int} {i : Nat} (h : l.length ≤ 2 * i + 1) (hi : i ≤ l.length) : rv l i = l.reverse := by
  refine List.ext_getElem (by simp [rv_length]) fun p h1 h2 => ?_
  rw [rv_length] at h1
  rw [rv_get h1, List.getElem_reverse]
  have h3 : l.length - 1 - p < l.length := by omega
  by_cases hp : p < i ∨ l.length - i ≤ p
  · rw [if_pos hp]; simp [List.getD, h3]
  · rw [if_neg hp]
    have e : l.length - 1 - p = p := by omega
    simp [List.getD, h1, e]
theorem rv_set {l : List Int} {i : Nat} (h : 2 * i + 1 < l.length) : ((rv l i).set i (l.getD (l.length - 1 - i) 0)).set (l.length - 1 - i) (l.getD i 0) = rv l (i + 1) := by
  refine List.ext_getElem (by simp [rv_length]) fun p h1 h2 => ?_
  rw [rv_length] at h2
  rw [rv_get h2, List.getElem_set, List.getElem_set, rv_get h2]
  by_cases h3 : l.length - 1 - i = p
  · subst h3
    rw [if_pos rfl, if_pos (by omega)]
    congr 1
    omega
  · rw [if_neg h3]
    by_cases h4 : i = p
    · subst h4
      rw [if_pos rfl, if_pos (by omega)]
    · rw [if_neg h4]
      by_cases h5 : p < i ∨ l.length - i ≤ p
      · rw [if_pos h5, if_pos (by omega)]
      · rw [if_neg h5, if_neg (by omega)]
end Go.Av

set_option maxHeartbeats 8000000
set_option exponentiation.threshold 100000
set_option maxRecDepth 100000
set_option linter.unusedVariables false
set_option linter.unusedSimpArgs false
namespace Go.Av
open Go Go.Proofs
/-! FromInt -/
theorem val_two {a b : Int} (ha : 0 ≤ a) (hb : 0 ≤ b) : val [a, b] = a.toNat + B * b.toNat := by
  simp [val]
theorem wf_two {a b : Int} (ha : 0 ≤ a ∧ a < 4294967296) (hb : 0 ≤ b ∧ b < 4294967296) : wf [a, b] := by
  intro x hx
  simp only [List.mem_cons, List.not_mem_nil, or_false] at hx
  rcases hx with rfl | rfl
  · exact ha
  · exact hb
theorem int_neg {n : Int} (h : n < 0) : sgn true (val [(-n) % 4294967296, (-n) / 4294967296]) = n := by
  rw [val_two (by omega) (by omega)]
  unfold sgn B
  rw [if_pos rfl]
  omega
theorem int_pos {n : Int} (h : 0 ≤ n) : sgn false (val [n % 4294967296, n / 4294967296]) = n := by
  rw [val_two (by omega) (by omega)]
  unfold sgn B
  rw [if_neg (by simp)]
  omega
theorem FromInt_c (n : Int) (hn : -9223372036854775808 ≤ n ∧ n ≤ 9223372036854775807) : Con Tryz.prog 46 [I n] (FIV n) := by
  refine con_of Tryz.func46 rfl rfl rfl rfl rfl ?_
  by_cases h : n < 0
  · have e1 : IntKind.wrap .u64 n = n + 18446744073709551616 := by rw [wrap_u64]; omega
    have e2 : IntKind.wrap .u64 (-IntKind.wrap .u64 n) = -n := by rw [e1, wrap_u64]; omega
    have e3 : IntKind.wrap .u32 (IntKind.wrap .u64 (-IntKind.wrap .u64 n)) = (-n) % 4294967296 := by rw [e2, wrap_u32]
    have hm := made_c true [(-n) % 4294967296, (-n) / 4294967296] (wf_two (by omega) (by omega)) (by simp)
    rw [int_neg h] at hm
    repeat (first | refine seq_ ?_ | refine region_ ?_ | refine nil_ ?_ | refine cond_t rfl ?_ | refine stepY (y_move rfl) rfl ?_ | refine stepY (y_assign rfl) rfl ?_ | refine stepY (y_neg rfl) rfl ?_ | (first | refine stepY (y_convn rfl (by simp only [InK, loK, hiK]; omega)) rfl ?_ | refine stepY (y_conv rfl) rfl ?_) | refine stepY (y_build_arr rfl rfl rfl rfl) rfl ?_ | refine stepY (y_slice_bx rfl) rfl ?_ | refine stepY (y_shr32 rfl rfl (by decide)) rfl ?_ | refine stepY (y_cmpT rfl rfl rfl (by omega)) rfl ?_ | refine stepE (e_alloc rfl rfl rfl) ?_ | refine stepE (e_store rfl rfl rfl rfl rfl rfl rfl) ?_)
    rw [e3, e2]
    refine sealb_L (i := 19) [(-n) % 4294967296, (-n) / 4294967296] rfl rfl rfl rfl rfl rfl ?_
    refine call_ Tryz.func62 rfl rfl hm rfl (by repeat (first | exact .refl _ | exact .tag _ _ | apply Les.cons | exact .nil)) rfl ?_
    repeat (first | refine nil_ ?_ | refine ret_ ?_ | refine stepE (e_store rfl rfl rfl rfl rfl rfl rfl) ?_)
    ((apply fin_r); (repeat (first | exact .nil | exact .agg rfl rfl rfl | apply ResL.cons)); (repeat (exact .refl _)))
  · have e3 : IntKind.wrap .u32 n = n % 4294967296 := by rw [wrap_u32]
    have hm := made_c false [n % 4294967296, n / 4294967296] (wf_two (by omega) (by omega)) (by simp)
    rw [int_pos (by omega)] at hm
    repeat (first | refine seq_ ?_ | refine region_ ?_ | refine nil_ ?_ | refine skip_ ?_ | refine cond_f rfl ?_ | refine stepY (y_move rfl) rfl ?_ | refine stepY (y_assign rfl) rfl ?_ | (first | refine stepY (y_convn rfl (by simp only [InK, loK, hiK]; omega)) rfl ?_ | refine stepY (y_conv rfl) rfl ?_) | refine stepY (y_build_arr rfl rfl rfl rfl) rfl ?_ | refine stepY (y_slice_bx rfl) rfl ?_ | refine stepY (y_shr32 rfl rfl (by decide)) rfl ?_ | refine stepY (y_cmpF rfl rfl rfl (by omega)) rfl ?_ | refine stepE (e_alloc rfl rfl rfl) ?_ | refine stepE (e_store rfl rfl rfl rfl rfl rfl rfl) ?_)
    rw [e3]
    refine sealb_L (i := 19) [n % 4294967296, n / 4294967296] rfl rfl rfl rfl rfl rfl ?_
    refine call_ Tryz.func62 rfl rfl hm rfl (by repeat (first | exact .refl _ | exact .tag _ _ | apply Les.cons | exact .nil)) rfl ?_
    repeat (first | refine nil_ ?_ | refine ret_ ?_ | refine stepE (e_store rfl rfl rfl rfl rfl rfl rfl) ?_)
    ((apply fin_r); (repeat (first | exact .nil | exact .agg rfl rfl rfl | apply ResL.cons)); (repeat (exact .refl _)))
theorem RFromInt_c (n : Int) (hn : -9223372036854775808 ≤ n ∧ n ≤ 9223372036854775807) : Con Tryz.prog 39 [I n] (FIV n) := by
  refine con_of Tryz.func39 rfl rfl rfl rfl rfl ?_
  by_cases h : n < 0
  · have hm := signed_c true [(-n) % 4294967296, (-n) / 4294967296] (wf_two (by omega) (by omega)) (by simp)
    rw [int_neg h] at hm
    repeat (first | refine seq_ ?_ | refine region_ ?_ | refine nil_ ?_ | refine cond_t rfl ?_ | refine stepY (y_move rfl) rfl ?_ | refine stepY (y_assign rfl) rfl ?_ | refine stepY (y_negn rfl (by simp only [InK, loK, hiK]; omega)) rfl ?_ | (first | refine stepY (y_convn rfl (by simp only [InK, loK, hiK]; omega)) rfl ?_ | refine stepY (y_conv rfl) rfl ?_) | refine stepY (y_binn rfl rfl rfl (by simp only [InK, loK, hiK]; omega)) rfl ?_ | refine stepY (y_quop rfl rfl (by omega) (by omega) (by simp only [InK, loK, hiK]; omega)) rfl ?_ | refine stepY (y_remp rfl rfl (by omega) (by omega)) rfl ?_ | refine stepY (y_cmpT rfl rfl rfl (by omega)) rfl ?_ | refine stepE (e_alloc rfl rfl rfl) ?_ | refine stepE (e_bs_vi (k := .u32) rfl rfl rfl rfl rfl) ?_)
    rw [show -(n + 1) + 1 = -n by omega]
    refine seal_L (i := 21) (h := 21) rfl rfl rfl rfl ?_
    refine call_ Tryz.func56 rfl rfl hm rfl (by repeat (first | exact .refl _ | exact .tag _ _ | apply Les.cons | exact .nil)) rfl ?_
    repeat (first | refine nil_ ?_ | refine ret_ ?_ | refine stepE (e_store rfl rfl rfl rfl rfl rfl rfl) ?_)
    ((apply fin_r); (repeat (first | exact .nil | exact .agg rfl rfl rfl | apply ResL.cons)); (repeat (exact .refl _)))
  · have hm := signed_c false [n % 4294967296, n / 4294967296] (wf_two (by omega) (by omega)) (by simp)
    rw [int_pos (by omega)] at hm
    repeat (first | refine seq_ ?_ | refine region_ ?_ | refine nil_ ?_ | refine skip_ ?_ | refine cond_f rfl ?_ | refine stepY (y_move rfl) rfl ?_ | refine stepY (y_assign rfl) rfl ?_ | refine stepY (y_convn rfl (by simp only [InK, loK, hiK]; omega)) rfl ?_ | refine stepY (y_quop rfl rfl (by omega) (by omega) (by simp only [InK, loK, hiK]; omega)) rfl ?_ | refine stepY (y_remp rfl rfl (by omega) (by omega)) rfl ?_ | refine stepY (y_cmpF rfl rfl rfl (by omega)) rfl ?_ | refine stepE (e_alloc rfl rfl rfl) ?_ | refine stepE (e_bs_vi (k := .u32) rfl rfl rfl rfl rfl) ?_)
    refine seal_L (i := 21) (h := 21) rfl rfl rfl rfl ?_
    refine call_ Tryz.func56 rfl rfl hm rfl (by repeat (first | exact .refl _ | exact .tag _ _ | apply Les.cons | exact .nil)) rfl ?_
    repeat (first | refine nil_ ?_ | refine ret_ ?_ | refine stepE (e_store rfl rfl rfl rfl rfl rfl rfl) ?_)
    ((apply fin_r); (repeat (first | exact .nil | exact .agg rfl rfl rfl | apply ResL.cons)); (repeat (exact .refl _)))

/-! extended -/
theorem one_wf {d : Nat} (h : d < 4294967296) : wf [(d : Int)] := by
  intro x hx
  simp only [List.mem_cons, List.not_mem_nil, or_false] at hx
  subst hx; omega
theorem one_val (d : Nat) : val [(d : Int)] = d := by simp [val]
/-! longer, short -/
end Go.Av

set_option maxHeartbeats 8000000
set_option exponentiation.threshold 100000
set_option maxRecDepth 100000
set_option linter.unusedVariables false
set_option linter.unusedSimpArgs false
namespace Go.Av
open Go Go.Proofs
/-! fractions: validity -/
abbrev Fn (n : Nat) : PV := .v (.func (.func n) #[] #[])
end Go.Av

set_option maxHeartbeats 8000000
set_option exponentiation.threshold 100000
set_option maxRecDepth 100000
set_option linter.unusedVariables false
set_option linter.unusedSimpArgs false
namespace Go.Av
open Go Go.Proofs
/-! fractions: New, Of, the four operations -/
abbrev GF (p : Bool) (m d : Nat) : PV := .ag [Bo p, M m, Bo false, M d]
def vG (p : Bool) (m d : Nat) : Prop := vldF p (limbs m) false (limbs d) = true
theorem vG_bd {p : Bool} {m d : Nat} (h : vG p m d) : ln m ≤ 512 ∧ ln d ≤ 512 ∧ 0 < d ∧ Nat.gcd m d = 1 ∧ vldB p (limbs m) = true ∧ vldB false (limbs d) = true := by
  unfold vG vldF at h
  simp only [Bool.and_eq_true, decide_eq_true_eq, Bool.not_eq_true', beq_iff_eq, val_limbs, limbs_length] at h
  obtain ⟨⟨⟨⟨h1, h2⟩, h3⟩, h4⟩, h5⟩ := h
  exact ⟨vld_ln h1, vld_ln h2, ln_pos.1 h4, h5, h1, h2⟩
theorem vG_q {x : Rat} (h : okQ x) : vG (decide (x.num < 0)) x.num.natAbs x.den := vldF_t h
theorem mk_self (x : Rat) : mkRat (sgn (decide (x.num < 0)) x.num.natAbs) x.den = x := by
  rw [sgn_self, Rat.mkRat_self]
theorem sgn_mulr (p : Bool) (m n : Nat) : sgn p (m * n) = sgn p m * (n : Int) := by cases p <;> simp [sgn, Int.neg_mul]
theorem New_e (p q : Bool) (l k : List Int) (h : (vldB p l && vldB q k) = false) : Con Tryz.prog 32 [AV p l, AV q k] (.tp [ZF, E_ 1]) := by
  refine con_of Tryz.func32 rfl rfl rfl rfl rfl ?_
  have hv1 := Valid_c p l
  have hv2 := Valid_c q k
  cases h1 : vldB p l with
  | false =>
    rw [h1] at hv1
    repeat (first | refine seq_ ?_ | refine region_ ?_ | refine nil_ ?_ | refine block_ ?_ | refine stepY (y_assign rfl) rfl ?_ | refine stepY (y_loadA rfl rfl rfl) rfl ?_ | refine stepE (e_box rfl rfl rfl rfl rfl rfl) ?_ | refine stepE (e_alloc rfl rfl rfl) ?_)
    refine call_ Tryz.func48 rfl rfl (hv1) rfl (by repeat (first | exact .refl _ | apply Les.cons | exact .nil)) rfl ?_
    repeat (first | refine seq_ ?_ | refine region_ ?_ | refine nil_ ?_ | refine ret_ ?_ | refine cond_t rfl ?_ | refine guard_f rfl rfl rfl rfl ?_ | refine stepY (y_move rfl) rfl ?_ | refine stepY (y_assign rfl) rfl ?_ | refine stepY (y_not rfl) rfl ?_ | refine stepY (y_pick_t rfl rfl) rfl ?_ | refine stepY (y_build rfl rfl rfl) rfl ?_ | refine stepE (e_store rfl rfl rfl rfl rfl rfl rfl) ?_)
    ((apply fin_r); (repeat (first | exact .nil | exact .tmp rfl | exact .agg rfl rfl rfl | apply ResL.cons)); (repeat (first | exact .refl _ | exact .nil _ _ | apply Le.ag | apply Le.tp | apply Les.cons | exact .nil)))
  | true =>
    rw [h1, Bool.true_and] at h
    rw [h1] at hv1
    rw [h] at hv2
    repeat (first | refine seq_ ?_ | refine region_ ?_ | refine nil_ ?_ | refine block_ ?_ | refine stepY (y_assign rfl) rfl ?_ | refine stepY (y_loadA rfl rfl rfl) rfl ?_ | refine stepE (e_box rfl rfl rfl rfl rfl rfl) ?_ | refine stepE (e_alloc rfl rfl rfl) ?_)
    refine call_ Tryz.func48 rfl rfl (hv1) rfl (by repeat (first | exact .refl _ | apply Les.cons | exact .nil)) rfl ?_
    repeat (first | refine guard_t rfl rfl rfl ?_ | refine stepY (y_move rfl) rfl ?_ | refine stepY (y_loadA rfl rfl rfl) rfl ?_ | refine stepY (y_not rfl) rfl ?_)
    refine call_ Tryz.func48 rfl rfl (hv2) rfl (by repeat (first | exact .refl _ | apply Les.cons | exact .nil)) rfl ?_
    repeat (first | refine seq_ ?_ | refine region_ ?_ | refine nil_ ?_ | refine ret_ ?_ | refine cond_t rfl ?_ | refine guard_t rfl rfl rfl ?_ | refine stepY (y_assign rfl) rfl ?_ | refine stepY (y_not rfl) rfl ?_ | refine stepY (y_pick_f rfl rfl) rfl ?_ | refine stepY (y_build rfl rfl rfl) rfl ?_ | refine stepE (e_store rfl rfl rfl rfl rfl rfl rfl) ?_)
    ((apply fin_r); (repeat (first | exact .nil | exact .tmp rfl | exact .agg rfl rfl rfl | apply ResL.cons)); (repeat (first | exact .refl _ | exact .nil _ _ | apply Le.ag | apply Le.tp | apply Les.cons | exact .nil)))
theorem New_z (p q : Bool) (l : List Int) (h1 : vldB p l = true) (h2 : vldB q [] = true) : Con Tryz.prog 32 [AV p l, AV q []] (.tp [ZF, E_ 12]) := by
  refine con_of Tryz.func32 rfl rfl rfl rfl rfl ?_
  have hv1 := Valid_c p l
  have hv2 := Valid_c q []
  rw [h1] at hv1
  rw [h2] at hv2
  repeat (first | refine seq_ ?_ | refine region_ ?_ | refine nil_ ?_ | refine block_ ?_ | refine stepY (y_assign rfl) rfl ?_ | refine stepY (y_loadA rfl rfl rfl) rfl ?_ | refine stepE (e_box rfl rfl rfl rfl rfl rfl) ?_ | refine stepE (e_alloc rfl rfl rfl) ?_)
  refine call_ Tryz.func48 rfl rfl (hv1) rfl (by repeat (first | exact .refl _ | apply Les.cons | exact .nil)) rfl ?_
  repeat (first | refine guard_t rfl rfl rfl ?_ | refine stepY (y_move rfl) rfl ?_ | refine stepY (y_loadA rfl rfl rfl) rfl ?_ | refine stepY (y_not rfl) rfl ?_)
  refine call_ Tryz.func48 rfl rfl (hv2) rfl (by repeat (first | exact .refl _ | apply Les.cons | exact .nil)) rfl ?_
  repeat (first | refine seq_ ?_ | refine region_ ?_ | refine nil_ ?_ | refine ret_ ?_ | refine cond_t rfl ?_ | refine cond_f rfl ?_ | refine guard_t rfl rfl rfl ?_ | refine stepY (y_assign rfl) rfl ?_ | refine stepY (y_load1 rfl rfl rfl) rfl ?_ | refine stepY (y_fieldAddr rfl) rfl ?_ | refine stepY (y_len_si rfl) rfl ?_ | refine stepY (y_not rfl) rfl ?_ | refine stepY (y_pick_f rfl rfl) rfl ?_ | refine stepY (y_build rfl rfl rfl) rfl ?_ | refine stepY (y_bin rfl rfl rfl) rfl ?_ | refine stepE (e_store rfl rfl rfl rfl rfl rfl rfl) ?_)
  ((apply fin_r); (repeat (first | exact .nil | exact .tmp rfl | exact .agg rfl rfl rfl | apply ResL.cons)); (repeat (first | exact .refl _ | exact .nil _ _ | apply Le.ag | apply Le.tp | apply Les.cons | exact .nil)))
theorem New_s (p q : Bool) (m n : Nat) (h1 : vldB p (limbs m) = true) (h2 : vldB q (limbs n) = true) (hn : 0 < n) : Con Tryz.prog 32 [SV p m, SV q n] (resQ (mkRat (sgn (p != q) m) n)) := by
  have hv1 := Valid_c p (limbs m)
  have hv2 := Valid_c q (limbs n)
  rw [h1] at hv1
  rw [h2] at hv2
  have hb1 := vld_ln h1
  have hb2 := vld_ln h2
  have hr := reduced_c p q m n hn (by omega) (by omega)
  have hln : ((limbs n).length : Int) = ln n := by rw [limbs_length]
  have hpn := ln_pos.2 hn
  generalize mkRat (sgn (p != q) m) n = x at *
  by_cases hok : okQ x
  · rw [resQ_ok hok] at *
    refine con_of Tryz.func32 rfl rfl rfl rfl rfl ?_
    repeat (first | refine seq_ ?_ | refine region_ ?_ | refine nil_ ?_ | refine block_ ?_ | refine stepY (y_assign rfl) rfl ?_ | refine stepY (y_loadA rfl rfl rfl) rfl ?_ | refine stepE (e_box rfl rfl rfl rfl rfl rfl) ?_ | refine stepE (e_alloc rfl rfl rfl) ?_)
    refine call_ Tryz.func48 rfl rfl (hv1) rfl (by repeat (first | exact .refl _ | apply Les.cons | exact .nil)) rfl ?_
    repeat (first | refine guard_t rfl rfl rfl ?_ | refine stepY (y_move rfl) rfl ?_ | refine stepY (y_loadA rfl rfl rfl) rfl ?_ | refine stepY (y_not rfl) rfl ?_)
    refine call_ Tryz.func48 rfl rfl (hv2) rfl (by repeat (first | exact .refl _ | apply Les.cons | exact .nil)) rfl ?_
    repeat (first | refine seq_ ?_ | refine region_ ?_ | refine nil_ ?_ | refine skip_ ?_ | refine cond_f rfl ?_ | refine guard_t rfl rfl rfl ?_ | refine stepY (y_assign rfl) rfl ?_ | refine stepY (y_load1 rfl rfl rfl) rfl ?_ | refine stepY (y_fieldAddr rfl) rfl ?_ | refine stepY (y_len_si rfl) rfl ?_ | refine stepY (y_not rfl) rfl ?_ | refine stepY (y_pick_f rfl rfl) rfl ?_ | refine stepY (y_cmpF rfl rfl rfl (by omega)) rfl ?_)
    refine draw_ [(0, true), (2, true), (1, false), (3, false), (4, false), (5, true), (6, true), (7, false), (8, true)] 1000 [2, 3] mixed (by kernel_rfl) rfl ?_
    ((refine dY rfl (y_loadA rfl rfl rfl) rfl rfl rfl rfl ?_); refine dY rfl (y_loadA rfl rfl rfl) rfl rfl rfl rfl ?_)
    refine dC rfl Tryz.func50 rfl rfl (wideOf_c p m) rfl (by repeat (first | exact .refl _ | apply Les.cons | exact .nil)) rfl rfl ?_
    skip
    refine dC rfl Tryz.func50 rfl rfl (wideOf_c q n) rfl (by repeat (first | exact .refl _ | apply Les.cons | exact .nil)) rfl rfl ?_
    skip
    refine dC rfl Tryz.func49 rfl rfl (hr) rfl (by repeat (first | exact .refl _ | apply Les.cons | exact .nil)) rfl rfl ?_
    ((refine dY rfl (y_extract rfl rfl) rfl rfl rfl rfl ?_); refine dY rfl (y_extract rfl rfl) rfl rfl rfl rfl ?_; (refine dE rfl (e_store rfl rfl rfl rfl rfl rfl rfl) rfl rfl ?_); refine dY rfl (y_assign rfl) rfl rfl rfl rfl ?_; refine dEnd ?_)
    repeat (refine ret_ ?_)
    ((apply fin_r); (repeat (first | exact .nil | exact .tmp rfl | exact .agg rfl rfl rfl | apply ResL.cons)); (repeat (exact .refl _)))
  · rw [resQ_no hok] at *
    refine con_of Tryz.func32 rfl rfl rfl rfl rfl ?_
    repeat (first | refine seq_ ?_ | refine region_ ?_ | refine nil_ ?_ | refine block_ ?_ | refine stepY (y_assign rfl) rfl ?_ | refine stepY (y_loadA rfl rfl rfl) rfl ?_ | refine stepE (e_box rfl rfl rfl rfl rfl rfl) ?_ | refine stepE (e_alloc rfl rfl rfl) ?_)
    refine call_ Tryz.func48 rfl rfl (hv1) rfl (by repeat (first | exact .refl _ | apply Les.cons | exact .nil)) rfl ?_
    repeat (first | refine guard_t rfl rfl rfl ?_ | refine stepY (y_move rfl) rfl ?_ | refine stepY (y_loadA rfl rfl rfl) rfl ?_ | refine stepY (y_not rfl) rfl ?_)
    refine call_ Tryz.func48 rfl rfl (hv2) rfl (by repeat (first | exact .refl _ | apply Les.cons | exact .nil)) rfl ?_
    repeat (first | refine seq_ ?_ | refine region_ ?_ | refine nil_ ?_ | refine skip_ ?_ | refine cond_f rfl ?_ | refine guard_t rfl rfl rfl ?_ | refine stepY (y_assign rfl) rfl ?_ | refine stepY (y_load1 rfl rfl rfl) rfl ?_ | refine stepY (y_fieldAddr rfl) rfl ?_ | refine stepY (y_len_si rfl) rfl ?_ | refine stepY (y_not rfl) rfl ?_ | refine stepY (y_pick_f rfl rfl) rfl ?_ | refine stepY (y_cmpF rfl rfl rfl (by omega)) rfl ?_)
    refine draw_ [(0, true), (2, true), (1, false), (3, false), (4, false), (5, true), (6, true), (7, false), (8, true)] 1000 [2, 3] mixed (by kernel_rfl) rfl ?_
    ((refine dY rfl (y_loadA rfl rfl rfl) rfl rfl rfl rfl ?_); refine dY rfl (y_loadA rfl rfl rfl) rfl rfl rfl rfl ?_)
    refine dC rfl Tryz.func50 rfl rfl (wideOf_c p m) rfl (by repeat (first | exact .refl _ | apply Les.cons | exact .nil)) rfl rfl ?_
    skip
    refine dC rfl Tryz.func50 rfl rfl (wideOf_c q n) rfl (by repeat (first | exact .refl _ | apply Les.cons | exact .nil)) rfl rfl ?_
    skip
    refine dC rfl Tryz.func49 rfl rfl (hr) rfl (by repeat (first | exact .refl _ | apply Les.cons | exact .nil)) rfl rfl ?_
    ((refine dY rfl (y_extract rfl rfl) rfl rfl rfl rfl ?_); refine dY rfl (y_extract rfl rfl) rfl rfl rfl rfl ?_; (refine dE rfl (e_store rfl rfl rfl rfl rfl rfl rfl) rfl rfl ?_); refine dY rfl (y_assign rfl) rfl rfl rfl rfl ?_; refine dEnd ?_)
    repeat (refine ret_ ?_)
    ((apply fin_r); (repeat (first | exact .nil | exact .tmp rfl | exact .agg rfl rfl rfl | apply ResL.cons)); (repeat (exact .refl _)))
theorem ln_int {n : Int} (hn : -9223372036854775808 ≤ n ∧ n ≤ 9223372036854775807) : ln n.natAbs ≤ 2 := by
  rw [ln_le]
  have : B ^ 2 = 18446744073709551616 := by decide
  omega
/-- what Of answers -/
def ofR (n d : Int) : PV := if d = 0 then .tp [ZF, E_ 12] else resQ (Rat.divInt n d)
theorem divInt_sgn (n d : Int) (hd : d ≠ 0) : mkRat (sgn (decide (n < 0) != decide (d < 0)) n.natAbs) d.natAbs = Rat.divInt n d := by
  cases d with
  | ofNat d =>
    show mkRat (sgn (decide (n < 0) != decide ((d : Int) < 0)) n.natAbs) d = mkRat n d
    rw [show decide ((d : Int) < 0) = false by rw [decide_eq_false]; omega, Bool.bne_false, sgn_self]
  | negSucc d =>
    show mkRat (sgn (decide (n < 0) != decide (Int.negSucc d < 0)) n.natAbs) (d + 1) = Rat.normalize (-n) (d + 1) (by omega)
    rw [show decide (Int.negSucc d < 0) = true by rw [decide_eq_true]; omega, Bool.bne_true, sgn_not, sgn_self, Rat.normalize_eq_mkRat]
theorem New_i (n d : Int) (l1 : ln n.natAbs ≤ 512) (l2 : ln d.natAbs ≤ 512) : Con Tryz.prog 32 [IV n, IV d] (ofR n d) := by
  unfold ofR
  split
  · next h0 =>
    have hN := New_z (decide (n < 0)) (decide (d < 0)) (limbs n.natAbs) (vld_iv l1) (by rw [h0]; rfl)
    subst h0
    exact hN
  · next h0 =>
    have hN := New_s (decide (n < 0)) (decide (d < 0)) n.natAbs d.natAbs (vld_iv l1) (vld_iv l2) (by omega)
    rwa [divInt_sgn n d h0] at hN
/-- the three forms of an answer -/
theorem ofR_cases (n d : Int) {P : PV → Prop} (h1 : P (.tp [ZF, E_ 12])) (h2 : ∀ x, P (.tp [FQ x, E_ 0])) (h3 : P (.tp [ZF, E_ 4])) : P (ofR n d) := by
  unfold ofR resQ
  split
  · exact h1
  · split
    · exact h2 _
    · exact h3
end Go.Av

set_option maxHeartbeats 8000000
set_option exponentiation.threshold 100000
set_option maxRecDepth 100000
set_option linter.unusedVariables false
set_option linter.unusedSimpArgs false
namespace Go.Av
open Go Go.Proofs

open Go.RowKit
/-! The point of two lines -/
theorem gsgn (x : Int) : sgn (decide (x < 0)) x.natAbs = x := by
  unfold sgn
  by_cases h : x < 0
  · simp only [h, decide_true, if_true]; omega
  · simp only [h, decide_false, Bool.false_eq_true, if_false]; omega
theorem gSub (x y : Int) (hx : ln x.natAbs ≤ 512) (hy : ln y.natAbs ≤ 512) : Con Tryz.prog 47 [IV x, IV y] (resI (x - y)) := by
  have := Sub_s (decide (x < 0)) (decide (y < 0)) x.natAbs y.natAbs (vld_iv hx) (vld_iv hy)
  rwa [gsgn, gsgn] at this
theorem gMul (x y : Int) (hx : ln x.natAbs ≤ 512) (hy : ln y.natAbs ≤ 512) : Con Tryz.prog 45 [IV x, IV y] (resI (x * y)) := by
  have := Mul_s (decide (x < 0)) (decide (y < 0)) x.natAbs y.natAbs (vld_iv hx) (vld_iv hy)
  rwa [gsgn, gsgn] at this
abbrev i6 (x : Int) : Prop := -9223372036854775808 ≤ x ∧ x ≤ 9223372036854775807
theorem prod_bd {x y : Int} (hx : i6 x) (hy : i6 y) : (x * y).natAbs ≤ 85070591730234615865843651857942052864 := by
  have h1 : x.natAbs ≤ 9223372036854775808 := by omega
  have h2 : y.natAbs ≤ 9223372036854775808 := by omega
  have h3 : x.natAbs * y.natAbs ≤ 9223372036854775808 * 9223372036854775808 := Nat.mul_le_mul h1 h2
  rw [Int.natAbs_mul]
  omega
theorem ln4 {n : Nat} (h : n ≤ 170141183460469231731687303715884105728) : ln n ≤ 4 := by
  rw [ln_le]
  have : B ^ 4 = 340282366920938463463374607431768211456 := by decide
  omega
def det (a b c d : Int) : Int := a * d - b * c
theorem det_ln {a b c d : Int} (ha : i6 a) (hb : i6 b) (hc : i6 c) (hd : i6 d) : ln (det a b c d).natAbs ≤ 4 := by
  have h1 := prod_bd ha hd
  have h2 := prod_bd hb hc
  refine ln4 ?_
  unfold det
  omega
theorem minor_c (a b c d : Int) (ha : i6 a) (hb : i6 b) (hc : i6 c) (hd : i6 d) : Con Tryz.prog 31 [I a, I b, I c, I d] (FIV (det a b c d)) := by
  have fa := FromInt_c a ha
  have fb := FromInt_c b hb
  have fc := FromInt_c c hc
  have fd := FromInt_c d hd
  have la := ln_int ha
  have lb := ln_int hb
  have lc := ln_int hc
  have ld := ln_int hd
  have p1 := ln4 (Nat.le_trans (prod_bd ha hd) (by omega))
  have p2 := ln4 (Nat.le_trans (prod_bd hb hc) (by omega))
  have p3 := det_ln ha hb hc hd
  have m1 := gMul a d (by omega) (by omega)
  have m2 := gMul b c (by omega) (by omega)
  have hs := gSub (a * d) (b * c) (by omega) (by omega)
  unfold det at *
  rw [resI_ok (by omega)] at m1 m2 hs
  generalize a * d = x at *
  generalize b * c = y at *
  generalize x - y = z at *
  refine con_of Tryz.func31 rfl rfl rfl rfl rfl ?_
  repeat (first | refine seq_ ?_ | refine region_ ?_ | refine nil_ ?_ | refine stepY (y_move rfl) rfl ?_ | refine stepE (e_alloc rfl rfl rfl) ?_)
  refine call_ Tryz.func46 rfl rfl (fa) rfl (by repeat (first | exact .refl _ | apply Les.cons | exact .nil)) rfl ?_
  repeat (refine stepY (y_move rfl) rfl ?_)
  refine call_ Tryz.func46 rfl rfl (fd) rfl (by repeat (first | exact .refl _ | apply Les.cons | exact .nil)) rfl ?_
  skip
  refine call_ Tryz.func45 rfl rfl (m1) rfl (by repeat (first | exact .refl _ | exact .tag _ _ | apply Le.ag | apply Les.cons | exact .nil)) rfl ?_
  repeat (first | refine seq_ ?_ | refine region_ ?_ | refine nil_ ?_ | refine stepY (y_move rfl) rfl ?_ | refine stepY (y_assign rfl) rfl ?_ | refine stepY (y_extract rfl rfl) rfl ?_ | refine stepE (e_alloc rfl rfl rfl) ?_ | refine stepE (e_store rfl rfl rfl rfl rfl rfl rfl) ?_)
  refine call_ Tryz.func46 rfl rfl (fb) rfl (by repeat (first | exact .refl _ | apply Les.cons | exact .nil)) rfl ?_
  repeat (refine stepY (y_move rfl) rfl ?_)
  refine call_ Tryz.func46 rfl rfl (fc) rfl (by repeat (first | exact .refl _ | apply Les.cons | exact .nil)) rfl ?_
  skip
  refine call_ Tryz.func45 rfl rfl (m2) rfl (by repeat (first | exact .refl _ | exact .tag _ _ | apply Le.ag | apply Les.cons | exact .nil)) rfl ?_
  repeat (first | refine seq_ ?_ | refine region_ ?_ | refine nil_ ?_ | refine stepY (y_move rfl) rfl ?_ | refine stepY (y_assign rfl) rfl ?_ | refine stepY (y_loadA rfl rfl rfl) rfl ?_ | refine stepY (y_extract rfl rfl) rfl ?_ | refine stepE (e_alloc rfl rfl rfl) ?_ | refine stepE (e_store rfl rfl rfl rfl rfl rfl rfl) ?_)
  refine call_ Tryz.func47 rfl rfl (hs) rfl (by repeat (first | exact .refl _ | exact .tag _ _ | apply Le.ag | apply Les.cons | exact .nil)) rfl ?_
  repeat (first | refine seq_ ?_ | refine region_ ?_ | refine nil_ ?_ | refine ret_ ?_ | refine stepY (y_move rfl) rfl ?_ | refine stepY (y_assign rfl) rfl ?_ | refine stepY (y_loadA rfl rfl rfl) rfl ?_ | refine stepY (y_extract rfl rfl) rfl ?_ | refine stepE (e_alloc rfl rfl rfl) ?_ | refine stepE (e_store rfl rfl rfl rfl rfl rfl rfl) ?_)
  ((apply fin_r); (repeat (first | exact .nil | exact .agg rfl rfl rfl | apply ResL.cons)); (repeat (exact .refl _)))
end Go.Av

set_option maxHeartbeats 8000000
set_option exponentiation.threshold 100000
set_option maxRecDepth 100000
set_option linter.unusedVariables false
set_option linter.unusedSimpArgs false
namespace Go.Av
open Go Go.Proofs

open Go.RowKit
abbrev Ln := Int × Int × Int
abbrev lnOk (a : Ln) : Prop := i6 a.1 ∧ i6 a.2.1 ∧ i6 a.2.2
abbrev NL : PV := .v (.slice none 0 0)
abbrev cQ (x : Rat) : List PV := [Bo (decide (x.num < 0)), FM x.num.natAbs, Bo false, FM x.den]
abbrev fpQ (x y : Rat) : PV := .ag [Bo (decide (x.num < 0)), FM x.num.natAbs, Bo false, FM x.den, Bo (decide (y.num < 0)), FM y.num.natAbs, Bo false, FM y.den]
abbrev fpZ : PV := .ag [Bo false, NL, Bo false, NL, Bo false, NL, Bo false, NL]
def detD (a b : Ln) : Int := det a.1 a.2.1 b.1 b.2.1
def detX (a b : Ln) : Int := det a.2.2 a.2.1 b.2.2 b.2.1
def detY (a b : Ln) : Int := det a.1 a.2.2 b.1 b.2.2
def badL (a b : Ln) : Prop := a.1 = 0 ∧ a.2.1 = 0 ∨ b.1 = 0 ∧ b.2.1 = 0
instance (a b : Ln) : Decidable (badL a b) := by unfold badL; infer_instance
def meetR (a b : Ln) : PV := if badL a b then .tp [fpZ, E_ 1] else if detD a b = 0 then .tp [fpZ, E_ 24] else .tp [fpQ (Rat.divInt (detX a b) (detD a b)) (Rat.divInt (detY a b) (detD a b)), E_ 0]
theorem okQ_divB (n d : Int) (hn : ln n.natAbs ≤ 512) (hd : ln d.natAbs ≤ 512) (h0 : d ≠ 0) : okQ (Rat.divInt n d) := by
  rw [← divInt_sgn n d h0]
  have hp : 0 < d.natAbs := by omega
  have h1 := mkQ_num (decide (n < 0) != decide (d < 0)) n.natAbs hp
  have h2 := mkQ_den (decide (n < 0) != decide (d < 0)) n.natAbs hp
  refine ⟨?_, ?_⟩
  · rw [h1, sgn_abs]
    exact Nat.le_trans (ln_mono (Nat.div_le_self _ _)) hn
  · rw [h2]
    exact Nat.le_trans (ln_mono (Nat.div_le_self _ _)) hd
theorem New_q (n d : Int) (hn : ln n.natAbs ≤ 4) (hd : ln d.natAbs ≤ 4) (h0 : d ≠ 0) : Con Tryz.prog 32 [IV n, IV d] (.tp [FQ (Rat.divInt n d), E_ 0]) := by
  have h := New_i n d (by omega) (by omega)
  unfold ofR at h
  rwa [if_neg h0, resQ_ok (okQ_divB n d (by omega) (by omega) h0)] at h
theorem Meet_c (a b : Ln) (ha : lnOk a) (hbo : lnOk b) : Con Tryz.prog 9 [lnP a, lnP b] (meetR a b) := by
  obtain ⟨a1, a2, a3⟩ := ha
  obtain ⟨b1, b2, b3⟩ := hbo
  unfold meetR
  by_cases hb : badL a b
  · rw [if_pos hb]
    refine con_of Tryz.func9 rfl rfl rfl rfl rfl ?_
    by_cases c1 : a.1 = 0 ∧ a.2.1 = 0
    · obtain ⟨c1, c2⟩ := c1
      repeat (first | refine seq_ ?_ | refine region_ ?_ | refine nil_ ?_ | refine ret_ ?_ | refine cond_t rfl ?_ | refine guard_t rfl rfl rfl ?_ | refine guard_f rfl rfl rfl rfl ?_ | refine guard_u rfl rfl rfl ?_ | refine stepY (y_move rfl) rfl ?_ | refine stepY (y_assign rfl) rfl ?_ | refine stepY (y_load1 rfl rfl rfl) rfl ?_ | refine stepY (y_fieldAddr rfl) rfl ?_ | refine stepY (y_pick_t rfl rfl) rfl ?_ | refine stepY (y_build rfl rfl rfl) rfl ?_ | refine stepY (y_cmpT rfl rfl rfl (by omega)) rfl ?_ | refine stepE (e_box rfl rfl rfl rfl rfl rfl) ?_ | refine stepE (e_alloc rfl rfl rfl) ?_ | refine stepE (e_store rfl rfl rfl rfl rfl rfl rfl) ?_)
      ((apply fin_r); (repeat (first | exact .nil | exact .tmp rfl | exact .agg rfl rfl rfl | apply ResL.cons)); (repeat (exact .refl _)))
    · obtain ⟨c3, c4⟩ := hb.resolve_left c1
      by_cases c2 : a.1 = 0
      · have c5 : ¬ a.2.1 = 0 := fun e => c1 ⟨c2, e⟩
        repeat (first | refine seq_ ?_ | refine region_ ?_ | refine nil_ ?_ | refine ret_ ?_ | refine cond_t rfl ?_ | refine guard_t rfl rfl rfl ?_ | refine stepY (y_move rfl) rfl ?_ | refine stepY (y_assign rfl) rfl ?_ | refine stepY (y_load1 rfl rfl rfl) rfl ?_ | refine stepY (y_fieldAddr rfl) rfl ?_ | (first | refine stepY (y_pick_t rfl rfl) rfl ?_ | refine stepY (y_pick_f rfl rfl) rfl ?_) | refine stepY (y_build rfl rfl rfl) rfl ?_ | (first | refine stepY (y_cmpT rfl rfl rfl (by omega)) rfl ?_ | refine stepY (y_cmpF rfl rfl rfl (by omega)) rfl ?_) | refine stepE (e_box rfl rfl rfl rfl rfl rfl) ?_ | refine stepE (e_alloc rfl rfl rfl) ?_ | refine stepE (e_store rfl rfl rfl rfl rfl rfl rfl) ?_)
        ((apply fin_r); (repeat (first | exact .nil | exact .tmp rfl | exact .agg rfl rfl rfl | apply ResL.cons)); (repeat (exact .refl _)))
      · repeat (first | refine seq_ ?_ | refine region_ ?_ | refine nil_ ?_ | refine ret_ ?_ | refine cond_t rfl ?_ | refine guard_t rfl rfl rfl ?_ | refine guard_f rfl rfl rfl rfl ?_ | refine stepY (y_move rfl) rfl ?_ | refine stepY (y_assign rfl) rfl ?_ | refine stepY (y_load1 rfl rfl rfl) rfl ?_ | refine stepY (y_fieldAddr rfl) rfl ?_ | (first | refine stepY (y_pick_t rfl rfl) rfl ?_ | refine stepY (y_pick_f rfl rfl) rfl ?_) | refine stepY (y_build rfl rfl rfl) rfl ?_ | (first | refine stepY (y_cmpT rfl rfl rfl (by omega)) rfl ?_ | refine stepY (y_cmpF rfl rfl rfl (by omega)) rfl ?_) | refine stepE (e_box rfl rfl rfl rfl rfl rfl) ?_ | refine stepE (e_alloc rfl rfl rfl) ?_ | refine stepE (e_store rfl rfl rfl rfl rfl rfl rfl) ?_)
        ((apply fin_r); (repeat (first | exact .nil | exact .tmp rfl | exact .agg rfl rfl rfl | apply ResL.cons)); (repeat (exact .refl _)))
  · rw [if_neg hb]
    have m0 := minor_c a.1 a.2.1 b.1 b.2.1 a1 a2 b1 b2
    have l0 := det_ln a1 a2 b1 b2
    rw [show det a.1 a.2.1 b.1 b.2.1 = detD a b from rfl] at m0 l0
    by_cases h0 : detD a b = 0
    · rw [if_pos h0]
      rw [h0] at m0
      refine con_of Tryz.func9 rfl rfl rfl rfl rfl ?_
      by_cases c1 : a.1 = 0
      · have c2 : ¬ a.2.1 = 0 := fun e => hb (.inl ⟨c1, e⟩)
        by_cases c3 : b.1 = 0
        · have c4 : ¬ b.2.1 = 0 := fun e => hb (.inr ⟨c3, e⟩)
          repeat (first | refine seq_ ?_ | refine region_ ?_ | refine nil_ ?_ | refine skip_ ?_ | refine cond_f rfl ?_ | refine guard_t rfl rfl rfl ?_ | refine stepY (y_move rfl) rfl ?_ | refine stepY (y_assign rfl) rfl ?_ | refine stepY (y_load1 rfl rfl rfl) rfl ?_ | refine stepY (y_fieldAddr rfl) rfl ?_ | (first | refine stepY (y_pick_t rfl rfl) rfl ?_ | refine stepY (y_pick_f rfl rfl) rfl ?_) | (first | refine stepY (y_cmpT rfl rfl rfl (by omega)) rfl ?_ | refine stepY (y_cmpF rfl rfl rfl (by omega)) rfl ?_) | refine stepE (e_box rfl rfl rfl rfl rfl rfl) ?_ | refine stepE (e_alloc rfl rfl rfl) ?_)
          refine call_ Tryz.func31 rfl rfl (m0) rfl (by repeat (first | exact .refl _ | apply Les.cons | exact .nil)) rfl ?_
          repeat (first | refine seq_ ?_ | refine region_ ?_ | refine nil_ ?_ | refine ret_ ?_ | refine cond_t rfl ?_ | refine stepY (y_assign rfl) rfl ?_ | refine stepY (y_load1 rfl rfl rfl) rfl ?_ | refine stepY (y_fieldAddr rfl) rfl ?_ | refine stepY (y_len_si rfl) rfl ?_ | refine stepY (y_build rfl rfl rfl) rfl ?_ | refine stepY (y_bin rfl rfl rfl) rfl ?_ | refine stepE (e_alloc rfl rfl rfl) ?_ | refine stepE (e_store rfl rfl rfl rfl rfl rfl rfl) ?_)
          ((apply fin_r); (repeat (first | exact .nil | exact .tmp rfl | exact .agg rfl rfl rfl | apply ResL.cons)); (repeat (exact .refl _)))
        · repeat (first | refine seq_ ?_ | refine region_ ?_ | refine nil_ ?_ | refine skip_ ?_ | refine cond_f rfl ?_ | refine guard_t rfl rfl rfl ?_ | refine guard_f rfl rfl rfl rfl ?_ | refine stepY (y_move rfl) rfl ?_ | refine stepY (y_assign rfl) rfl ?_ | refine stepY (y_load1 rfl rfl rfl) rfl ?_ | refine stepY (y_fieldAddr rfl) rfl ?_ | (first | refine stepY (y_pick_t rfl rfl) rfl ?_ | refine stepY (y_pick_f rfl rfl) rfl ?_) | (first | refine stepY (y_cmpT rfl rfl rfl (by omega)) rfl ?_ | refine stepY (y_cmpF rfl rfl rfl (by omega)) rfl ?_) | refine stepE (e_box rfl rfl rfl rfl rfl rfl) ?_ | refine stepE (e_alloc rfl rfl rfl) ?_)
          refine call_ Tryz.func31 rfl rfl (m0) rfl (by repeat (first | exact .refl _ | apply Les.cons | exact .nil)) rfl ?_
          repeat (first | refine seq_ ?_ | refine region_ ?_ | refine nil_ ?_ | refine ret_ ?_ | refine cond_t rfl ?_ | refine stepY (y_assign rfl) rfl ?_ | refine stepY (y_load1 rfl rfl rfl) rfl ?_ | refine stepY (y_fieldAddr rfl) rfl ?_ | refine stepY (y_len_si rfl) rfl ?_ | refine stepY (y_build rfl rfl rfl) rfl ?_ | refine stepY (y_bin rfl rfl rfl) rfl ?_ | refine stepE (e_alloc rfl rfl rfl) ?_ | refine stepE (e_store rfl rfl rfl rfl rfl rfl rfl) ?_)
          ((apply fin_r); (repeat (first | exact .nil | exact .tmp rfl | exact .agg rfl rfl rfl | apply ResL.cons)); (repeat (exact .refl _)))
      · by_cases c3 : b.1 = 0
        · have c4 : ¬ b.2.1 = 0 := fun e => hb (.inr ⟨c3, e⟩)
          repeat (first | refine seq_ ?_ | refine region_ ?_ | refine nil_ ?_ | refine skip_ ?_ | refine cond_f rfl ?_ | refine guard_t rfl rfl rfl ?_ | refine guard_f rfl rfl rfl rfl ?_ | refine stepY (y_move rfl) rfl ?_ | refine stepY (y_assign rfl) rfl ?_ | refine stepY (y_load1 rfl rfl rfl) rfl ?_ | refine stepY (y_fieldAddr rfl) rfl ?_ | (first | refine stepY (y_pick_t rfl rfl) rfl ?_ | refine stepY (y_pick_f rfl rfl) rfl ?_) | (first | refine stepY (y_cmpT rfl rfl rfl (by omega)) rfl ?_ | refine stepY (y_cmpF rfl rfl rfl (by omega)) rfl ?_) | refine stepE (e_box rfl rfl rfl rfl rfl rfl) ?_ | refine stepE (e_alloc rfl rfl rfl) ?_)
          refine call_ Tryz.func31 rfl rfl (m0) rfl (by repeat (first | exact .refl _ | apply Les.cons | exact .nil)) rfl ?_
          repeat (first | refine seq_ ?_ | refine region_ ?_ | refine nil_ ?_ | refine ret_ ?_ | refine cond_t rfl ?_ | refine stepY (y_assign rfl) rfl ?_ | refine stepY (y_load1 rfl rfl rfl) rfl ?_ | refine stepY (y_fieldAddr rfl) rfl ?_ | refine stepY (y_len_si rfl) rfl ?_ | refine stepY (y_build rfl rfl rfl) rfl ?_ | refine stepY (y_bin rfl rfl rfl) rfl ?_ | refine stepE (e_alloc rfl rfl rfl) ?_ | refine stepE (e_store rfl rfl rfl rfl rfl rfl rfl) ?_)
          ((apply fin_r); (repeat (first | exact .nil | exact .tmp rfl | exact .agg rfl rfl rfl | apply ResL.cons)); (repeat (exact .refl _)))
        · repeat (first | refine seq_ ?_ | refine region_ ?_ | refine nil_ ?_ | refine skip_ ?_ | refine cond_f rfl ?_ | refine guard_t rfl rfl rfl ?_ | refine guard_f rfl rfl rfl rfl ?_ | refine stepY (y_move rfl) rfl ?_ | refine stepY (y_assign rfl) rfl ?_ | refine stepY (y_load1 rfl rfl rfl) rfl ?_ | refine stepY (y_fieldAddr rfl) rfl ?_ | refine stepY (y_pick_f rfl rfl) rfl ?_ | refine stepY (y_cmpF rfl rfl rfl (by omega)) rfl ?_ | refine stepE (e_box rfl rfl rfl rfl rfl rfl) ?_ | refine stepE (e_alloc rfl rfl rfl) ?_)
          refine call_ Tryz.func31 rfl rfl (m0) rfl (by repeat (first | exact .refl _ | apply Les.cons | exact .nil)) rfl ?_
          repeat (first | refine seq_ ?_ | refine region_ ?_ | refine nil_ ?_ | refine ret_ ?_ | refine cond_t rfl ?_ | refine stepY (y_assign rfl) rfl ?_ | refine stepY (y_load1 rfl rfl rfl) rfl ?_ | refine stepY (y_fieldAddr rfl) rfl ?_ | refine stepY (y_len_si rfl) rfl ?_ | refine stepY (y_build rfl rfl rfl) rfl ?_ | refine stepY (y_bin rfl rfl rfl) rfl ?_ | refine stepE (e_alloc rfl rfl rfl) ?_ | refine stepE (e_store rfl rfl rfl rfl rfl rfl rfl) ?_)
          ((apply fin_r); (repeat (first | exact .nil | exact .tmp rfl | exact .agg rfl rfl rfl | apply ResL.cons)); (repeat (exact .refl _)))
    · rw [if_neg h0]
      have hl : 0 < ((limbs (detD a b).natAbs).length : Int) := by rw [limbs_length]; have := ln_pos.2 (show 0 < (detD a b).natAbs by omega); omega
      have m1 := minor_c a.2.2 a.2.1 b.2.2 b.2.1 a3 a2 b3 b2
      have l1 := det_ln a3 a2 b3 b2
      have m2 := minor_c a.1 a.2.2 b.1 b.2.2 a1 a3 b1 b3
      have l2 := det_ln a1 a3 b1 b3
      rw [show det a.2.2 a.2.1 b.2.2 b.2.1 = detX a b from rfl] at m1 l1
      rw [show det a.1 a.2.2 b.1 b.2.2 = detY a b from rfl] at m2 l2
      have n1 := New_q _ _ l1 l0 h0
      have n2 := New_q _ _ l2 l0 h0
      generalize Rat.divInt (detX a b) (detD a b) = x at *
      generalize Rat.divInt (detY a b) (detD a b) = y at *
      refine con_of Tryz.func9 rfl rfl rfl rfl rfl ?_
      by_cases c1 : a.1 = 0
      · have c2 : ¬ a.2.1 = 0 := fun e => hb (.inl ⟨c1, e⟩)
        by_cases c3 : b.1 = 0
        · have c4 : ¬ b.2.1 = 0 := fun e => hb (.inr ⟨c3, e⟩)
          repeat (first | refine seq_ ?_ | refine region_ ?_ | refine nil_ ?_ | refine skip_ ?_ | refine cond_f rfl ?_ | refine guard_t rfl rfl rfl ?_ | refine stepY (y_move rfl) rfl ?_ | refine stepY (y_assign rfl) rfl ?_ | refine stepY (y_load1 rfl rfl rfl) rfl ?_ | refine stepY (y_fieldAddr rfl) rfl ?_ | (first | refine stepY (y_pick_t rfl rfl) rfl ?_ | refine stepY (y_pick_f rfl rfl) rfl ?_) | (first | refine stepY (y_cmpT rfl rfl rfl (by omega)) rfl ?_ | refine stepY (y_cmpF rfl rfl rfl (by omega)) rfl ?_) | refine stepE (e_box rfl rfl rfl rfl rfl rfl) ?_ | refine stepE (e_alloc rfl rfl rfl) ?_)
          refine call_ Tryz.func31 rfl rfl (m0) rfl (by repeat (first | exact .refl _ | apply Les.cons | exact .nil)) rfl ?_
          repeat (first | refine seq_ ?_ | refine region_ ?_ | refine nil_ ?_ | refine skip_ ?_ | refine cond_f rfl ?_ | refine stepY (y_load1 rfl rfl rfl) rfl ?_ | refine stepY (y_fieldAddr rfl) rfl ?_ | refine stepY (y_len_si rfl) rfl ?_ | refine stepY (y_cmpF rfl rfl rfl (by omega)) rfl ?_ | refine stepE (e_alloc rfl rfl rfl) ?_ | refine stepE (e_store rfl rfl rfl rfl rfl rfl rfl) ?_)
          refine cut_ [(2, .ptr 2 0), (3, .ptr 3 0), (4, .ptr 4 0), (5, .p (E_ 0)), (6, .ptr 6 0), (7, .ptr 7 0), (8, .p (E_ 0))] [(2, .bx [I a.1, I a.2.1, I a.2.2]), (3, .bx [I b.1, I b.2.1, I b.2.2]), (4, .bx [Bo false, NL, Bo false, NL, Bo false, NL, Bo false, NL]), (6, .bx [Bo (decide (detD a b < 0)), FM (detD a b).natAbs]), (7, .bx (cQ x))] ?_ ?_
          · refine xDraw 1000 [2, 3, 4, 6] mixed ?_
            refine xY (i := 0) (op := .fieldAddr _ _ _) rfl (by (exact y_fieldAddr rfl)) rfl rfl rfl rfl (by kernel_rfl) ?_
            refine xY (i := 1) (op := .load _ _) rfl (by (exact y_load1 rfl rfl rfl)) rfl rfl rfl rfl (by kernel_rfl) ?_
            refine xY (i := 2) (op := .fieldAddr _ _ _) rfl (by (exact y_fieldAddr rfl)) rfl rfl rfl rfl (by kernel_rfl) ?_
            refine xY (i := 3) (op := .load _ _) rfl (by (exact y_load1 rfl rfl rfl)) rfl rfl rfl rfl (by kernel_rfl) ?_
            refine xY (i := 4) (op := .fieldAddr _ _ _) rfl (by (exact y_fieldAddr rfl)) rfl rfl rfl rfl (by kernel_rfl) ?_
            refine xY (i := 5) (op := .load _ _) rfl (by (exact y_load1 rfl rfl rfl)) rfl rfl rfl rfl (by kernel_rfl) ?_
            refine xY (i := 6) (op := .fieldAddr _ _ _) rfl (by (exact y_fieldAddr rfl)) rfl rfl rfl rfl (by kernel_rfl) ?_
            refine xY (i := 7) (op := .load _ _) rfl (by (exact y_load1 rfl rfl rfl)) rfl rfl rfl rfl (by kernel_rfl) ?_
            refine xY (i := 9) (op := .load _ _) rfl (by (exact y_loadA rfl rfl rfl)) rfl rfl rfl rfl (by kernel_rfl) ?_
            refine xAll (rs := [8, 14]) (by kernel_rfl) rfl ⟨?_, ?_, trivial⟩
            · (refine iC rfl Tryz.func31 rfl rfl (m1) rfl (by repeat (first | exact .refl _ | apply Les.cons | exact .nil)) rfl rfl ?_)
              refine xAll (rs := [10, 14]) (by kernel_rfl) rfl ⟨?_, ?_, trivial⟩
              · (refine iC rfl Tryz.func32 rfl rfl (n1) rfl (by repeat (first | exact .refl _ | exact .tag _ _ | apply Le.ag | apply Les.cons | exact .nil)) rfl rfl ?_)
                refine xY (i := 11) (op := .move _) rfl (by (exact y_move rfl)) rfl rfl rfl rfl (by kernel_rfl) ?_
                refine xY (i := 12) (op := .extract _ _) rfl (by (exact y_extract rfl rfl)) rfl rfl rfl rfl (by kernel_rfl) ?_
                refine xY (i := 13) (op := .extract _ _) rfl (by (exact y_extract rfl rfl)) rfl rfl rfl rfl (by kernel_rfl) ?_
                refine xAll (rs := [14]) (by kernel_rfl) rfl ⟨?_, trivial⟩
                · (refine iE rfl (e_alloc rfl rfl rfl) rfl rfl ?_)
                  refine xAll (rs := [15]) (by kernel_rfl) rfl ⟨?_, trivial⟩
                  · (refine iE rfl (e_store rfl rfl rfl rfl rfl rfl rfl) rfl rfl ?_)
                    refine xY (i := 16) (op := .assign _) rfl (by (exact y_assign rfl)) rfl rfl rfl rfl (by kernel_rfl) ?_
                    exact xEnd (by kernel_rfl) ⟨rfl, by (repeat (first | exact sub_nil | refine sub_cons rfl ?_)), by (repeat (first | exact subH_nil | refine subH_cons rfl ?_))⟩
              · (refine iE rfl (e_alloc rfl rfl rfl) rfl rfl ?_)
                refine xAll (rs := [10]) (by kernel_rfl) rfl ⟨?_, trivial⟩
                · (refine iC rfl Tryz.func32 rfl rfl (n1) rfl (by repeat (first | exact .refl _ | exact .tag _ _ | apply Le.ag | apply Les.cons | exact .nil)) rfl rfl ?_)
                  refine xY (i := 11) (op := .move _) rfl (by (exact y_move rfl)) rfl rfl rfl rfl (by kernel_rfl) ?_
                  refine xY (i := 12) (op := .extract _ _) rfl (by (exact y_extract rfl rfl)) rfl rfl rfl rfl (by kernel_rfl) ?_
                  refine xY (i := 13) (op := .extract _ _) rfl (by (exact y_extract rfl rfl)) rfl rfl rfl rfl (by kernel_rfl) ?_
                  refine xAll (rs := [15]) (by kernel_rfl) rfl ⟨?_, trivial⟩
                  · (refine iE rfl (e_store rfl rfl rfl rfl rfl rfl rfl) rfl rfl ?_)
                    refine xY (i := 16) (op := .assign _) rfl (by (exact y_assign rfl)) rfl rfl rfl rfl (by kernel_rfl) ?_
                    exact xEnd (by kernel_rfl) ⟨rfl, by (repeat (first | exact sub_nil | refine sub_cons rfl ?_)), by (repeat (first | exact subH_nil | refine subH_cons rfl ?_))⟩
            · (refine iE rfl (e_alloc rfl rfl rfl) rfl rfl ?_)
              refine xAll (rs := [8]) (by kernel_rfl) rfl ⟨?_, trivial⟩
              · (refine iC rfl Tryz.func31 rfl rfl (m1) rfl (by repeat (first | exact .refl _ | apply Les.cons | exact .nil)) rfl rfl ?_)
                refine xAll (rs := [10]) (by kernel_rfl) rfl ⟨?_, trivial⟩
                · (refine iC rfl Tryz.func32 rfl rfl (n1) rfl (by repeat (first | exact .refl _ | exact .tag _ _ | apply Le.ag | apply Les.cons | exact .nil)) rfl rfl ?_)
                  refine xY (i := 11) (op := .move _) rfl (by (exact y_move rfl)) rfl rfl rfl rfl (by kernel_rfl) ?_
                  refine xY (i := 12) (op := .extract _ _) rfl (by (exact y_extract rfl rfl)) rfl rfl rfl rfl (by kernel_rfl) ?_
                  refine xY (i := 13) (op := .extract _ _) rfl (by (exact y_extract rfl rfl)) rfl rfl rfl rfl (by kernel_rfl) ?_
                  refine xAll (rs := [15]) (by kernel_rfl) rfl ⟨?_, trivial⟩
                  · (refine iE rfl (e_store rfl rfl rfl rfl rfl rfl rfl) rfl rfl ?_)
                    refine xY (i := 16) (op := .assign _) rfl (by (exact y_assign rfl)) rfl rfl rfl rfl (by kernel_rfl) ?_
                    exact xEnd (by kernel_rfl) ⟨rfl, by (repeat (first | exact sub_nil | refine sub_cons rfl ?_)), by (repeat (first | exact subH_nil | refine subH_cons rfl ?_))⟩
          repeat (first | refine seq_ ?_ | refine region_ ?_ | refine nil_ ?_ | refine skip_ ?_ | refine cond_f rfl ?_ | refine stepY (y_move rfl) rfl ?_ | refine stepY (y_cmpF rfl rfl rfl (by omega)) rfl ?_)
          refine cut_ [(4, .ptr 4 0), (5, .p (E_ 0)), (7, .ptr 7 0), (8, .p (E_ 0)), (9, .ptr 9 0)] [(4, .bx [Bo false, NL, Bo false, NL, Bo false, NL, Bo false, NL]), (7, .bx (cQ x)), (9, .bx (cQ y))] ?_ ?_
          · refine xDraw 1000 [2, 3, 4, 6, 7] mixed ?_
            refine xY (i := 0) (op := .fieldAddr _ _ _) rfl (by (exact y_fieldAddr rfl)) rfl rfl rfl rfl (by kernel_rfl) ?_
            refine xY (i := 1) (op := .load _ _) rfl (by (exact y_load1 rfl rfl rfl)) rfl rfl rfl rfl (by kernel_rfl) ?_
            refine xY (i := 2) (op := .fieldAddr _ _ _) rfl (by (exact y_fieldAddr rfl)) rfl rfl rfl rfl (by kernel_rfl) ?_
            refine xY (i := 3) (op := .load _ _) rfl (by (exact y_load1 rfl rfl rfl)) rfl rfl rfl rfl (by kernel_rfl) ?_
            refine xY (i := 4) (op := .fieldAddr _ _ _) rfl (by (exact y_fieldAddr rfl)) rfl rfl rfl rfl (by kernel_rfl) ?_
            refine xY (i := 5) (op := .load _ _) rfl (by (exact y_load1 rfl rfl rfl)) rfl rfl rfl rfl (by kernel_rfl) ?_
            refine xY (i := 6) (op := .fieldAddr _ _ _) rfl (by (exact y_fieldAddr rfl)) rfl rfl rfl rfl (by kernel_rfl) ?_
            refine xY (i := 7) (op := .load _ _) rfl (by (exact y_load1 rfl rfl rfl)) rfl rfl rfl rfl (by kernel_rfl) ?_
            refine xY (i := 9) (op := .load _ _) rfl (by (exact y_loadA rfl rfl rfl)) rfl rfl rfl rfl (by kernel_rfl) ?_
            refine xAll (rs := [8, 14]) (by kernel_rfl) rfl ⟨?_, ?_, trivial⟩
            · (refine iC rfl Tryz.func31 rfl rfl (m2) rfl (by repeat (first | exact .refl _ | apply Les.cons | exact .nil)) rfl rfl ?_)
              refine xAll (rs := [10, 14]) (by kernel_rfl) rfl ⟨?_, ?_, trivial⟩
              · (refine iC rfl Tryz.func32 rfl rfl (n2) rfl (by repeat (first | exact .refl _ | exact .tag _ _ | apply Le.ag | apply Les.cons | exact .nil)) rfl rfl ?_)
                refine xY (i := 11) (op := .move _) rfl (by (exact y_move rfl)) rfl rfl rfl rfl (by kernel_rfl) ?_
                refine xY (i := 12) (op := .extract _ _) rfl (by (exact y_extract rfl rfl)) rfl rfl rfl rfl (by kernel_rfl) ?_
                refine xY (i := 13) (op := .extract _ _) rfl (by (exact y_extract rfl rfl)) rfl rfl rfl rfl (by kernel_rfl) ?_
                refine xAll (rs := [14]) (by kernel_rfl) rfl ⟨?_, trivial⟩
                · (refine iE rfl (e_alloc rfl rfl rfl) rfl rfl ?_)
                  refine xAll (rs := [15]) (by kernel_rfl) rfl ⟨?_, trivial⟩
                  · (refine iE rfl (e_store rfl rfl rfl rfl rfl rfl rfl) rfl rfl ?_)
                    refine xY (i := 16) (op := .assign _) rfl (by (exact y_assign rfl)) rfl rfl rfl rfl (by kernel_rfl) ?_
                    exact xEnd (by kernel_rfl) ⟨rfl, by (repeat (first | exact sub_nil | refine sub_cons rfl ?_)), by (repeat (first | exact subH_nil | refine subH_cons rfl ?_))⟩
              · (refine iE rfl (e_alloc rfl rfl rfl) rfl rfl ?_)
                refine xAll (rs := [10]) (by kernel_rfl) rfl ⟨?_, trivial⟩
                · (refine iC rfl Tryz.func32 rfl rfl (n2) rfl (by repeat (first | exact .refl _ | exact .tag _ _ | apply Le.ag | apply Les.cons | exact .nil)) rfl rfl ?_)
                  refine xY (i := 11) (op := .move _) rfl (by (exact y_move rfl)) rfl rfl rfl rfl (by kernel_rfl) ?_
                  refine xY (i := 12) (op := .extract _ _) rfl (by (exact y_extract rfl rfl)) rfl rfl rfl rfl (by kernel_rfl) ?_
                  refine xY (i := 13) (op := .extract _ _) rfl (by (exact y_extract rfl rfl)) rfl rfl rfl rfl (by kernel_rfl) ?_
                  refine xAll (rs := [15]) (by kernel_rfl) rfl ⟨?_, trivial⟩
                  · (refine iE rfl (e_store rfl rfl rfl rfl rfl rfl rfl) rfl rfl ?_)
                    refine xY (i := 16) (op := .assign _) rfl (by (exact y_assign rfl)) rfl rfl rfl rfl (by kernel_rfl) ?_
                    exact xEnd (by kernel_rfl) ⟨rfl, by (repeat (first | exact sub_nil | refine sub_cons rfl ?_)), by (repeat (first | exact subH_nil | refine subH_cons rfl ?_))⟩
            · (refine iE rfl (e_alloc rfl rfl rfl) rfl rfl ?_)
              refine xAll (rs := [8]) (by kernel_rfl) rfl ⟨?_, trivial⟩
              · (refine iC rfl Tryz.func31 rfl rfl (m2) rfl (by repeat (first | exact .refl _ | apply Les.cons | exact .nil)) rfl rfl ?_)
                refine xAll (rs := [10]) (by kernel_rfl) rfl ⟨?_, trivial⟩
                · (refine iC rfl Tryz.func32 rfl rfl (n2) rfl (by repeat (first | exact .refl _ | exact .tag _ _ | apply Le.ag | apply Les.cons | exact .nil)) rfl rfl ?_)
                  refine xY (i := 11) (op := .move _) rfl (by (exact y_move rfl)) rfl rfl rfl rfl (by kernel_rfl) ?_
                  refine xY (i := 12) (op := .extract _ _) rfl (by (exact y_extract rfl rfl)) rfl rfl rfl rfl (by kernel_rfl) ?_
                  refine xY (i := 13) (op := .extract _ _) rfl (by (exact y_extract rfl rfl)) rfl rfl rfl rfl (by kernel_rfl) ?_
                  refine xAll (rs := [15]) (by kernel_rfl) rfl ⟨?_, trivial⟩
                  · (refine iE rfl (e_store rfl rfl rfl rfl rfl rfl rfl) rfl rfl ?_)
                    refine xY (i := 16) (op := .assign _) rfl (by (exact y_assign rfl)) rfl rfl rfl rfl (by kernel_rfl) ?_
                    exact xEnd (by kernel_rfl) ⟨rfl, by (repeat (first | exact sub_nil | refine sub_cons rfl ?_)), by (repeat (first | exact subH_nil | refine subH_cons rfl ?_))⟩
          repeat (first | refine seq_ ?_ | refine region_ ?_ | refine nil_ ?_ | refine skip_ ?_ | refine ret_ ?_ | refine cond_f rfl ?_ | refine stepY (y_move rfl) rfl ?_ | refine stepY (y_assign rfl) rfl ?_ | refine stepY (y_loadA rfl rfl rfl) rfl ?_ | refine stepY (y_build rfl rfl rfl) rfl ?_ | refine stepY (y_cmpF rfl rfl rfl (by omega)) rfl ?_ | refine stepE (e_store rfl rfl rfl rfl rfl rfl rfl) ?_)
          ((apply fin_r); (repeat (first | exact .nil | exact .tmp rfl | exact .agg rfl rfl rfl | apply ResL.cons)); (repeat (exact .refl _)))
        · repeat (first | refine seq_ ?_ | refine region_ ?_ | refine nil_ ?_ | refine skip_ ?_ | refine cond_f rfl ?_ | refine guard_t rfl rfl rfl ?_ | refine guard_f rfl rfl rfl rfl ?_ | refine stepY (y_move rfl) rfl ?_ | refine stepY (y_assign rfl) rfl ?_ | refine stepY (y_load1 rfl rfl rfl) rfl ?_ | refine stepY (y_fieldAddr rfl) rfl ?_ | (first | refine stepY (y_pick_t rfl rfl) rfl ?_ | refine stepY (y_pick_f rfl rfl) rfl ?_) | (first | refine stepY (y_cmpT rfl rfl rfl (by omega)) rfl ?_ | refine stepY (y_cmpF rfl rfl rfl (by omega)) rfl ?_) | refine stepE (e_box rfl rfl rfl rfl rfl rfl) ?_ | refine stepE (e_alloc rfl rfl rfl) ?_)
          refine call_ Tryz.func31 rfl rfl (m0) rfl (by repeat (first | exact .refl _ | apply Les.cons | exact .nil)) rfl ?_
          repeat (first | refine seq_ ?_ | refine region_ ?_ | refine nil_ ?_ | refine skip_ ?_ | refine cond_f rfl ?_ | refine stepY (y_load1 rfl rfl rfl) rfl ?_ | refine stepY (y_fieldAddr rfl) rfl ?_ | refine stepY (y_len_si rfl) rfl ?_ | refine stepY (y_cmpF rfl rfl rfl (by omega)) rfl ?_ | refine stepE (e_alloc rfl rfl rfl) ?_ | refine stepE (e_store rfl rfl rfl rfl rfl rfl rfl) ?_)
          refine cut_ [(2, .ptr 2 0), (3, .ptr 3 0), (4, .ptr 4 0), (5, .p (E_ 0)), (6, .ptr 6 0), (7, .ptr 7 0), (8, .p (E_ 0))] [(2, .bx [I a.1, I a.2.1, I a.2.2]), (3, .bx [I b.1, I b.2.1, I b.2.2]), (4, .bx [Bo false, NL, Bo false, NL, Bo false, NL, Bo false, NL]), (6, .bx [Bo (decide (detD a b < 0)), FM (detD a b).natAbs]), (7, .bx (cQ x))] ?_ ?_
          · refine xDraw 1000 [2, 3, 4, 6] mixed ?_
            refine xY (i := 0) (op := .fieldAddr _ _ _) rfl (by (exact y_fieldAddr rfl)) rfl rfl rfl rfl (by kernel_rfl) ?_
            refine xY (i := 1) (op := .load _ _) rfl (by (exact y_load1 rfl rfl rfl)) rfl rfl rfl rfl (by kernel_rfl) ?_
            refine xY (i := 2) (op := .fieldAddr _ _ _) rfl (by (exact y_fieldAddr rfl)) rfl rfl rfl rfl (by kernel_rfl) ?_
            refine xY (i := 3) (op := .load _ _) rfl (by (exact y_load1 rfl rfl rfl)) rfl rfl rfl rfl (by kernel_rfl) ?_
            refine xY (i := 4) (op := .fieldAddr _ _ _) rfl (by (exact y_fieldAddr rfl)) rfl rfl rfl rfl (by kernel_rfl) ?_
            refine xY (i := 5) (op := .load _ _) rfl (by (exact y_load1 rfl rfl rfl)) rfl rfl rfl rfl (by kernel_rfl) ?_
            refine xY (i := 6) (op := .fieldAddr _ _ _) rfl (by (exact y_fieldAddr rfl)) rfl rfl rfl rfl (by kernel_rfl) ?_
            refine xY (i := 7) (op := .load _ _) rfl (by (exact y_load1 rfl rfl rfl)) rfl rfl rfl rfl (by kernel_rfl) ?_
            refine xY (i := 9) (op := .load _ _) rfl (by (exact y_loadA rfl rfl rfl)) rfl rfl rfl rfl (by kernel_rfl) ?_
            refine xAll (rs := [8, 14]) (by kernel_rfl) rfl ⟨?_, ?_, trivial⟩
            · (refine iC rfl Tryz.func31 rfl rfl (m1) rfl (by repeat (first | exact .refl _ | apply Les.cons | exact .nil)) rfl rfl ?_)
              refine xAll (rs := [10, 14]) (by kernel_rfl) rfl ⟨?_, ?_, trivial⟩
              · (refine iC rfl Tryz.func32 rfl rfl (n1) rfl (by repeat (first | exact .refl _ | exact .tag _ _ | apply Le.ag | apply Les.cons | exact .nil)) rfl rfl ?_)
                refine xY (i := 11) (op := .move _) rfl (by (exact y_move rfl)) rfl rfl rfl rfl (by kernel_rfl) ?_
                refine xY (i := 12) (op := .extract _ _) rfl (by (exact y_extract rfl rfl)) rfl rfl rfl rfl (by kernel_rfl) ?_
                refine xY (i := 13) (op := .extract _ _) rfl (by (exact y_extract rfl rfl)) rfl rfl rfl rfl (by kernel_rfl) ?_
                refine xAll (rs := [14]) (by kernel_rfl) rfl ⟨?_, trivial⟩
                · (refine iE rfl (e_alloc rfl rfl rfl) rfl rfl ?_)
                  refine xAll (rs := [15]) (by kernel_rfl) rfl ⟨?_, trivial⟩
                  · (refine iE rfl (e_store rfl rfl rfl rfl rfl rfl rfl) rfl rfl ?_)
                    refine xY (i := 16) (op := .assign _) rfl (by (exact y_assign rfl)) rfl rfl rfl rfl (by kernel_rfl) ?_
                    exact xEnd (by kernel_rfl) ⟨rfl, by (repeat (first | exact sub_nil | refine sub_cons rfl ?_)), by (repeat (first | exact subH_nil | refine subH_cons rfl ?_))⟩
              · (refine iE rfl (e_alloc rfl rfl rfl) rfl rfl ?_)
                refine xAll (rs := [10]) (by kernel_rfl) rfl ⟨?_, trivial⟩
                · (refine iC rfl Tryz.func32 rfl rfl (n1) rfl (by repeat (first | exact .refl _ | exact .tag _ _ | apply Le.ag | apply Les.cons | exact .nil)) rfl rfl ?_)
                  refine xY (i := 11) (op := .move _) rfl (by (exact y_move rfl)) rfl rfl rfl rfl (by kernel_rfl) ?_
                  refine xY (i := 12) (op := .extract _ _) rfl (by (exact y_extract rfl rfl)) rfl rfl rfl rfl (by kernel_rfl) ?_
                  refine xY (i := 13) (op := .extract _ _) rfl (by (exact y_extract rfl rfl)) rfl rfl rfl rfl (by kernel_rfl) ?_
                  refine xAll (rs := [15]) (by kernel_rfl) rfl ⟨?_, trivial⟩
                  · (refine iE rfl (e_store rfl rfl rfl rfl rfl rfl rfl) rfl rfl ?_)
                    refine xY (i := 16) (op := .assign _) rfl (by (exact y_assign rfl)) rfl rfl rfl rfl (by kernel_rfl) ?_
                    exact xEnd (by kernel_rfl) ⟨rfl, by (repeat (first | exact sub_nil | refine sub_cons rfl ?_)), by (repeat (first | exact subH_nil | refine subH_cons rfl ?_))⟩
            · (refine iE rfl (e_alloc rfl rfl rfl) rfl rfl ?_)
              refine xAll (rs := [8]) (by kernel_rfl) rfl ⟨?_, trivial⟩
              · (refine iC rfl Tryz.func31 rfl rfl (m1) rfl (by repeat (first | exact .refl _ | apply Les.cons | exact .nil)) rfl rfl ?_)
                refine xAll (rs := [10]) (by kernel_rfl) rfl ⟨?_, trivial⟩
                · (refine iC rfl Tryz.func32 rfl rfl (n1) rfl (by repeat (first | exact .refl _ | exact .tag _ _ | apply Le.ag | apply Les.cons | exact .nil)) rfl rfl ?_)
                  refine xY (i := 11) (op := .move _) rfl (by (exact y_move rfl)) rfl rfl rfl rfl (by kernel_rfl) ?_
                  refine xY (i := 12) (op := .extract _ _) rfl (by (exact y_extract rfl rfl)) rfl rfl rfl rfl (by kernel_rfl) ?_
                  refine xY (i := 13) (op := .extract _ _) rfl (by (exact y_extract rfl rfl)) rfl rfl rfl rfl (by kernel_rfl) ?_
                  refine xAll (rs := [15]) (by kernel_rfl) rfl ⟨?_, trivial⟩
                  · (refine iE rfl (e_store rfl rfl rfl rfl rfl rfl rfl) rfl rfl ?_)
                    refine xY (i := 16) (op := .assign _) rfl (by (exact y_assign rfl)) rfl rfl rfl rfl (by kernel_rfl) ?_
                    exact xEnd (by kernel_rfl) ⟨rfl, by (repeat (first | exact sub_nil | refine sub_cons rfl ?_)), by (repeat (first | exact subH_nil | refine subH_cons rfl ?_))⟩
          repeat (first | refine seq_ ?_ | refine region_ ?_ | refine nil_ ?_ | refine skip_ ?_ | refine cond_f rfl ?_ | refine stepY (y_move rfl) rfl ?_ | refine stepY (y_cmpF rfl rfl rfl (by omega)) rfl ?_)
          refine cut_ [(4, .ptr 4 0), (5, .p (E_ 0)), (7, .ptr 7 0), (8, .p (E_ 0)), (9, .ptr 9 0)] [(4, .bx [Bo false, NL, Bo false, NL, Bo false, NL, Bo false, NL]), (7, .bx (cQ x)), (9, .bx (cQ y))] ?_ ?_
          · refine xDraw 1000 [2, 3, 4, 6, 7] mixed ?_
            refine xY (i := 0) (op := .fieldAddr _ _ _) rfl (by (exact y_fieldAddr rfl)) rfl rfl rfl rfl (by kernel_rfl) ?_
            refine xY (i := 1) (op := .load _ _) rfl (by (exact y_load1 rfl rfl rfl)) rfl rfl rfl rfl (by kernel_rfl) ?_
            refine xY (i := 2) (op := .fieldAddr _ _ _) rfl (by (exact y_fieldAddr rfl)) rfl rfl rfl rfl (by kernel_rfl) ?_
            refine xY (i := 3) (op := .load _ _) rfl (by (exact y_load1 rfl rfl rfl)) rfl rfl rfl rfl (by kernel_rfl) ?_
            refine xY (i := 4) (op := .fieldAddr _ _ _) rfl (by (exact y_fieldAddr rfl)) rfl rfl rfl rfl (by kernel_rfl) ?_
            refine xY (i := 5) (op := .load _ _) rfl (by (exact y_load1 rfl rfl rfl)) rfl rfl rfl rfl (by kernel_rfl) ?_
            refine xY (i := 6) (op := .fieldAddr _ _ _) rfl (by (exact y_fieldAddr rfl)) rfl rfl rfl rfl (by kernel_rfl) ?_
            refine xY (i := 7) (op := .load _ _) rfl (by (exact y_load1 rfl rfl rfl)) rfl rfl rfl rfl (by kernel_rfl) ?_
            refine xY (i := 9) (op := .load _ _) rfl (by (exact y_loadA rfl rfl rfl)) rfl rfl rfl rfl (by kernel_rfl) ?_
            refine xAll (rs := [8, 14]) (by kernel_rfl) rfl ⟨?_, ?_, trivial⟩
            · (refine iC rfl Tryz.func31 rfl rfl (m2) rfl (by repeat (first | exact .refl _ | apply Les.cons | exact .nil)) rfl rfl ?_)
              refine xAll (rs := [10, 14]) (by kernel_rfl) rfl ⟨?_, ?_, trivial⟩
              · (refine iC rfl Tryz.func32 rfl rfl (n2) rfl (by repeat (first | exact .refl _ | exact .tag _ _ | apply Le.ag | apply Les.cons | exact .nil)) rfl rfl ?_)
                refine xY (i := 11) (op := .move _) rfl (by (exact y_move rfl)) rfl rfl rfl rfl (by kernel_rfl) ?_
                refine xY (i := 12) (op := .extract _ _) rfl (by (exact y_extract rfl rfl)) rfl rfl rfl rfl (by kernel_rfl) ?_
                refine xY (i := 13) (op := .extract _ _) rfl (by (exact y_extract rfl rfl)) rfl rfl rfl rfl (by kernel_rfl) ?_
                refine xAll (rs := [14]) (by kernel_rfl) rfl ⟨?_, trivial⟩
                · (refine iE rfl (e_alloc rfl rfl rfl) rfl rfl ?_)
                  refine xAll (rs := [15]) (by kernel_rfl) rfl ⟨?_, trivial⟩
                  · (refine iE rfl (e_store rfl rfl rfl rfl rfl rfl rfl) rfl rfl ?_)
                    refine xY (i := 16) (op := .assign _) rfl (by (exact y_assign rfl)) rfl rfl rfl rfl (by kernel_rfl) ?_
                    exact xEnd (by kernel_rfl) ⟨rfl, by (repeat (first | exact sub_nil | refine sub_cons rfl ?_)), by (repeat (first | exact subH_nil | refine subH_cons rfl ?_))⟩
              · (refine iE rfl (e_alloc rfl rfl rfl) rfl rfl ?_)
                refine xAll (rs := [10]) (by kernel_rfl) rfl ⟨?_, trivial⟩
                · (refine iC rfl Tryz.func32 rfl rfl (n2) rfl (by repeat (first | exact .refl _ | exact .tag _ _ | apply Le.ag | apply Les.cons | exact .nil)) rfl rfl ?_)
                  refine xY (i := 11) (op := .move _) rfl (by (exact y_move rfl)) rfl rfl rfl rfl (by kernel_rfl) ?_
                  refine xY (i := 12) (op := .extract _ _) rfl (by (exact y_extract rfl rfl)) rfl rfl rfl rfl (by kernel_rfl) ?_
                  refine xY (i := 13) (op := .extract _ _) rfl (by (exact y_extract rfl rfl)) rfl rfl rfl rfl (by kernel_rfl) ?_
                  refine xAll (rs := [15]) (by kernel_rfl) rfl ⟨?_, trivial⟩
                  · (refine iE rfl (e_store rfl rfl rfl rfl rfl rfl rfl) rfl rfl ?_)
                    refine xY (i := 16) (op := .assign _) rfl (by (exact y_assign rfl)) rfl rfl rfl rfl (by kernel_rfl) ?_
                    exact xEnd (by kernel_rfl) ⟨rfl, by (repeat (first | exact sub_nil | refine sub_cons rfl ?_)), by (repeat (first | exact subH_nil | refine subH_cons rfl ?_))⟩
            · (refine iE rfl (e_alloc rfl rfl rfl) rfl rfl ?_)
              refine xAll (rs := [8]) (by kernel_rfl) rfl ⟨?_, trivial⟩
              · (refine iC rfl Tryz.func31 rfl rfl (m2) rfl (by repeat (first | exact .refl _ | apply Les.cons | exact .nil)) rfl rfl ?_)
                refine xAll (rs := [10]) (by kernel_rfl) rfl ⟨?_, trivial⟩
                · (refine iC rfl Tryz.func32 rfl rfl (n2) rfl (by repeat (first | exact .refl _ | exact .tag _ _ | apply Le.ag | apply Les.cons | exact .nil)) rfl rfl ?_)
                  refine xY (i := 11) (op := .move _) rfl (by (exact y_move rfl)) rfl rfl rfl rfl (by kernel_rfl) ?_
                  refine xY (i := 12) (op := .extract _ _) rfl (by (exact y_extract rfl rfl)) rfl rfl rfl rfl (by kernel_rfl) ?_
                  refine xY (i := 13) (op := .extract _ _) rfl (by (exact y_extract rfl rfl)) rfl rfl rfl rfl (by kernel_rfl) ?_
                  refine xAll (rs := [15]) (by kernel_rfl) rfl ⟨?_, trivial⟩
                  · (refine iE rfl (e_store rfl rfl rfl rfl rfl rfl rfl) rfl rfl ?_)
                    refine xY (i := 16) (op := .assign _) rfl (by (exact y_assign rfl)) rfl rfl rfl rfl (by kernel_rfl) ?_
                    exact xEnd (by kernel_rfl) ⟨rfl, by (repeat (first | exact sub_nil | refine sub_cons rfl ?_)), by (repeat (first | exact subH_nil | refine subH_cons rfl ?_))⟩
          repeat (first | refine seq_ ?_ | refine region_ ?_ | refine nil_ ?_ | refine skip_ ?_ | refine ret_ ?_ | refine cond_f rfl ?_ | refine stepY (y_move rfl) rfl ?_ | refine stepY (y_assign rfl) rfl ?_ | refine stepY (y_loadA rfl rfl rfl) rfl ?_ | refine stepY (y_build rfl rfl rfl) rfl ?_ | refine stepY (y_cmpF rfl rfl rfl (by omega)) rfl ?_ | refine stepE (e_store rfl rfl rfl rfl rfl rfl rfl) ?_)
          ((apply fin_r); (repeat (first | exact .nil | exact .tmp rfl | exact .agg rfl rfl rfl | apply ResL.cons)); (repeat (exact .refl _)))
      · by_cases c3 : b.1 = 0
        · have c4 : ¬ b.2.1 = 0 := fun e => hb (.inr ⟨c3, e⟩)
          repeat (first | refine seq_ ?_ | refine region_ ?_ | refine nil_ ?_ | refine skip_ ?_ | refine cond_f rfl ?_ | refine guard_t rfl rfl rfl ?_ | refine guard_f rfl rfl rfl rfl ?_ | refine stepY (y_move rfl) rfl ?_ | refine stepY (y_assign rfl) rfl ?_ | refine stepY (y_load1 rfl rfl rfl) rfl ?_ | refine stepY (y_fieldAddr rfl) rfl ?_ | (first | refine stepY (y_pick_t rfl rfl) rfl ?_ | refine stepY (y_pick_f rfl rfl) rfl ?_) | (first | refine stepY (y_cmpT rfl rfl rfl (by omega)) rfl ?_ | refine stepY (y_cmpF rfl rfl rfl (by omega)) rfl ?_) | refine stepE (e_box rfl rfl rfl rfl rfl rfl) ?_ | refine stepE (e_alloc rfl rfl rfl) ?_)
          refine call_ Tryz.func31 rfl rfl (m0) rfl (by repeat (first | exact .refl _ | apply Les.cons | exact .nil)) rfl ?_
          repeat (first | refine seq_ ?_ | refine region_ ?_ | refine nil_ ?_ | refine skip_ ?_ | refine cond_f rfl ?_ | refine stepY (y_load1 rfl rfl rfl) rfl ?_ | refine stepY (y_fieldAddr rfl) rfl ?_ | refine stepY (y_len_si rfl) rfl ?_ | refine stepY (y_cmpF rfl rfl rfl (by omega)) rfl ?_ | refine stepE (e_alloc rfl rfl rfl) ?_ | refine stepE (e_store rfl rfl rfl rfl rfl rfl rfl) ?_)
          refine cut_ [(2, .ptr 2 0), (3, .ptr 3 0), (4, .ptr 4 0), (5, .p (E_ 0)), (6, .ptr 6 0), (7, .ptr 7 0), (8, .p (E_ 0))] [(2, .bx [I a.1, I a.2.1, I a.2.2]), (3, .bx [I b.1, I b.2.1, I b.2.2]), (4, .bx [Bo false, NL, Bo false, NL, Bo false, NL, Bo false, NL]), (6, .bx [Bo (decide (detD a b < 0)), FM (detD a b).natAbs]), (7, .bx (cQ x))] ?_ ?_
          · refine xDraw 1000 [2, 3, 4, 6] mixed ?_
            refine xY (i := 0) (op := .fieldAddr _ _ _) rfl (by (exact y_fieldAddr rfl)) rfl rfl rfl rfl (by kernel_rfl) ?_
            refine xY (i := 1) (op := .load _ _) rfl (by (exact y_load1 rfl rfl rfl)) rfl rfl rfl rfl (by kernel_rfl) ?_
            refine xY (i := 2) (op := .fieldAddr _ _ _) rfl (by (exact y_fieldAddr rfl)) rfl rfl rfl rfl (by kernel_rfl) ?_
            refine xY (i := 3) (op := .load _ _) rfl (by (exact y_load1 rfl rfl rfl)) rfl rfl rfl rfl (by kernel_rfl) ?_
            refine xY (i := 4) (op := .fieldAddr _ _ _) rfl (by (exact y_fieldAddr rfl)) rfl rfl rfl rfl (by kernel_rfl) ?_
            refine xY (i := 5) (op := .load _ _) rfl (by (exact y_load1 rfl rfl rfl)) rfl rfl rfl rfl (by kernel_rfl) ?_
            refine xY (i := 6) (op := .fieldAddr _ _ _) rfl (by (exact y_fieldAddr rfl)) rfl rfl rfl rfl (by kernel_rfl) ?_
            refine xY (i := 7) (op := .load _ _) rfl (by (exact y_load1 rfl rfl rfl)) rfl rfl rfl rfl (by kernel_rfl) ?_
            refine xY (i := 9) (op := .load _ _) rfl (by (exact y_loadA rfl rfl rfl)) rfl rfl rfl rfl (by kernel_rfl) ?_
            refine xAll (rs := [8, 14]) (by kernel_rfl) rfl ⟨?_, ?_, trivial⟩
            · (refine iC rfl Tryz.func31 rfl rfl (m1) rfl (by repeat (first | exact .refl _ | apply Les.cons | exact .nil)) rfl rfl ?_)
              refine xAll (rs := [10, 14]) (by kernel_rfl) rfl ⟨?_, ?_, trivial⟩
              · (refine iC rfl Tryz.func32 rfl rfl (n1) rfl (by repeat (first | exact .refl _ | exact .tag _ _ | apply Le.ag | apply Les.cons | exact .nil)) rfl rfl ?_)
                refine xY (i := 11) (op := .move _) rfl (by (exact y_move rfl)) rfl rfl rfl rfl (by kernel_rfl) ?_
                refine xY (i := 12) (op := .extract _ _) rfl (by (exact y_extract rfl rfl)) rfl rfl rfl rfl (by kernel_rfl) ?_
                refine xY (i := 13) (op := .extract _ _) rfl (by (exact y_extract rfl rfl)) rfl rfl rfl rfl (by kernel_rfl) ?_
                refine xAll (rs := [14]) (by kernel_rfl) rfl ⟨?_, trivial⟩
                · (refine iE rfl (e_alloc rfl rfl rfl) rfl rfl ?_)
                  refine xAll (rs := [15]) (by kernel_rfl) rfl ⟨?_, trivial⟩
                  · (refine iE rfl (e_store rfl rfl rfl rfl rfl rfl rfl) rfl rfl ?_)
                    refine xY (i := 16) (op := .assign _) rfl (by (exact y_assign rfl)) rfl rfl rfl rfl (by kernel_rfl) ?_
                    exact xEnd (by kernel_rfl) ⟨rfl, by (repeat (first | exact sub_nil | refine sub_cons rfl ?_)), by (repeat (first | exact subH_nil | refine subH_cons rfl ?_))⟩
              · (refine iE rfl (e_alloc rfl rfl rfl) rfl rfl ?_)
                refine xAll (rs := [10]) (by kernel_rfl) rfl ⟨?_, trivial⟩
                · (refine iC rfl Tryz.func32 rfl rfl (n1) rfl (by repeat (first | exact .refl _ | exact .tag _ _ | apply Le.ag | apply Les.cons | exact .nil)) rfl rfl ?_)
                  refine xY (i := 11) (op := .move _) rfl (by (exact y_move rfl)) rfl rfl rfl rfl (by kernel_rfl) ?_
                  refine xY (i := 12) (op := .extract _ _) rfl (by (exact y_extract rfl rfl)) rfl rfl rfl rfl (by kernel_rfl) ?_
                  refine xY (i := 13) (op := .extract _ _) rfl (by (exact y_extract rfl rfl)) rfl rfl rfl rfl (by kernel_rfl) ?_
                  refine xAll (rs := [15]) (by kernel_rfl) rfl ⟨?_, trivial⟩
                  · (refine iE rfl (e_store rfl rfl rfl rfl rfl rfl rfl) rfl rfl ?_)
                    refine xY (i := 16) (op := .assign _) rfl (by (exact y_assign rfl)) rfl rfl rfl rfl (by kernel_rfl) ?_
                    exact xEnd (by kernel_rfl) ⟨rfl, by (repeat (first | exact sub_nil | refine sub_cons rfl ?_)), by (repeat (first | exact subH_nil | refine subH_cons rfl ?_))⟩
            · (refine iE rfl (e_alloc rfl rfl rfl) rfl rfl ?_)
              refine xAll (rs := [8]) (by kernel_rfl) rfl ⟨?_, trivial⟩
              · (refine iC rfl Tryz.func31 rfl rfl (m1) rfl (by repeat (first | exact .refl _ | apply Les.cons | exact .nil)) rfl rfl ?_)
                refine xAll (rs := [10]) (by kernel_rfl) rfl ⟨?_, trivial⟩
                · (refine iC rfl Tryz.func32 rfl rfl (n1) rfl (by repeat (first | exact .refl _ | exact .tag _ _ | apply Le.ag | apply Les.cons | exact .nil)) rfl rfl ?_)
                  refine xY (i := 11) (op := .move _) rfl (by (exact y_move rfl)) rfl rfl rfl rfl (by kernel_rfl) ?_
                  refine xY (i := 12) (op := .extract _ _) rfl (by (exact y_extract rfl rfl)) rfl rfl rfl rfl (by kernel_rfl) ?_
                  refine xY (i := 13) (op := .extract _ _) rfl (by (exact y_extract rfl rfl)) rfl rfl rfl rfl (by kernel_rfl) ?_
                  refine xAll (rs := [15]) (by kernel_rfl) rfl ⟨?_, trivial⟩
                  · (refine iE rfl (e_store rfl rfl rfl rfl rfl rfl rfl) rfl rfl ?_)
                    refine xY (i := 16) (op := .assign _) rfl (by (exact y_assign rfl)) rfl rfl rfl rfl (by kernel_rfl) ?_
                    exact xEnd (by kernel_rfl) ⟨rfl, by (repeat (first | exact sub_nil | refine sub_cons rfl ?_)), by (repeat (first | exact subH_nil | refine subH_cons rfl ?_))⟩
          repeat (first | refine seq_ ?_ | refine region_ ?_ | refine nil_ ?_ | refine skip_ ?_ | refine cond_f rfl ?_ | refine stepY (y_move rfl) rfl ?_ | refine stepY (y_cmpF rfl rfl rfl (by omega)) rfl ?_)
          refine cut_ [(4, .ptr 4 0), (5, .p (E_ 0)), (7, .ptr 7 0), (8, .p (E_ 0)), (9, .ptr 9 0)] [(4, .bx [Bo false, NL, Bo false, NL, Bo false, NL, Bo false, NL]), (7, .bx (cQ x)), (9, .bx (cQ y))] ?_ ?_
          · refine xDraw 1000 [2, 3, 4, 6, 7] mixed ?_
            refine xY (i := 0) (op := .fieldAddr _ _ _) rfl (by (exact y_fieldAddr rfl)) rfl rfl rfl rfl (by kernel_rfl) ?_
            refine xY (i := 1) (op := .load _ _) rfl (by (exact y_load1 rfl rfl rfl)) rfl rfl rfl rfl (by kernel_rfl) ?_
            refine xY (i := 2) (op := .fieldAddr _ _ _) rfl (by (exact y_fieldAddr rfl)) rfl rfl rfl rfl (by kernel_rfl) ?_
            refine xY (i := 3) (op := .load _ _) rfl (by (exact y_load1 rfl rfl rfl)) rfl rfl rfl rfl (by kernel_rfl) ?_
            refine xY (i := 4) (op := .fieldAddr _ _ _) rfl (by (exact y_fieldAddr rfl)) rfl rfl rfl rfl (by kernel_rfl) ?_
            refine xY (i := 5) (op := .load _ _) rfl (by (exact y_load1 rfl rfl rfl)) rfl rfl rfl rfl (by kernel_rfl) ?_
            refine xY (i := 6) (op := .fieldAddr _ _ _) rfl (by (exact y_fieldAddr rfl)) rfl rfl rfl rfl (by kernel_rfl) ?_
            refine xY (i := 7) (op := .load _ _) rfl (by (exact y_load1 rfl rfl rfl)) rfl rfl rfl rfl (by kernel_rfl) ?_
            refine xY (i := 9) (op := .load _ _) rfl (by (exact y_loadA rfl rfl rfl)) rfl rfl rfl rfl (by kernel_rfl) ?_
            refine xAll (rs := [8, 14]) (by kernel_rfl) rfl ⟨?_, ?_, trivial⟩
            · (refine iC rfl Tryz.func31 rfl rfl (m2) rfl (by repeat (first | exact .refl _ | apply Les.cons | exact .nil)) rfl rfl ?_)
              refine xAll (rs := [10, 14]) (by kernel_rfl) rfl ⟨?_, ?_, trivial⟩
              · (refine iC rfl Tryz.func32 rfl rfl (n2) rfl (by repeat (first | exact .refl _ | exact .tag _ _ | apply Le.ag | apply Les.cons | exact .nil)) rfl rfl ?_)
                refine xY (i := 11) (op := .move _) rfl (by (exact y_move rfl)) rfl rfl rfl rfl (by kernel_rfl) ?_
                refine xY (i := 12) (op := .extract _ _) rfl (by (exact y_extract rfl rfl)) rfl rfl rfl rfl (by kernel_rfl) ?_
                refine xY (i := 13) (op := .extract _ _) rfl (by (exact y_extract rfl rfl)) rfl rfl rfl rfl (by kernel_rfl) ?_
                refine xAll (rs := [14]) (by kernel_rfl) rfl ⟨?_, trivial⟩
                · (refine iE rfl (e_alloc rfl rfl rfl) rfl rfl ?_)
                  refine xAll (rs := [15]) (by kernel_rfl) rfl ⟨?_, trivial⟩
                  · (refine iE rfl (e_store rfl rfl rfl rfl rfl rfl rfl) rfl rfl ?_)
                    refine xY (i := 16) (op := .assign _) rfl (by (exact y_assign rfl)) rfl rfl rfl rfl (by kernel_rfl) ?_
                    exact xEnd (by kernel_rfl) ⟨rfl, by (repeat (first | exact sub_nil | refine sub_cons rfl ?_)), by (repeat (first | exact subH_nil | refine subH_cons rfl ?_))⟩
              · (refine iE rfl (e_alloc rfl rfl rfl) rfl rfl ?_)
                refine xAll (rs := [10]) (by kernel_rfl) rfl ⟨?_, trivial⟩
                · (refine iC rfl Tryz.func32 rfl rfl (n2) rfl (by repeat (first | exact .refl _ | exact .tag _ _ | apply Le.ag | apply Les.cons | exact .nil)) rfl rfl ?_)
                  refine xY (i := 11) (op := .move _) rfl (by (exact y_move rfl)) rfl rfl rfl rfl (by kernel_rfl) ?_
                  refine xY (i := 12) (op := .extract _ _) rfl (by (exact y_extract rfl rfl)) rfl rfl rfl rfl (by kernel_rfl) ?_
                  refine xY (i := 13) (op := .extract _ _) rfl (by (exact y_extract rfl rfl)) rfl rfl rfl rfl (by kernel_rfl) ?_
                  refine xAll (rs := [15]) (by kernel_rfl) rfl ⟨?_, trivial⟩
                  · (refine iE rfl (e_store rfl rfl rfl rfl rfl rfl rfl) rfl rfl ?_)
                    refine xY (i := 16) (op := .assign _) rfl (by (exact y_assign rfl)) rfl rfl rfl rfl (by kernel_rfl) ?_
                    exact xEnd (by kernel_rfl) ⟨rfl, by (repeat (first | exact sub_nil | refine sub_cons rfl ?_)), by (repeat (first | exact subH_nil | refine subH_cons rfl ?_))⟩
            · (refine iE rfl (e_alloc rfl rfl rfl) rfl rfl ?_)
              refine xAll (rs := [8]) (by kernel_rfl) rfl ⟨?_, trivial⟩
              · (refine iC rfl Tryz.func31 rfl rfl (m2) rfl (by repeat (first | exact .refl _ | apply Les.cons | exact .nil)) rfl rfl ?_)
                refine xAll (rs := [10]) (by kernel_rfl) rfl ⟨?_, trivial⟩
                · (refine iC rfl Tryz.func32 rfl rfl (n2) rfl (by repeat (first | exact .refl _ | exact .tag _ _ | apply Le.ag | apply Les.cons | exact .nil)) rfl rfl ?_)
                  refine xY (i := 11) (op := .move _) rfl (by (exact y_move rfl)) rfl rfl rfl rfl (by kernel_rfl) ?_
                  refine xY (i := 12) (op := .extract _ _) rfl (by (exact y_extract rfl rfl)) rfl rfl rfl rfl (by kernel_rfl) ?_
                  refine xY (i := 13) (op := .extract _ _) rfl (by (exact y_extract rfl rfl)) rfl rfl rfl rfl (by kernel_rfl) ?_
                  refine xAll (rs := [15]) (by kernel_rfl) rfl ⟨?_, trivial⟩
                  · (refine iE rfl (e_store rfl rfl rfl rfl rfl rfl rfl) rfl rfl ?_)
                    refine xY (i := 16) (op := .assign _) rfl (by (exact y_assign rfl)) rfl rfl rfl rfl (by kernel_rfl) ?_
                    exact xEnd (by kernel_rfl) ⟨rfl, by (repeat (first | exact sub_nil | refine sub_cons rfl ?_)), by (repeat (first | exact subH_nil | refine subH_cons rfl ?_))⟩
          repeat (first | refine seq_ ?_ | refine region_ ?_ | refine nil_ ?_ | refine skip_ ?_ | refine ret_ ?_ | refine cond_f rfl ?_ | refine stepY (y_move rfl) rfl ?_ | refine stepY (y_assign rfl) rfl ?_ | refine stepY (y_loadA rfl rfl rfl) rfl ?_ | refine stepY (y_build rfl rfl rfl) rfl ?_ | refine stepY (y_cmpF rfl rfl rfl (by omega)) rfl ?_ | refine stepE (e_store rfl rfl rfl rfl rfl rfl rfl) ?_)
          ((apply fin_r); (repeat (first | exact .nil | exact .tmp rfl | exact .agg rfl rfl rfl | apply ResL.cons)); (repeat (exact .refl _)))
        · repeat (first | refine seq_ ?_ | refine region_ ?_ | refine nil_ ?_ | refine skip_ ?_ | refine cond_f rfl ?_ | refine guard_t rfl rfl rfl ?_ | refine guard_f rfl rfl rfl rfl ?_ | refine stepY (y_move rfl) rfl ?_ | refine stepY (y_assign rfl) rfl ?_ | refine stepY (y_load1 rfl rfl rfl) rfl ?_ | refine stepY (y_fieldAddr rfl) rfl ?_ | refine stepY (y_pick_f rfl rfl) rfl ?_ | refine stepY (y_cmpF rfl rfl rfl (by omega)) rfl ?_ | refine stepE (e_box rfl rfl rfl rfl rfl rfl) ?_ | refine stepE (e_alloc rfl rfl rfl) ?_)
          refine call_ Tryz.func31 rfl rfl (m0) rfl (by repeat (first | exact .refl _ | apply Les.cons | exact .nil)) rfl ?_
          repeat (first | refine seq_ ?_ | refine region_ ?_ | refine nil_ ?_ | refine skip_ ?_ | refine cond_f rfl ?_ | refine stepY (y_load1 rfl rfl rfl) rfl ?_ | refine stepY (y_fieldAddr rfl) rfl ?_ | refine stepY (y_len_si rfl) rfl ?_ | refine stepY (y_cmpF rfl rfl rfl (by omega)) rfl ?_ | refine stepE (e_alloc rfl rfl rfl) ?_ | refine stepE (e_store rfl rfl rfl rfl rfl rfl rfl) ?_)
          refine cut_ [(2, .ptr 2 0), (3, .ptr 3 0), (4, .ptr 4 0), (5, .p (E_ 0)), (6, .ptr 6 0), (7, .ptr 7 0), (8, .p (E_ 0))] [(2, .bx [I a.1, I a.2.1, I a.2.2]), (3, .bx [I b.1, I b.2.1, I b.2.2]), (4, .bx [Bo false, NL, Bo false, NL, Bo false, NL, Bo false, NL]), (6, .bx [Bo (decide (detD a b < 0)), FM (detD a b).natAbs]), (7, .bx (cQ x))] ?_ ?_
          · refine xDraw 1000 [2, 3, 4, 6] mixed ?_
            refine xY (i := 0) (op := .fieldAddr _ _ _) rfl (by (exact y_fieldAddr rfl)) rfl rfl rfl rfl (by kernel_rfl) ?_
            refine xY (i := 1) (op := .load _ _) rfl (by (exact y_load1 rfl rfl rfl)) rfl rfl rfl rfl (by kernel_rfl) ?_
            refine xY (i := 2) (op := .fieldAddr _ _ _) rfl (by (exact y_fieldAddr rfl)) rfl rfl rfl rfl (by kernel_rfl) ?_
            refine xY (i := 3) (op := .load _ _) rfl (by (exact y_load1 rfl rfl rfl)) rfl rfl rfl rfl (by kernel_rfl) ?_
            refine xY (i := 4) (op := .fieldAddr _ _ _) rfl (by (exact y_fieldAddr rfl)) rfl rfl rfl rfl (by kernel_rfl) ?_
            refine xY (i := 5) (op := .load _ _) rfl (by (exact y_load1 rfl rfl rfl)) rfl rfl rfl rfl (by kernel_rfl) ?_
            refine xY (i := 6) (op := .fieldAddr _ _ _) rfl (by (exact y_fieldAddr rfl)) rfl rfl rfl rfl (by kernel_rfl) ?_
            refine xY (i := 7) (op := .load _ _) rfl (by (exact y_load1 rfl rfl rfl)) rfl rfl rfl rfl (by kernel_rfl) ?_
            refine xY (i := 9) (op := .load _ _) rfl (by (exact y_loadA rfl rfl rfl)) rfl rfl rfl rfl (by kernel_rfl) ?_
            refine xAll (rs := [8, 14]) (by kernel_rfl) rfl ⟨?_, ?_, trivial⟩
            · (refine iC rfl Tryz.func31 rfl rfl (m1) rfl (by repeat (first | exact .refl _ | apply Les.cons | exact .nil)) rfl rfl ?_)
              refine xAll (rs := [10, 14]) (by kernel_rfl) rfl ⟨?_, ?_, trivial⟩
              · (refine iC rfl Tryz.func32 rfl rfl (n1) rfl (by repeat (first | exact .refl _ | exact .tag _ _ | apply Le.ag | apply Les.cons | exact .nil)) rfl rfl ?_)
                refine xY (i := 11) (op := .move _) rfl (by (exact y_move rfl)) rfl rfl rfl rfl (by kernel_rfl) ?_
                refine xY (i := 12) (op := .extract _ _) rfl (by (exact y_extract rfl rfl)) rfl rfl rfl rfl (by kernel_rfl) ?_
                refine xY (i := 13) (op := .extract _ _) rfl (by (exact y_extract rfl rfl)) rfl rfl rfl rfl (by kernel_rfl) ?_
                refine xAll (rs := [14]) (by kernel_rfl) rfl ⟨?_, trivial⟩
                · (refine iE rfl (e_alloc rfl rfl rfl) rfl rfl ?_)
                  refine xAll (rs := [15]) (by kernel_rfl) rfl ⟨?_, trivial⟩
                  · (refine iE rfl (e_store rfl rfl rfl rfl rfl rfl rfl) rfl rfl ?_)
                    refine xY (i := 16) (op := .assign _) rfl (by (exact y_assign rfl)) rfl rfl rfl rfl (by kernel_rfl) ?_
                    exact xEnd (by kernel_rfl) ⟨rfl, by (repeat (first | exact sub_nil | refine sub_cons rfl ?_)), by (repeat (first | exact subH_nil | refine subH_cons rfl ?_))⟩
              · (refine iE rfl (e_alloc rfl rfl rfl) rfl rfl ?_)
                refine xAll (rs := [10]) (by kernel_rfl) rfl ⟨?_, trivial⟩
                · (refine iC rfl Tryz.func32 rfl rfl (n1) rfl (by repeat (first | exact .refl _ | exact .tag _ _ | apply Le.ag | apply Les.cons | exact .nil)) rfl rfl ?_)
                  refine xY (i := 11) (op := .move _) rfl (by (exact y_move rfl)) rfl rfl rfl rfl (by kernel_rfl) ?_
                  refine xY (i := 12) (op := .extract _ _) rfl (by (exact y_extract rfl rfl)) rfl rfl rfl rfl (by kernel_rfl) ?_
                  refine xY (i := 13) (op := .extract _ _) rfl (by (exact y_extract rfl rfl)) rfl rfl rfl rfl (by kernel_rfl) ?_
                  refine xAll (rs := [15]) (by kernel_rfl) rfl ⟨?_, trivial⟩
                  · (refine iE rfl (e_store rfl rfl rfl rfl rfl rfl rfl) rfl rfl ?_)
                    refine xY (i := 16) (op := .assign _) rfl (by (exact y_assign rfl)) rfl rfl rfl rfl (by kernel_rfl) ?_
                    exact xEnd (by kernel_rfl) ⟨rfl, by (repeat (first | exact sub_nil | refine sub_cons rfl ?_)), by (repeat (first | exact subH_nil | refine subH_cons rfl ?_))⟩
            · (refine iE rfl (e_alloc rfl rfl rfl) rfl rfl ?_)
              refine xAll (rs := [8]) (by kernel_rfl) rfl ⟨?_, trivial⟩
              · (refine iC rfl Tryz.func31 rfl rfl (m1) rfl (by repeat (first | exact .refl _ | apply Les.cons | exact .nil)) rfl rfl ?_)
                refine xAll (rs := [10]) (by kernel_rfl) rfl ⟨?_, trivial⟩
                · (refine iC rfl Tryz.func32 rfl rfl (n1) rfl (by repeat (first | exact .refl _ | exact .tag _ _ | apply Le.ag | apply Les.cons | exact .nil)) rfl rfl ?_)
                  refine xY (i := 11) (op := .move _) rfl (by (exact y_move rfl)) rfl rfl rfl rfl (by kernel_rfl) ?_
                  refine xY (i := 12) (op := .extract _ _) rfl (by (exact y_extract rfl rfl)) rfl rfl rfl rfl (by kernel_rfl) ?_
                  refine xY (i := 13) (op := .extract _ _) rfl (by (exact y_extract rfl rfl)) rfl rfl rfl rfl (by kernel_rfl) ?_
                  refine xAll (rs := [15]) (by kernel_rfl) rfl ⟨?_, trivial⟩
                  · (refine iE rfl (e_store rfl rfl rfl rfl rfl rfl rfl) rfl rfl ?_)
                    refine xY (i := 16) (op := .assign _) rfl (by (exact y_assign rfl)) rfl rfl rfl rfl (by kernel_rfl) ?_
                    exact xEnd (by kernel_rfl) ⟨rfl, by (repeat (first | exact sub_nil | refine sub_cons rfl ?_)), by (repeat (first | exact subH_nil | refine subH_cons rfl ?_))⟩
          repeat (first | refine seq_ ?_ | refine region_ ?_ | refine nil_ ?_ | refine skip_ ?_ | refine cond_f rfl ?_ | refine stepY (y_move rfl) rfl ?_ | refine stepY (y_cmpF rfl rfl rfl (by omega)) rfl ?_)
          refine cut_ [(4, .ptr 4 0), (5, .p (E_ 0)), (7, .ptr 7 0), (8, .p (E_ 0)), (9, .ptr 9 0)] [(4, .bx [Bo false, NL, Bo false, NL, Bo false, NL, Bo false, NL]), (7, .bx (cQ x)), (9, .bx (cQ y))] ?_ ?_
          · refine xDraw 1000 [2, 3, 4, 6, 7] mixed ?_
            refine xY (i := 0) (op := .fieldAddr _ _ _) rfl (by (exact y_fieldAddr rfl)) rfl rfl rfl rfl (by kernel_rfl) ?_
            refine xY (i := 1) (op := .load _ _) rfl (by (exact y_load1 rfl rfl rfl)) rfl rfl rfl rfl (by kernel_rfl) ?_
            refine xY (i := 2) (op := .fieldAddr _ _ _) rfl (by (exact y_fieldAddr rfl)) rfl rfl rfl rfl (by kernel_rfl) ?_
            refine xY (i := 3) (op := .load _ _) rfl (by (exact y_load1 rfl rfl rfl)) rfl rfl rfl rfl (by kernel_rfl) ?_
            refine xY (i := 4) (op := .fieldAddr _ _ _) rfl (by (exact y_fieldAddr rfl)) rfl rfl rfl rfl (by kernel_rfl) ?_
            refine xY (i := 5) (op := .load _ _) rfl (by (exact y_load1 rfl rfl rfl)) rfl rfl rfl rfl (by kernel_rfl) ?_
            refine xY (i := 6) (op := .fieldAddr _ _ _) rfl (by (exact y_fieldAddr rfl)) rfl rfl rfl rfl (by kernel_rfl) ?_
            refine xY (i := 7) (op := .load _ _) rfl (by (exact y_load1 rfl rfl rfl)) rfl rfl rfl rfl (by kernel_rfl) ?_
            refine xY (i := 9) (op := .load _ _) rfl (by (exact y_loadA rfl rfl rfl)) rfl rfl rfl rfl (by kernel_rfl) ?_
            refine xAll (rs := [8, 14]) (by kernel_rfl) rfl ⟨?_, ?_, trivial⟩
            · (refine iC rfl Tryz.func31 rfl rfl (m2) rfl (by repeat (first | exact .refl _ | apply Les.cons | exact .nil)) rfl rfl ?_)
              refine xAll (rs := [10, 14]) (by kernel_rfl) rfl ⟨?_, ?_, trivial⟩
              · (refine iC rfl Tryz.func32 rfl rfl (n2) rfl (by repeat (first | exact .refl _ | exact .tag _ _ | apply Le.ag | apply Les.cons | exact .nil)) rfl rfl ?_)
                refine xY (i := 11) (op := .move _) rfl (by (exact y_move rfl)) rfl rfl rfl rfl (by kernel_rfl) ?_
                refine xY (i := 12) (op := .extract _ _) rfl (by (exact y_extract rfl rfl)) rfl rfl rfl rfl (by kernel_rfl) ?_
                refine xY (i := 13) (op := .extract _ _) rfl (by (exact y_extract rfl rfl)) rfl rfl rfl rfl (by kernel_rfl) ?_
                refine xAll (rs := [14]) (by kernel_rfl) rfl ⟨?_, trivial⟩
                · (refine iE rfl (e_alloc rfl rfl rfl) rfl rfl ?_)
                  refine xAll (rs := [15]) (by kernel_rfl) rfl ⟨?_, trivial⟩
                  · (refine iE rfl (e_store rfl rfl rfl rfl rfl rfl rfl) rfl rfl ?_)
                    refine xY (i := 16) (op := .assign _) rfl (by (exact y_assign rfl)) rfl rfl rfl rfl (by kernel_rfl) ?_
                    exact xEnd (by kernel_rfl) ⟨rfl, by (repeat (first | exact sub_nil | refine sub_cons rfl ?_)), by (repeat (first | exact subH_nil | refine subH_cons rfl ?_))⟩
              · (refine iE rfl (e_alloc rfl rfl rfl) rfl rfl ?_)
                refine xAll (rs := [10]) (by kernel_rfl) rfl ⟨?_, trivial⟩
                · (refine iC rfl Tryz.func32 rfl rfl (n2) rfl (by repeat (first | exact .refl _ | exact .tag _ _ | apply Le.ag | apply Les.cons | exact .nil)) rfl rfl ?_)
                  refine xY (i := 11) (op := .move _) rfl (by (exact y_move rfl)) rfl rfl rfl rfl (by kernel_rfl) ?_
                  refine xY (i := 12) (op := .extract _ _) rfl (by (exact y_extract rfl rfl)) rfl rfl rfl rfl (by kernel_rfl) ?_
                  refine xY (i := 13) (op := .extract _ _) rfl (by (exact y_extract rfl rfl)) rfl rfl rfl rfl (by kernel_rfl) ?_
                  refine xAll (rs := [15]) (by kernel_rfl) rfl ⟨?_, trivial⟩
                  · (refine iE rfl (e_store rfl rfl rfl rfl rfl rfl rfl) rfl rfl ?_)
                    refine xY (i := 16) (op := .assign _) rfl (by (exact y_assign rfl)) rfl rfl rfl rfl (by kernel_rfl) ?_
                    exact xEnd (by kernel_rfl) ⟨rfl, by (repeat (first | exact sub_nil | refine sub_cons rfl ?_)), by (repeat (first | exact subH_nil | refine subH_cons rfl ?_))⟩
            · (refine iE rfl (e_alloc rfl rfl rfl) rfl rfl ?_)
              refine xAll (rs := [8]) (by kernel_rfl) rfl ⟨?_, trivial⟩
              · (refine iC rfl Tryz.func31 rfl rfl (m2) rfl (by repeat (first | exact .refl _ | apply Les.cons | exact .nil)) rfl rfl ?_)
                refine xAll (rs := [10]) (by kernel_rfl) rfl ⟨?_, trivial⟩
                · (refine iC rfl Tryz.func32 rfl rfl (n2) rfl (by repeat (first | exact .refl _ | exact .tag _ _ | apply Le.ag | apply Les.cons | exact .nil)) rfl rfl ?_)
                  refine xY (i := 11) (op := .move _) rfl (by (exact y_move rfl)) rfl rfl rfl rfl (by kernel_rfl) ?_
                  refine xY (i := 12) (op := .extract _ _) rfl (by (exact y_extract rfl rfl)) rfl rfl rfl rfl (by kernel_rfl) ?_
                  refine xY (i := 13) (op := .extract _ _) rfl (by (exact y_extract rfl rfl)) rfl rfl rfl rfl (by kernel_rfl) ?_
                  refine xAll (rs := [15]) (by kernel_rfl) rfl ⟨?_, trivial⟩
                  · (refine iE rfl (e_store rfl rfl rfl rfl rfl rfl rfl) rfl rfl ?_)
                    refine xY (i := 16) (op := .assign _) rfl (by (exact y_assign rfl)) rfl rfl rfl rfl (by kernel_rfl) ?_
                    exact xEnd (by kernel_rfl) ⟨rfl, by (repeat (first | exact sub_nil | refine sub_cons rfl ?_)), by (repeat (first | exact subH_nil | refine subH_cons rfl ?_))⟩
          repeat (first | refine seq_ ?_ | refine region_ ?_ | refine nil_ ?_ | refine skip_ ?_ | refine ret_ ?_ | refine cond_f rfl ?_ | refine stepY (y_move rfl) rfl ?_ | refine stepY (y_assign rfl) rfl ?_ | refine stepY (y_loadA rfl rfl rfl) rfl ?_ | refine stepY (y_build rfl rfl rfl) rfl ?_ | refine stepY (y_cmpF rfl rfl rfl (by omega)) rfl ?_ | refine stepE (e_store rfl rfl rfl rfl rfl rfl rfl) ?_)
          ((apply fin_r); (repeat (first | exact .nil | exact .tmp rfl | exact .agg rfl rfl rfl | apply ResL.cons)); (repeat (exact .refl _)))
end Go.Av

set_option maxHeartbeats 8000000
set_option exponentiation.threshold 100000
set_option maxRecDepth 100000
set_option linter.unusedVariables false
set_option linter.unusedSimpArgs false
namespace Go.Av
open Go Go.Proofs

open Go.RowKit
/-! Boxes -/
abbrev b4 (x y w h : Int) : PV := .ag [I x, I y, I w, I h]
abbrev fitP (n : Int) : Prop := -1073741824 ≤ n ∧ n ≤ 1073741824
def emB (x y w h : Int) : Bool := !decide (fitP x ∧ fitP y ∧ fitP w ∧ fitP h ∧ 1 ≤ w ∧ 1 ≤ h)
theorem empty_c (x y w h : Int) : Con Tryz.prog 38 [b4 x y w h] (Bo (emB x y w h)) := by
  refine con_of Tryz.func38 rfl rfl rfl rfl rfl ?_
  have hl : ([x, y, w, h] : List Int).length = 4 := rfl
  repeat (first | refine seq_ ?_ | refine region_ ?_ | refine nil_ ?_ | refine block_ ?_ | refine stepY (y_move rfl) rfl ?_ | refine stepY (y_assign rfl) rfl ?_ | refine stepY (y_load1 rfl rfl rfl) rfl ?_ | refine stepY (y_fieldAddr rfl) rfl ?_ | refine stepY (y_len_vi rfl rfl) rfl ?_ | refine stepE (e_box rfl rfl rfl rfl rfl rfl) ?_ | refine stepE (e_bs_vi (k := .i64) rfl rfl rfl rfl rfl) ?_)
  obtain ⟨L, hL⟩ : ∃ L : List Int, L = [x, y, w, h] := ⟨_, rfl⟩
  rw [← hL] at hl ⊢
  have hfit : (∀ j : Nat, j < 4 → fitP (rd L j)) ↔ fitP x ∧ fitP y ∧ fitP w ∧ fitP h := by
    subst hL
    constructor
    · intro hh
      exact ⟨hh 0 (by omega), hh 1 (by omega), hh 2 (by omega), hh 3 (by omega)⟩
    · rintro ⟨h1, h2, h3, h4⟩ j hj
      match j, hj with
      | 0, _ => exact h1
      | 1, _ => exact h2
      | 2, _ => exact h3
      | 3, _ => exact h4
  refine loop_ (α := Nat) (fun k => ([(1, .ptr 1 0), (13, .vec 13), (14, .p (I 4)), (15, .p (I k))], [(1, .bx [I x, I y, I w, I h]), (13, .vi 3 .i64 L)])) (fun k => k ≤ 4 ∧ ∀ j : Nat, j < k → fitP (rd L j)) (fun k => 4 - k) 0 ⟨by omega, fun j hj => by omega⟩ ?_ ?_ ?_
  · (repeat (first | exact sub_nil | refine sub_cons rfl ?_ | refine sub_conse rfl (by (congr 3; omega)) ?_))
  · (repeat (first | exact subH_nil | refine subH_cons rfl ?_))
  rintro k ⟨hk, ha⟩
  by_cases h4 : k < 4
  · by_cases hf : fitP (rd L k)
    · repeat (first | refine seq_ ?_ | refine region_ ?_ | refine nil_ ?_ | refine skip_ ?_ | refine block_ ?_ | refine cond_t rfl ?_ | refine cond_f rfl ?_ | refine guard_t rfl rfl rfl ?_ | refine stepY (y_move rfl) rfl ?_ | refine stepY (y_assign rfl) rfl ?_ | refine stepY (y_load_vi rfl rfl (by omega) (by omega)) rfl ?_ | refine stepY (y_pick_f rfl rfl) rfl ?_ | refine stepY (y_index_vi rfl rfl rfl (by omega) (by omega)) rfl ?_ | refine stepY (y_binn rfl rfl rfl (by simp only [InK, loK, hiK]; omega)) rfl ?_ | (first | refine stepY (y_cmpT rfl rfl rfl (by omega)) rfl ?_ | refine stepY (y_cmpF rfl rfl rfl (by omega)) rfl ?_) | refine stepY (y_cmpF rfl rfl rfl (by omega)) rfl ?_)
      refine ⟨k + 1, ⟨by omega, fun j hj => ?_⟩, by omega, ?_, ?_⟩
      · by_cases e : j = k
        · subst e; exact hf
        · exact ha j (by omega)
      · (repeat (first | exact sub_nil | refine sub_cons rfl ?_))
      · (repeat (first | exact subH_nil | refine subH_cons rfl ?_))
    · have e : emB x y w h = true := by
        unfold emB
        rw [decide_eq_false (fun hh => hf (hfit.2 ⟨hh.1, hh.2.1, hh.2.2.1, hh.2.2.2.1⟩ k h4))]
        rfl
      rw [e]
      by_cases c1 : rd L k < -1073741824
      · repeat (first | refine seq_ ?_ | refine region_ ?_ | refine nil_ ?_ | refine skip_ ?_ | refine ret_ ?_ | refine block_ ?_ | refine cond_t rfl ?_ | refine guard_f rfl rfl rfl rfl ?_ | refine stepY (y_move rfl) rfl ?_ | refine stepY (y_assign rfl) rfl ?_ | refine stepY (y_load_vi rfl rfl (by omega) (by omega)) rfl ?_ | refine stepY (y_pick_t rfl rfl) rfl ?_ | refine stepY (y_index_vi rfl rfl rfl (by omega) (by omega)) rfl ?_ | refine stepY (y_cmpT rfl rfl rfl (by omega)) rfl ?_)
        ((apply fin_r); (repeat (first | exact .nil | exact .tmp rfl | apply ResL.cons)); (repeat (exact .refl _)))
      · have c2 : rd L k > 1073741824 := by omega
        repeat (first | refine seq_ ?_ | refine region_ ?_ | refine nil_ ?_ | refine skip_ ?_ | refine ret_ ?_ | refine block_ ?_ | refine cond_t rfl ?_ | refine guard_t rfl rfl rfl ?_ | refine stepY (y_move rfl) rfl ?_ | refine stepY (y_assign rfl) rfl ?_ | refine stepY (y_load_vi rfl rfl (by omega) (by omega)) rfl ?_ | refine stepY (y_pick_f rfl rfl) rfl ?_ | refine stepY (y_index_vi rfl rfl rfl (by omega) (by omega)) rfl ?_ | (first | refine stepY (y_cmpT rfl rfl rfl (by omega)) rfl ?_ | refine stepY (y_cmpF rfl rfl rfl (by omega)) rfl ?_) | refine stepY (y_cmpT rfl rfl rfl (by omega)) rfl ?_)
        ((apply fin_r); (repeat (first | exact .nil | exact .tmp rfl | apply ResL.cons)); (repeat (exact .refl _)))
  · have h5 : k = 4 := by omega
    subst h5
    obtain ⟨g1, g2, g3, g4⟩ := hfit.1 ha
    unfold emB
    by_cases c1 : w < 1
    · rw [decide_eq_false (fun hh => by omega)]
      repeat (first | refine seq_ ?_ | refine region_ ?_ | refine nil_ ?_ | refine exit_ ?_ | refine ret_ ?_ | refine cond_f rfl ?_ | refine guard_f rfl rfl rfl rfl ?_ | refine stepY (y_move rfl) rfl ?_ | refine stepY (y_assign rfl) rfl ?_ | refine stepY (y_load1 rfl rfl rfl) rfl ?_ | refine stepY (y_fieldAddr rfl) rfl ?_ | refine stepY (y_pick_t rfl rfl) rfl ?_ | (first | refine stepY (y_cmpT rfl rfl rfl (by omega)) rfl ?_ | refine stepY (y_cmpF rfl rfl rfl (by omega)) rfl ?_))
      ((apply fin_r); (repeat (first | exact .nil | exact .tmp rfl | apply ResL.cons)); (repeat (exact .refl _)))
    by_cases c2 : h < 1
    · rw [decide_eq_false (fun hh => by omega)]
      repeat (first | refine seq_ ?_ | refine region_ ?_ | refine nil_ ?_ | refine exit_ ?_ | refine ret_ ?_ | refine cond_f rfl ?_ | refine guard_t rfl rfl rfl ?_ | refine stepY (y_move rfl) rfl ?_ | refine stepY (y_assign rfl) rfl ?_ | refine stepY (y_load1 rfl rfl rfl) rfl ?_ | refine stepY (y_fieldAddr rfl) rfl ?_ | refine stepY (y_pick_f rfl rfl) rfl ?_ | (first | refine stepY (y_cmpT rfl rfl rfl (by omega)) rfl ?_ | refine stepY (y_cmpF rfl rfl rfl (by omega)) rfl ?_))
      ((apply fin_r); (repeat (first | exact .nil | exact .tmp rfl | apply ResL.cons)); (repeat (exact .refl _)))
    rw [decide_eq_true ⟨g1, g2, g3, g4, by omega, by omega⟩]
    repeat (first | refine seq_ ?_ | refine region_ ?_ | refine nil_ ?_ | refine exit_ ?_ | refine ret_ ?_ | refine cond_f rfl ?_ | refine guard_t rfl rfl rfl ?_ | refine stepY (y_move rfl) rfl ?_ | refine stepY (y_assign rfl) rfl ?_ | refine stepY (y_load1 rfl rfl rfl) rfl ?_ | refine stepY (y_fieldAddr rfl) rfl ?_ | refine stepY (y_pick_f rfl rfl) rfl ?_ | refine stepY (y_cmpF rfl rfl rfl (by omega)) rfl ?_)
    ((apply fin_r); (repeat (first | exact .nil | exact .tmp rfl | apply ResL.cons)); (repeat (exact .refl _)))
end Go.Av

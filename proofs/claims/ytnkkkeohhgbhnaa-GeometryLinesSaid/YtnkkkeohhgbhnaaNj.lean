/- Contracts behind a law: no conditions beyond those in each statement. -/
import Derived.Test.YtnkkkeohhgbhnaaNc
import Derived.Test.YtnkkkeohhgbhnaaJ5
import Derived.Test.YtnkkkeohhgbhnaaFf
set_option maxHeartbeats 8000000
set_option exponentiation.threshold 100000
set_option maxRecDepth 100000
set_option linter.unusedVariables false
set_option linter.unusedSimpArgs false
namespace Go.Av
open Go Go.Proofs
/-! The reference of the fractions: the four operations, Cmp, Floor, Round -/
theorem RFAdd_e (p p' : Bool) (l l' : List Int) (q q' : Bool) (k k' : List Int) (hl : wf l) (hk : wf k) (hl' : wf l') (hk' : wf k') (h : (vldF p l q k && vldF p' l' q' k') = false) : Con Try.prog 51 [AF p l q k, AF p' l' q' k'] (.tp [ZM, E_ 1]) := by
  refine con_of Try.func51 rfl rfl rfl rfl rfl ?_
  have hv := RFValid_c p l q k hl hk
  have hv2 := RFValid_c p' l' q' k' hl' hk'
  cases h1 : vldF p l q k with
  | false =>
    rw [h1] at hv
    repeat (first | refine seq_ ?_ | refine region_ ?_ | refine nil_ ?_ | refine stepY (y_assign rfl) rfl ?_ | refine stepY (y_loadA rfl rfl rfl) rfl ?_ | refine stepE (e_box rfl rfl rfl rfl rfl rfl) ?_ | refine stepE (e_alloc rfl rfl rfl) ?_)
    refine call_ Try.func69 rfl rfl (hv) rfl (by repeat (first | exact .refl _ | apply Les.cons | exact .nil)) rfl ?_
    repeat (first | refine seq_ ?_ | refine region_ ?_ | refine nil_ ?_ | refine ret_ ?_ | refine cond_t rfl ?_ | refine guard_f rfl rfl rfl rfl ?_ | refine stepY (y_move rfl) rfl ?_ | refine stepY (y_assign rfl) rfl ?_ | refine stepY (y_not rfl) rfl ?_ | refine stepY (y_pick_t rfl rfl) rfl ?_ | refine stepY (y_build rfl rfl rfl) rfl ?_ | refine stepE (e_store rfl rfl rfl rfl rfl rfl rfl) ?_)
    ((apply fin_r); (repeat (first | exact .nil | exact .tmp rfl | exact .agg rfl rfl rfl | apply ResL.cons)); (repeat (first | exact .refl _ | exact .nil _ _ | apply Le.ag | apply Le.tp | apply Les.cons | exact .nil)))
  | true =>
    rw [h1, Bool.true_and] at h
    rw [h1] at hv
    rw [h] at hv2
    repeat (first | refine seq_ ?_ | refine region_ ?_ | refine nil_ ?_ | refine stepY (y_assign rfl) rfl ?_ | refine stepY (y_loadA rfl rfl rfl) rfl ?_ | refine stepE (e_box rfl rfl rfl rfl rfl rfl) ?_ | refine stepE (e_alloc rfl rfl rfl) ?_)
    refine call_ Try.func69 rfl rfl (hv) rfl (by repeat (first | exact .refl _ | apply Les.cons | exact .nil)) rfl ?_
    repeat (first | refine guard_t rfl rfl rfl ?_ | refine stepY (y_move rfl) rfl ?_ | refine stepY (y_loadA rfl rfl rfl) rfl ?_ | refine stepY (y_not rfl) rfl ?_)
    refine call_ Try.func69 rfl rfl (hv2) rfl (by repeat (first | exact .refl _ | apply Les.cons | exact .nil)) rfl ?_
    repeat (first | refine seq_ ?_ | refine region_ ?_ | refine nil_ ?_ | refine ret_ ?_ | refine cond_t rfl ?_ | refine guard_t rfl rfl rfl ?_ | refine stepY (y_assign rfl) rfl ?_ | refine stepY (y_not rfl) rfl ?_ | refine stepY (y_pick_f rfl rfl) rfl ?_ | refine stepY (y_build rfl rfl rfl) rfl ?_ | refine stepE (e_store rfl rfl rfl rfl rfl rfl rfl) ?_)
    ((apply fin_r); (repeat (first | exact .nil | exact .tmp rfl | exact .agg rfl rfl rfl | apply ResL.cons)); (repeat (first | exact .refl _ | exact .nil _ _ | apply Le.ag | apply Le.tp | apply Les.cons | exact .nil)))
theorem RFMul_e (p p' : Bool) (l l' : List Int) (q q' : Bool) (k k' : List Int) (hl : wf l) (hk : wf k) (hl' : wf l') (hk' : wf k') (h : (vldF p l q k && vldF p' l' q' k') = false) : Con Try.prog 50 [AF p l q k, AF p' l' q' k'] (.tp [ZM, E_ 1]) := by
  refine con_of Try.func50 rfl rfl rfl rfl rfl ?_
  have hv := RFValid_c p l q k hl hk
  have hv2 := RFValid_c p' l' q' k' hl' hk'
  cases h1 : vldF p l q k with
  | false =>
    rw [h1] at hv
    repeat (first | refine seq_ ?_ | refine region_ ?_ | refine nil_ ?_ | refine stepY (y_assign rfl) rfl ?_ | refine stepY (y_loadA rfl rfl rfl) rfl ?_ | refine stepE (e_box rfl rfl rfl rfl rfl rfl) ?_ | refine stepE (e_alloc rfl rfl rfl) ?_)
    refine call_ Try.func69 rfl rfl (hv) rfl (by repeat (first | exact .refl _ | apply Les.cons | exact .nil)) rfl ?_
    repeat (first | refine seq_ ?_ | refine region_ ?_ | refine nil_ ?_ | refine ret_ ?_ | refine cond_t rfl ?_ | refine guard_f rfl rfl rfl rfl ?_ | refine stepY (y_move rfl) rfl ?_ | refine stepY (y_assign rfl) rfl ?_ | refine stepY (y_not rfl) rfl ?_ | refine stepY (y_pick_t rfl rfl) rfl ?_ | refine stepY (y_build rfl rfl rfl) rfl ?_ | refine stepE (e_store rfl rfl rfl rfl rfl rfl rfl) ?_)
    ((apply fin_r); (repeat (first | exact .nil | exact .tmp rfl | exact .agg rfl rfl rfl | apply ResL.cons)); (repeat (first | exact .refl _ | exact .nil _ _ | apply Le.ag | apply Le.tp | apply Les.cons | exact .nil)))
  | true =>
    rw [h1, Bool.true_and] at h
    rw [h1] at hv
    rw [h] at hv2
    repeat (first | refine seq_ ?_ | refine region_ ?_ | refine nil_ ?_ | refine stepY (y_assign rfl) rfl ?_ | refine stepY (y_loadA rfl rfl rfl) rfl ?_ | refine stepE (e_box rfl rfl rfl rfl rfl rfl) ?_ | refine stepE (e_alloc rfl rfl rfl) ?_)
    refine call_ Try.func69 rfl rfl (hv) rfl (by repeat (first | exact .refl _ | apply Les.cons | exact .nil)) rfl ?_
    repeat (first | refine guard_t rfl rfl rfl ?_ | refine stepY (y_move rfl) rfl ?_ | refine stepY (y_loadA rfl rfl rfl) rfl ?_ | refine stepY (y_not rfl) rfl ?_)
    refine call_ Try.func69 rfl rfl (hv2) rfl (by repeat (first | exact .refl _ | apply Les.cons | exact .nil)) rfl ?_
    repeat (first | refine seq_ ?_ | refine region_ ?_ | refine nil_ ?_ | refine ret_ ?_ | refine cond_t rfl ?_ | refine guard_t rfl rfl rfl ?_ | refine stepY (y_assign rfl) rfl ?_ | refine stepY (y_not rfl) rfl ?_ | refine stepY (y_pick_f rfl rfl) rfl ?_ | refine stepY (y_build rfl rfl rfl) rfl ?_ | refine stepE (e_store rfl rfl rfl rfl rfl rfl rfl) ?_)
    ((apply fin_r); (repeat (first | exact .nil | exact .tmp rfl | exact .agg rfl rfl rfl | apply ResL.cons)); (repeat (first | exact .refl _ | exact .nil _ _ | apply Le.ag | apply Le.tp | apply Les.cons | exact .nil)))
theorem RFv_t {p : Bool} {m d : Nat} (h : vG p m d) : Con Try.prog 69 [GF p m d] (Bo true) := by
  have hv := RFValid_c p (limbs m) false (limbs d) (wf_limbs _) (wf_limbs _)
  unfold vG at h
  rwa [h] at hv
theorem bne_dec (p q : Bool) : decide (p ≠ q) = (p != q) := by cases p <;> cases q <;> rfl
theorem RFMul_g (p p' : Bool) (m m' d d' : Nat) (h : vG p m d) (h' : vG p' m' d') : Con Try.prog 50 [GF p m d, GF p' m' d'] (resM (mkRat (sgn p m) d * mkRat (sgn p' m') d')) := by
  have hv := RFv_t h
  have hv2 := RFv_t h'
  obtain ⟨b1, b2, b3, b4, b5, b6⟩ := vG_bd h
  obtain ⟨c1, c2, c3, c4, c5, c6⟩ := vG_bd h'
  have ht1 := times3_c m m' (by omega) (by omega)
  have ht2 := times3_c d d' (by omega) (by omega)
  have hr := made3_c (p != p') (m * m') (d * d') (Nat.mul_pos b3 c3) (by have := ln_mul b1 c1; omega) (by have := ln_mul b2 c2; omega)
  rw [sgn_mul, ← Rat.mkRat_mul_mkRat, ← bne_dec] at hr
  generalize mkRat (sgn p m) d * mkRat (sgn p' m') d' = x at *
  by_cases hok : okQ x
  · rw [resM_ok hok] at *
    refine con_of Try.func50 rfl rfl rfl rfl rfl ?_
    repeat (first | refine seq_ ?_ | refine region_ ?_ | refine nil_ ?_ | refine stepY (y_assign rfl) rfl ?_ | refine stepY (y_loadA rfl rfl rfl) rfl ?_ | refine stepE (e_box rfl rfl rfl rfl rfl rfl) ?_ | refine stepE (e_alloc rfl rfl rfl) ?_)
    refine call_ Try.func69 rfl rfl (hv) rfl (by repeat (first | exact .refl _ | apply Les.cons | exact .nil)) rfl ?_
    repeat (first | refine guard_t rfl rfl rfl ?_ | refine stepY (y_move rfl) rfl ?_ | refine stepY (y_loadA rfl rfl rfl) rfl ?_ | refine stepY (y_not rfl) rfl ?_)
    refine call_ Try.func69 rfl rfl (hv2) rfl (by repeat (first | exact .refl _ | apply Les.cons | exact .nil)) rfl ?_
    repeat (first | refine seq_ ?_ | refine nil_ ?_ | refine skip_ ?_ | refine cond_f rfl ?_ | refine guard_t rfl rfl rfl ?_ | refine stepY (y_not rfl) rfl ?_ | refine stepY (y_pick_f rfl rfl) rfl ?_)
    refine draw_ [(0, true), (1, true), (2, true), (3, true), (4, true), (5, true), (6, true), (7, true), (8, true), (9, true), (10, true), (11, true), (12, true), (14, true), (15, true), (16, true), (17, true), (18, true), (19, true), (13, false), (20, false), (21, false), (22, true), (23, true), (24, false), (25, true)] 1000 [2, 3] mixed (by kernel_rfl) rfl ?_
    ((refine dY rfl (y_fieldAddr rfl) rfl rfl rfl rfl ?_); refine dY rfl (y_fieldAddr rfl) rfl rfl rfl rfl ?_; refine dY rfl (y_load1 rfl rfl rfl) rfl rfl rfl rfl ?_; refine dY rfl (y_fieldAddr rfl) rfl rfl rfl rfl ?_; refine dY rfl (y_fieldAddr rfl) rfl rfl rfl rfl ?_; refine dY rfl (y_load1 rfl rfl rfl) rfl rfl rfl rfl ?_; refine dY rfl (y_neb rfl rfl) rfl rfl rfl rfl ?_; refine dY rfl (y_fieldAddr rfl) rfl rfl rfl rfl ?_; refine dY rfl (y_fieldAddr rfl) rfl rfl rfl rfl ?_; refine dY rfl (y_load1 rfl rfl rfl) rfl rfl rfl rfl ?_; refine dY rfl (y_fieldAddr rfl) rfl rfl rfl rfl ?_; refine dY rfl (y_fieldAddr rfl) rfl rfl rfl rfl ?_; refine dY rfl (y_load1 rfl rfl rfl) rfl rfl rfl rfl ?_; refine dY rfl (y_fieldAddr rfl) rfl rfl rfl rfl ?_; refine dY rfl (y_fieldAddr rfl) rfl rfl rfl rfl ?_; refine dY rfl (y_load1 rfl rfl rfl) rfl rfl rfl rfl ?_; refine dY rfl (y_fieldAddr rfl) rfl rfl rfl rfl ?_; refine dY rfl (y_fieldAddr rfl) rfl rfl rfl rfl ?_; refine dY rfl (y_load1 rfl rfl rfl) rfl rfl rfl rfl ?_)
    refine dC rfl Try.func70 rfl rfl (ht1) rfl (by repeat (first | exact .refl _ | apply Les.cons | exact .nil)) rfl rfl ?_
    skip
    refine dC rfl Try.func70 rfl rfl (ht2) rfl (by repeat (first | exact .refl _ | apply Les.cons | exact .nil)) rfl rfl ?_
    skip
    refine dC rfl Try.func67 rfl rfl (hr) rfl (by repeat (first | exact .refl _ | apply Les.cons | exact .nil)) rfl rfl ?_
    ((refine dY rfl (y_extract rfl rfl) rfl rfl rfl rfl ?_); refine dY rfl (y_extract rfl rfl) rfl rfl rfl rfl ?_; (refine dE rfl (e_store rfl rfl rfl rfl rfl rfl rfl) rfl rfl ?_); refine dY rfl (y_assign rfl) rfl rfl rfl rfl ?_; refine dEnd ?_)
    repeat (refine ret_ ?_)
    ((apply fin_r); (repeat (first | exact .nil | exact .tmp rfl | exact .agg rfl rfl rfl | apply ResL.cons)); (repeat (exact .refl _)))
  · rw [resM_no hok] at *
    refine con_of Try.func50 rfl rfl rfl rfl rfl ?_
    repeat (first | refine seq_ ?_ | refine region_ ?_ | refine nil_ ?_ | refine stepY (y_assign rfl) rfl ?_ | refine stepY (y_loadA rfl rfl rfl) rfl ?_ | refine stepE (e_box rfl rfl rfl rfl rfl rfl) ?_ | refine stepE (e_alloc rfl rfl rfl) ?_)
    refine call_ Try.func69 rfl rfl (hv) rfl (by repeat (first | exact .refl _ | apply Les.cons | exact .nil)) rfl ?_
    repeat (first | refine guard_t rfl rfl rfl ?_ | refine stepY (y_move rfl) rfl ?_ | refine stepY (y_loadA rfl rfl rfl) rfl ?_ | refine stepY (y_not rfl) rfl ?_)
    refine call_ Try.func69 rfl rfl (hv2) rfl (by repeat (first | exact .refl _ | apply Les.cons | exact .nil)) rfl ?_
    repeat (first | refine seq_ ?_ | refine nil_ ?_ | refine skip_ ?_ | refine cond_f rfl ?_ | refine guard_t rfl rfl rfl ?_ | refine stepY (y_not rfl) rfl ?_ | refine stepY (y_pick_f rfl rfl) rfl ?_)
    refine draw_ [(0, true), (1, true), (2, true), (3, true), (4, true), (5, true), (6, true), (7, true), (8, true), (9, true), (10, true), (11, true), (12, true), (14, true), (15, true), (16, true), (17, true), (18, true), (19, true), (13, false), (20, false), (21, false), (22, true), (23, true), (24, false), (25, true)] 1000 [2, 3] mixed (by kernel_rfl) rfl ?_
    ((refine dY rfl (y_fieldAddr rfl) rfl rfl rfl rfl ?_); refine dY rfl (y_fieldAddr rfl) rfl rfl rfl rfl ?_; refine dY rfl (y_load1 rfl rfl rfl) rfl rfl rfl rfl ?_; refine dY rfl (y_fieldAddr rfl) rfl rfl rfl rfl ?_; refine dY rfl (y_fieldAddr rfl) rfl rfl rfl rfl ?_; refine dY rfl (y_load1 rfl rfl rfl) rfl rfl rfl rfl ?_; refine dY rfl (y_neb rfl rfl) rfl rfl rfl rfl ?_; refine dY rfl (y_fieldAddr rfl) rfl rfl rfl rfl ?_; refine dY rfl (y_fieldAddr rfl) rfl rfl rfl rfl ?_; refine dY rfl (y_load1 rfl rfl rfl) rfl rfl rfl rfl ?_; refine dY rfl (y_fieldAddr rfl) rfl rfl rfl rfl ?_; refine dY rfl (y_fieldAddr rfl) rfl rfl rfl rfl ?_; refine dY rfl (y_load1 rfl rfl rfl) rfl rfl rfl rfl ?_; refine dY rfl (y_fieldAddr rfl) rfl rfl rfl rfl ?_; refine dY rfl (y_fieldAddr rfl) rfl rfl rfl rfl ?_; refine dY rfl (y_load1 rfl rfl rfl) rfl rfl rfl rfl ?_; refine dY rfl (y_fieldAddr rfl) rfl rfl rfl rfl ?_; refine dY rfl (y_fieldAddr rfl) rfl rfl rfl rfl ?_; refine dY rfl (y_load1 rfl rfl rfl) rfl rfl rfl rfl ?_)
    refine dC rfl Try.func70 rfl rfl (ht1) rfl (by repeat (first | exact .refl _ | apply Les.cons | exact .nil)) rfl rfl ?_
    skip
    refine dC rfl Try.func70 rfl rfl (ht2) rfl (by repeat (first | exact .refl _ | apply Les.cons | exact .nil)) rfl rfl ?_
    skip
    refine dC rfl Try.func67 rfl rfl (hr) rfl (by repeat (first | exact .refl _ | apply Les.cons | exact .nil)) rfl rfl ?_
    ((refine dY rfl (y_extract rfl rfl) rfl rfl rfl rfl ?_); refine dY rfl (y_extract rfl rfl) rfl rfl rfl rfl ?_; (refine dE rfl (e_store rfl rfl rfl rfl rfl rfl rfl) rfl rfl ?_); refine dY rfl (y_assign rfl) rfl rfl rfl rfl ?_; refine dEnd ?_)
    repeat (refine ret_ ?_)
    ((apply fin_r); (repeat (first | exact .nil | exact .tmp rfl | exact .agg rfl rfl rfl | apply ResL.cons)); (repeat (exact .refl _)))
theorem added3_c (p p' s : Bool) (m m' d d' : Nat) (h : vG p m d) (h' : vG p' m' d') : Con Try.prog 71 [GF p m d, GF p' m' d', Bo s] (.tp [Bo (addN p (p' != s) (m * d') (m' * d)), M (addA p (p' != s) (m * d') (m' * d))]) := by
  have hv := RFv_t h
  have hv2 := RFv_t h'
  obtain ⟨b1, b2, b3, b4, b5, b6⟩ := vG_bd h
  obtain ⟨c1, c2, c3, c4, c5, c6⟩ := vG_bd h'
  have ht1 := times3_c m d' (by omega) (by omega)
  have ht2 := times3_c m' d (by omega) (by omega)
  have e1 := ln_mul b1 c2
  have e2 := ln_mul c1 b2
  have hs := sum3_c p (p' != s) (m * d') (m' * d) (by omega) (by omega)
  rw [← bne_dec] at *
  refine con_of Try.func71 rfl rfl rfl rfl rfl ?_
  repeat (first | refine seq_ ?_ | refine region_ ?_ | refine nil_ ?_ | refine stepY (y_assign rfl) rfl ?_ | refine stepE (e_box rfl rfl rfl rfl rfl rfl) ?_)
  refine draw_ [(0, true), (1, true), (2, true), (3, true), (4, true), (5, true), (6, true), (7, true), (8, true), (10, true), (11, true), (12, true), (13, true), (14, true), (15, true), (16, true), (17, true), (18, true), (19, true), (20, true), (9, false), (21, false), (22, false), (23, true), (24, true), (25, true), (26, true)] 1000 [3, 4] mixed (by kernel_rfl) rfl ?_
  ((refine dY rfl (y_fieldAddr rfl) rfl rfl rfl rfl ?_); refine dY rfl (y_fieldAddr rfl) rfl rfl rfl rfl ?_; refine dY rfl (y_load1 rfl rfl rfl) rfl rfl rfl rfl ?_; refine dY rfl (y_fieldAddr rfl) rfl rfl rfl rfl ?_; refine dY rfl (y_fieldAddr rfl) rfl rfl rfl rfl ?_; refine dY rfl (y_load1 rfl rfl rfl) rfl rfl rfl rfl ?_; refine dY rfl (y_fieldAddr rfl) rfl rfl rfl rfl ?_; refine dY rfl (y_fieldAddr rfl) rfl rfl rfl rfl ?_; refine dY rfl (y_load1 rfl rfl rfl) rfl rfl rfl rfl ?_; refine dY rfl (y_fieldAddr rfl) rfl rfl rfl rfl ?_; refine dY rfl (y_fieldAddr rfl) rfl rfl rfl rfl ?_; refine dY rfl (y_load1 rfl rfl rfl) rfl rfl rfl rfl ?_; refine dY rfl (y_move rfl) rfl rfl rfl rfl ?_; refine dY rfl (y_neb rfl rfl) rfl rfl rfl rfl ?_; refine dY rfl (y_fieldAddr rfl) rfl rfl rfl rfl ?_; refine dY rfl (y_fieldAddr rfl) rfl rfl rfl rfl ?_; refine dY rfl (y_load1 rfl rfl rfl) rfl rfl rfl rfl ?_; refine dY rfl (y_fieldAddr rfl) rfl rfl rfl rfl ?_; refine dY rfl (y_fieldAddr rfl) rfl rfl rfl rfl ?_; refine dY rfl (y_load1 rfl rfl rfl) rfl rfl rfl rfl ?_)
  refine dC rfl Try.func70 rfl rfl (ht1) rfl (by repeat (first | exact .refl _ | apply Les.cons | exact .nil)) rfl rfl ?_
  skip
  refine dC rfl Try.func70 rfl rfl (ht2) rfl (by repeat (first | exact .refl _ | apply Les.cons | exact .nil)) rfl rfl ?_
  skip
  refine dC rfl Try.func88 rfl rfl (hs) rfl (by repeat (first | exact .refl _ | apply Les.cons | exact .nil)) rfl rfl ?_
  ((refine dY rfl (y_extract rfl rfl) rfl rfl rfl rfl ?_); refine dY rfl (y_extract rfl rfl) rfl rfl rfl rfl ?_; refine dY rfl (y_assign rfl) rfl rfl rfl rfl ?_; refine dY rfl (y_assign rfl) rfl rfl rfl rfl ?_; refine dEnd ?_)
  repeat (refine ret_ ?_)
  ((apply fin_r); (repeat (first | exact .nil | exact .tmp rfl | apply ResL.cons)); (repeat (exact .refl _)))
theorem RFAdd_g (p p' : Bool) (m m' d d' : Nat) (h : vG p m d) (h' : vG p' m' d') : Con Try.prog 51 [GF p m d, GF p' m' d'] (resM (mkRat (sgn p m) d + mkRat (sgn p' m') d')) := by
  have hv := RFv_t h
  have hv2 := RFv_t h'
  obtain ⟨b1, b2, b3, b4, b5, b6⟩ := vG_bd h
  obtain ⟨c1, c2, c3, c4, c5, c6⟩ := vG_bd h'
  have ht3 := times3_c d d' (by omega) (by omega)
  have e1 := ln_mul b1 c2
  have e2 := ln_mul c1 b2
  have e3 := ln_mul b2 c2
  have ha := added3_c p p' false m m' d d' h h'
  rw [Bool.bne_false] at ha
  have e4 := ln_addA (p := p) (q := p') e1 e2
  have hr := made3_c (addN p p' (m * d') (m' * d)) (addA p p' (m * d') (m' * d)) (d * d') (Nat.mul_pos b3 c3) (by omega) (by omega)
  rw [addA_val, sgn_mulr, sgn_mulr, ← Rat.mkRat_add_mkRat _ _ (by omega) (by omega)] at hr
  generalize mkRat (sgn p m) d + mkRat (sgn p' m') d' = x at *
  by_cases hok : okQ x
  · rw [resM_ok hok] at *
    refine con_of Try.func51 rfl rfl rfl rfl rfl ?_
    repeat (first | refine seq_ ?_ | refine region_ ?_ | refine nil_ ?_ | refine stepY (y_assign rfl) rfl ?_ | refine stepY (y_loadA rfl rfl rfl) rfl ?_ | refine stepE (e_box rfl rfl rfl rfl rfl rfl) ?_ | refine stepE (e_alloc rfl rfl rfl) ?_)
    refine call_ Try.func69 rfl rfl (hv) rfl (by repeat (first | exact .refl _ | apply Les.cons | exact .nil)) rfl ?_
    repeat (first | refine guard_t rfl rfl rfl ?_ | refine stepY (y_move rfl) rfl ?_ | refine stepY (y_loadA rfl rfl rfl) rfl ?_ | refine stepY (y_not rfl) rfl ?_)
    refine call_ Try.func69 rfl rfl (hv2) rfl (by repeat (first | exact .refl _ | apply Les.cons | exact .nil)) rfl ?_
    repeat (first | refine seq_ ?_ | refine region_ ?_ | refine nil_ ?_ | refine skip_ ?_ | refine cond_f rfl ?_ | refine guard_t rfl rfl rfl ?_ | refine stepY (y_loadA rfl rfl rfl) rfl ?_ | refine stepY (y_not rfl) rfl ?_ | refine stepY (y_pick_f rfl rfl) rfl ?_)
    refine call_ Try.func71 rfl rfl (ha) rfl (by repeat (first | exact .refl _ | apply Les.cons | exact .nil)) rfl ?_
    repeat (first | refine seq_ ?_ | refine region_ ?_ | refine nil_ ?_ | refine stepY (y_move rfl) rfl ?_ | refine stepY (y_assign rfl) rfl ?_ | refine stepY (y_load1 rfl rfl rfl) rfl ?_ | refine stepY (y_fieldAddr rfl) rfl ?_ | refine stepY (y_extract rfl rfl) rfl ?_)
    refine call_ Try.func70 rfl rfl (ht3) rfl (by repeat (first | exact .refl _ | apply Les.cons | exact .nil)) rfl ?_
    skip
    refine call_ Try.func67 rfl rfl (hr) rfl (by repeat (first | exact .refl _ | apply Les.cons | exact .nil)) rfl ?_
    repeat (first | refine nil_ ?_ | refine ret_ ?_ | refine stepY (y_assign rfl) rfl ?_ | refine stepY (y_extract rfl rfl) rfl ?_ | refine stepE (e_store rfl rfl rfl rfl rfl rfl rfl) ?_)
    ((apply fin_r); (repeat (first | exact .nil | exact .tmp rfl | exact .agg rfl rfl rfl | apply ResL.cons)); (repeat (exact .refl _)))
  · rw [resM_no hok] at *
    refine con_of Try.func51 rfl rfl rfl rfl rfl ?_
    repeat (first | refine seq_ ?_ | refine region_ ?_ | refine nil_ ?_ | refine stepY (y_assign rfl) rfl ?_ | refine stepY (y_loadA rfl rfl rfl) rfl ?_ | refine stepE (e_box rfl rfl rfl rfl rfl rfl) ?_ | refine stepE (e_alloc rfl rfl rfl) ?_)
    refine call_ Try.func69 rfl rfl (hv) rfl (by repeat (first | exact .refl _ | apply Les.cons | exact .nil)) rfl ?_
    repeat (first | refine guard_t rfl rfl rfl ?_ | refine stepY (y_move rfl) rfl ?_ | refine stepY (y_loadA rfl rfl rfl) rfl ?_ | refine stepY (y_not rfl) rfl ?_)
    refine call_ Try.func69 rfl rfl (hv2) rfl (by repeat (first | exact .refl _ | apply Les.cons | exact .nil)) rfl ?_
    repeat (first | refine seq_ ?_ | refine region_ ?_ | refine nil_ ?_ | refine skip_ ?_ | refine cond_f rfl ?_ | refine guard_t rfl rfl rfl ?_ | refine stepY (y_loadA rfl rfl rfl) rfl ?_ | refine stepY (y_not rfl) rfl ?_ | refine stepY (y_pick_f rfl rfl) rfl ?_)
    refine call_ Try.func71 rfl rfl (ha) rfl (by repeat (first | exact .refl _ | apply Les.cons | exact .nil)) rfl ?_
    repeat (first | refine seq_ ?_ | refine region_ ?_ | refine nil_ ?_ | refine stepY (y_move rfl) rfl ?_ | refine stepY (y_assign rfl) rfl ?_ | refine stepY (y_load1 rfl rfl rfl) rfl ?_ | refine stepY (y_fieldAddr rfl) rfl ?_ | refine stepY (y_extract rfl rfl) rfl ?_)
    refine call_ Try.func70 rfl rfl (ht3) rfl (by repeat (first | exact .refl _ | apply Les.cons | exact .nil)) rfl ?_
    skip
    refine call_ Try.func67 rfl rfl (hr) rfl (by repeat (first | exact .refl _ | apply Les.cons | exact .nil)) rfl ?_
    repeat (first | refine nil_ ?_ | refine ret_ ?_ | refine stepY (y_assign rfl) rfl ?_ | refine stepY (y_extract rfl rfl) rfl ?_ | refine stepE (e_store rfl rfl rfl rfl rfl rfl rfl) ?_)
    ((apply fin_r); (repeat (first | exact .nil | exact .tmp rfl | exact .agg rfl rfl rfl | apply ResL.cons)); (repeat (exact .refl _)))
theorem RFAdd_q (x y : Rat) (hx : okQ x) (hy : okQ y) : Con Try.prog 51 [QV x, QV y] (resM (x + y)) := by
  have := RFAdd_g _ _ _ _ _ _ (vG_q hx) (vG_q hy)
  rwa [mk_self, mk_self] at this
theorem RFMul_q (x y : Rat) (hx : okQ x) (hy : okQ y) : Con Try.prog 50 [QV x, QV y] (resM (x * y)) := by
  have := RFMul_g _ _ _ _ _ _ (vG_q hx) (vG_q hy)
  rwa [mk_self, mk_self] at this
end Go.Av

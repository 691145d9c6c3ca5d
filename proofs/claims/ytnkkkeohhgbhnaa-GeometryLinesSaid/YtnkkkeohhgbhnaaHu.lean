/- Contracts behind a law: no conditions beyond those in each statement. -/
import Derived.Test.YtnkkkeohhgbhnaaHf
import Derived.Test.YtnkkkeohhgbhnaaNj
import Derived.Test.YtnkkkeohhgbhnaaJ3
set_option maxHeartbeats 8000000
set_option exponentiation.threshold 100000
set_option maxRecDepth 100000
set_option linter.unusedVariables false
set_option linter.unusedSimpArgs false
namespace Go.Av
open Go Go.Proofs

open Go.RowKit
/-! Lines: the law -/
theorem on_rat (A B C X Y D : Int) (h0 : D ≠ 0) (h : A * X + B * Y = C * D) : Rat.divInt A 1 * Rat.divInt X D + Rat.divInt B 1 * Rat.divInt Y D = Rat.divInt C 1 := by
  rw [Rat.divInt_mul_divInt, Rat.divInt_mul_divInt, Int.one_mul, Rat.divInt_add_divInt _ _ h0 h0, Rat.divInt_eq_divInt_iff (by simp [h0]) (by decide)]
  grind
theorem lnm {m n a b : Nat} (h1 : ln m ≤ a) (h2 : ln n ≤ b) : ln (m * n) ≤ a + b := by
  rw [ln_le] at *
  rw [Nat.pow_add]
  rcases Nat.eq_zero_or_pos n with h | h
  · subst h
    rw [Nat.mul_zero]
    exact Nat.mul_pos (Nat.pow_pos B_pos) (Nat.pow_pos B_pos)
  · exact Nat.lt_of_lt_of_le (Nat.mul_lt_mul_of_pos_right h1 h) (Nat.mul_le_mul_left _ (Nat.le_of_lt h2))
theorem ln_one : ln (1 : Int).natAbs ≤ 4 := by rw [ln_le]; decide
theorem okQ_prod {A X D : Int} (ha : i6 A) (hx : ln X.natAbs ≤ 4) (hd : ln D.natAbs ≤ 4) (h0 : D ≠ 0) : Rat.divInt A 1 * Rat.divInt X D = Rat.divInt (A * X) D ∧ okQ (Rat.divInt (A * X) D) := by
  refine ⟨by rw [Rat.divInt_mul_divInt, Int.one_mul], okQ_divB _ _ ?_ (by omega) h0⟩
  rw [Int.natAbs_mul]
  have := lnm (ln_int ha) hx
  omega
theorem on_c (A B C X Y D : Int) (ha : i6 A) (hb : i6 B) (hc : i6 C) (hx : ln X.natAbs ≤ 4) (hy : ln Y.natAbs ≤ 4) (hd : ln D.natAbs ≤ 4) (h0 : D ≠ 0) (h : A * X + B * Y = C * D) : Con Try.prog 23 [lnP (A, B, C), fpM (Rat.divInt X D) (Rat.divInt Y D)] (Bo true) := by
  have l1 := ln_one
  have la := ln_int ha
  have lb := ln_int hb
  have lc := ln_int hc
  have fa := RFromInt_c A ha
  have fb := RFromInt_c B hb
  have fc := RFromInt_c C hc
  have f1 := RFromInt_c 1 (by omega)
  have na := RNew_q A 1 (by omega) l1 (by decide)
  have nb := RNew_q B 1 (by omega) l1 (by decide)
  have nc := RNew_q C 1 (by omega) l1 (by decide)
  have okA := okQ_divB A 1 (by omega) (by omega) (by decide)
  have okB := okQ_divB B 1 (by omega) (by omega) (by decide)
  have okC := okQ_divB C 1 (by omega) (by omega) (by decide)
  have okX := okQ_divB X D (by omega) (by omega) h0
  have okY := okQ_divB Y D (by omega) (by omega) h0
  obtain ⟨e1, k1⟩ := okQ_prod ha hx hd h0
  obtain ⟨e2, k2⟩ := okQ_prod hb hy hd h0
  have hr := on_rat A B C X Y D h0 h
  have m1 := RFMul_q _ _ okA okX
  have m2 := RFMul_q _ _ okB okY
  rw [e1, resM_ok k1] at m1
  rw [e2, resM_ok k2] at m2
  rw [e1, e2] at hr
  have s1 := RFAdd_q _ _ k1 k2
  rw [hr, resM_ok okC] at s1
  generalize Rat.divInt (A * X) D = p1 at *
  generalize Rat.divInt (B * Y) D = p2 at *
  generalize Rat.divInt X D = x at *
  generalize Rat.divInt Y D = y at *
  generalize Rat.divInt A 1 = a at *
  generalize Rat.divInt B 1 = b at *
  generalize Rat.divInt C 1 = c at *
  have hs := Same_m (decide (c.num < 0)) false c.num.natAbs c.den
  refine con_of Try.func23 rfl rfl rfl rfl rfl ?_
  repeat (first | refine seq_ ?_ | refine region_ ?_ | refine nil_ ?_ | refine stepY (y_assign rfl) rfl ?_ | refine stepY (y_load1 rfl rfl rfl) rfl ?_ | refine stepY (y_fieldAddr rfl) rfl ?_ | refine stepE (e_box rfl rfl rfl rfl rfl rfl) ?_)
  refine call_ Try.func49 rfl rfl (fa) rfl (by repeat (first | exact .refl _ | apply Les.cons | exact .nil)) rfl ?_
  skip
  refine call_ Try.func49 rfl rfl (f1) rfl (by repeat (first | exact .refl _ | apply Les.cons | exact .nil)) rfl ?_
  skip
  refine call_ Try.func48 rfl rfl (na) rfl (by repeat (first | exact .refl _ | exact .tag _ _ | apply Le.ag | apply Les.cons | exact .nil)) rfl ?_
  repeat (first | refine seq_ ?_ | refine region_ ?_ | refine nil_ ?_ | refine stepY (y_move rfl) rfl ?_ | refine stepY (y_assign rfl) rfl ?_ | refine stepY (y_load1 rfl rfl rfl) rfl ?_ | refine stepY (y_fieldAddr rfl) rfl ?_ | refine stepY (y_extract rfl rfl) rfl ?_ | refine stepE (e_alloc rfl rfl rfl) ?_ | refine stepE (e_store rfl rfl rfl rfl rfl rfl rfl) ?_)
  refine call_ Try.func49 rfl rfl (fb) rfl (by repeat (first | exact .refl _ | apply Les.cons | exact .nil)) rfl ?_
  skip
  refine call_ Try.func49 rfl rfl (f1) rfl (by repeat (first | exact .refl _ | apply Les.cons | exact .nil)) rfl ?_
  skip
  refine call_ Try.func48 rfl rfl (nb) rfl (by repeat (first | exact .refl _ | exact .tag _ _ | apply Le.ag | apply Les.cons | exact .nil)) rfl ?_
  repeat (first | refine seq_ ?_ | refine region_ ?_ | refine nil_ ?_ | refine stepY (y_move rfl) rfl ?_ | refine stepY (y_assign rfl) rfl ?_ | refine stepY (y_load1 rfl rfl rfl) rfl ?_ | refine stepY (y_fieldAddr rfl) rfl ?_ | refine stepY (y_extract rfl rfl) rfl ?_ | refine stepE (e_alloc rfl rfl rfl) ?_ | refine stepE (e_store rfl rfl rfl rfl rfl rfl rfl) ?_)
  refine call_ Try.func49 rfl rfl (fc) rfl (by repeat (first | exact .refl _ | apply Les.cons | exact .nil)) rfl ?_
  skip
  refine call_ Try.func49 rfl rfl (f1) rfl (by repeat (first | exact .refl _ | apply Les.cons | exact .nil)) rfl ?_
  skip
  refine call_ Try.func48 rfl rfl (nc) rfl (by repeat (first | exact .refl _ | exact .tag _ _ | apply Le.ag | apply Les.cons | exact .nil)) rfl ?_
  repeat (first | refine seq_ ?_ | refine region_ ?_ | refine nil_ ?_ | refine stepY (y_move rfl) rfl ?_ | refine stepY (y_assign rfl) rfl ?_ | refine stepY (y_loadA rfl rfl rfl) rfl ?_ | refine stepY (y_fieldAddr rfl) rfl ?_ | refine stepY (y_extract rfl rfl) rfl ?_ | refine stepE (e_alloc rfl rfl rfl) ?_ | refine stepE (e_store rfl rfl rfl rfl rfl rfl rfl) ?_)
  refine call_ Try.func50 rfl rfl (m1) rfl (by repeat (first | exact .refl _ | apply Les.cons | exact .nil)) rfl ?_
  repeat (first | refine seq_ ?_ | refine region_ ?_ | refine nil_ ?_ | refine stepY (y_move rfl) rfl ?_ | refine stepY (y_assign rfl) rfl ?_ | refine stepY (y_loadA rfl rfl rfl) rfl ?_ | refine stepY (y_fieldAddr rfl) rfl ?_ | refine stepY (y_extract rfl rfl) rfl ?_ | refine stepE (e_alloc rfl rfl rfl) ?_ | refine stepE (e_store rfl rfl rfl rfl rfl rfl rfl) ?_)
  refine call_ Try.func50 rfl rfl (m2) rfl (by repeat (first | exact .refl _ | apply Les.cons | exact .nil)) rfl ?_
  repeat (first | refine seq_ ?_ | refine region_ ?_ | refine nil_ ?_ | refine stepY (y_move rfl) rfl ?_ | refine stepY (y_assign rfl) rfl ?_ | refine stepY (y_loadA rfl rfl rfl) rfl ?_ | refine stepY (y_extract rfl rfl) rfl ?_ | refine stepE (e_alloc rfl rfl rfl) ?_ | refine stepE (e_store rfl rfl rfl rfl rfl rfl rfl) ?_)
  refine call_ Try.func51 rfl rfl (s1) rfl (by repeat (first | exact .refl _ | apply Les.cons | exact .nil)) rfl ?_
  repeat (first | refine seq_ ?_ | refine region_ ?_ | refine nil_ ?_ | refine guard_t rfl rfl rfl ?_ | refine stepY (y_move rfl) rfl ?_ | refine stepY (y_assign rfl) rfl ?_ | refine stepY (y_loadA rfl rfl rfl) rfl ?_ | refine stepY (y_extract rfl rfl) rfl ?_ | refine stepY (y_pick_t rfl rfl) rfl ?_ | refine stepY (y_cmpT rfl rfl rfl (by omega)) rfl ?_ | refine stepE (e_alloc rfl rfl rfl) ?_ | refine stepE (e_store rfl rfl rfl rfl rfl rfl rfl) ?_)
  refine call_ Try.func31 rfl rfl (hs) rfl (by repeat (first | exact .refl _ | apply Les.cons | exact .nil)) rfl ?_
  repeat (first | refine nil_ ?_ | refine ret_ ?_ | refine stepY (y_assign rfl) rfl ?_ | refine stepY (y_pick_t rfl rfl) rfl ?_)
  ((apply fin_r); (repeat (first | exact .nil | exact .tmp rfl | apply ResL.cons)); (repeat (exact .refl _)))
end Go.Av

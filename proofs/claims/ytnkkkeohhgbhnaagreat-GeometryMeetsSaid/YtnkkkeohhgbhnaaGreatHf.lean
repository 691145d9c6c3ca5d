/- Contracts behind a law: no conditions beyond those in each statement. -/
import Derived.Test.YtnkkkeohhgbhnaaGreatJ4
import Derived.Test.YtnkkkeohhgbhnaaGreatJ5
set_option maxHeartbeats 8000000
set_option exponentiation.threshold 100000
set_option maxRecDepth 100000
set_option linter.unusedVariables false
set_option linter.unusedSimpArgs false
namespace Go.Av
open Go Go.Proofs

open Go.RowKit
/-! The reference's point of two lines, the law on it -/
theorem gRSub (x y : Int) (hx : ln x.natAbs ≤ 512) (hy : ln y.natAbs ≤ 512) : Con Tryz.prog 52 [IV x, IV y] (resI (x - y)) := by
  have := RSub_s (decide (x < 0)) (decide (y < 0)) x.natAbs y.natAbs (vld_iv hx) (vld_iv hy)
  rwa [gsgn, gsgn] at this
theorem gRMul (x y : Int) (hx : ln x.natAbs ≤ 512) (hy : ln y.natAbs ≤ 512) : Con Tryz.prog 51 [IV x, IV y] (resI (x * y)) := by
  have := RMul_s (decide (x < 0)) (decide (y < 0)) x.natAbs y.natAbs (vld_iv hx) (vld_iv hy)
  rwa [gsgn, gsgn] at this
theorem difference_c (a b c d : Int) (ha : i6 a) (hb : i6 b) (hc : i6 c) (hd : i6 d) : Con Tryz.prog 33 [I a, I b, I c, I d] (FIV (det a d c b)) := by
  have fa := RFromInt_c a ha
  have fb := RFromInt_c b hb
  have fc := RFromInt_c c hc
  have fd := RFromInt_c d hd
  have la := ln_int ha
  have lb := ln_int hb
  have lc := ln_int hc
  have ld := ln_int hd
  have p1 := ln4 (Nat.le_trans (prod_bd ha hb) (by omega))
  have p2 := ln4 (Nat.le_trans (prod_bd hc hd) (by omega))
  have p3 := det_ln ha hd hc hb
  have m1 := gRMul a b (by omega) (by omega)
  have m2 := gRMul c d (by omega) (by omega)
  have hs := gRSub (a * b) (c * d) (by omega) (by omega)
  unfold det at *
  rw [Int.mul_comm d c] at *
  rw [resI_ok (by omega)] at m1 m2 hs
  generalize a * b = x at *
  generalize c * d = y at *
  generalize x - y = z at *
  refine con_of Tryz.func33 rfl rfl rfl rfl rfl ?_
  repeat (first | refine seq_ ?_ | refine region_ ?_ | refine nil_ ?_ | refine stepY (y_move rfl) rfl ?_ | refine stepE (e_alloc rfl rfl rfl) ?_)
  refine call_ Tryz.func39 rfl rfl (fa) rfl (by repeat (first | exact .refl _ | apply Les.cons | exact .nil)) rfl ?_
  repeat (refine stepY (y_move rfl) rfl ?_)
  refine call_ Tryz.func39 rfl rfl (fb) rfl (by repeat (first | exact .refl _ | apply Les.cons | exact .nil)) rfl ?_
  skip
  refine call_ Tryz.func51 rfl rfl (m1) rfl (by repeat (first | exact .refl _ | exact .tag _ _ | apply Le.ag | apply Les.cons | exact .nil)) rfl ?_
  repeat (first | refine seq_ ?_ | refine region_ ?_ | refine nil_ ?_ | refine stepY (y_move rfl) rfl ?_ | refine stepY (y_assign rfl) rfl ?_ | refine stepY (y_extract rfl rfl) rfl ?_ | refine stepE (e_alloc rfl rfl rfl) ?_ | refine stepE (e_store rfl rfl rfl rfl rfl rfl rfl) ?_)
  refine call_ Tryz.func39 rfl rfl (fc) rfl (by repeat (first | exact .refl _ | apply Les.cons | exact .nil)) rfl ?_
  repeat (refine stepY (y_move rfl) rfl ?_)
  refine call_ Tryz.func39 rfl rfl (fd) rfl (by repeat (first | exact .refl _ | apply Les.cons | exact .nil)) rfl ?_
  skip
  refine call_ Tryz.func51 rfl rfl (m2) rfl (by repeat (first | exact .refl _ | exact .tag _ _ | apply Le.ag | apply Les.cons | exact .nil)) rfl ?_
  repeat (first | refine seq_ ?_ | refine region_ ?_ | refine nil_ ?_ | refine stepY (y_move rfl) rfl ?_ | refine stepY (y_assign rfl) rfl ?_ | refine stepY (y_loadA rfl rfl rfl) rfl ?_ | refine stepY (y_extract rfl rfl) rfl ?_ | refine stepE (e_alloc rfl rfl rfl) ?_ | refine stepE (e_store rfl rfl rfl rfl rfl rfl rfl) ?_)
  refine call_ Tryz.func52 rfl rfl (hs) rfl (by repeat (first | exact .refl _ | exact .tag _ _ | apply Le.ag | apply Les.cons | exact .nil)) rfl ?_
  repeat (first | refine seq_ ?_ | refine region_ ?_ | refine nil_ ?_ | refine ret_ ?_ | refine stepY (y_move rfl) rfl ?_ | refine stepY (y_assign rfl) rfl ?_ | refine stepY (y_loadA rfl rfl rfl) rfl ?_ | refine stepY (y_extract rfl rfl) rfl ?_ | refine stepE (e_alloc rfl rfl rfl) ?_ | refine stepE (e_store rfl rfl rfl rfl rfl rfl rfl) ?_)
  ((apply fin_r); (repeat (first | exact .nil | exact .agg rfl rfl rfl | apply ResL.cons)); (repeat (exact .refl _)))
abbrev mQ (x : Rat) : List PV := [Bo (decide (x.num < 0)), M x.num.natAbs, Bo false, M x.den]
abbrev fpM (x y : Rat) : PV := .ag [Bo (decide (x.num < 0)), M x.num.natAbs, Bo false, M x.den, Bo (decide (y.num < 0)), M y.num.natAbs, Bo false, M y.den]
def rmeetR (a b : Ln) : PV := if badL a b then .tp [fpZ, E_ 1] else if detD a b = 0 then .tp [fpZ, E_ 24] else .tp [fpM (Rat.divInt (detX a b) (detD a b)) (Rat.divInt (detY a b) (detD a b)), E_ 0]
theorem RNew_q (n d : Int) (hn : ln n.natAbs ≤ 4) (hd : ln d.natAbs ≤ 4) (h0 : d ≠ 0) : Con Tryz.prog 34 [IV n, IV d] (.tp [QV (Rat.divInt n d), E_ 0]) := by
  have hN := RNew_s (decide (n < 0)) (decide (d < 0)) n.natAbs d.natAbs (vld_iv (by omega)) (vld_iv (by omega)) (by omega)
  rwa [divInt_sgn n d h0, resM_ok (okQ_divB n d (by omega) (by omega) h0)] at hN
theorem RMeet_c (a b : Ln) (ha : lnOk a) (hbo : lnOk b) : Con Tryz.prog 10 [lnP a, lnP b] (rmeetR a b) := by
  obtain ⟨a1, a2, a3⟩ := ha
  obtain ⟨b1, b2, b3⟩ := hbo
  unfold rmeetR
  by_cases hb : badL a b
  · rw [if_pos hb]
    refine con_of Tryz.func10 rfl rfl rfl rfl rfl ?_
    by_cases c1 : a.1 = 0 ∧ a.2.1 = 0
    · obtain ⟨c1, c2⟩ := c1
      repeat (first | refine seq_ ?_ | refine region_ ?_ | refine nil_ ?_ | refine ret_ ?_ | refine cond_t rfl ?_ | refine guard_t rfl rfl rfl ?_ | refine guard_f rfl rfl rfl rfl ?_ | refine guard_u rfl rfl rfl ?_ | refine stepY (y_move rfl) rfl ?_ | refine stepY (y_assign rfl) rfl ?_ | refine stepY (y_load1 rfl rfl rfl) rfl ?_ | refine stepY (y_fieldAddr rfl) rfl ?_ | refine stepY (y_pick_t rfl rfl) rfl ?_ | refine stepY (y_build rfl rfl rfl) rfl ?_ | refine stepY (y_cmpT rfl rfl rfl (by omega)) rfl ?_ | refine stepE (e_box rfl rfl rfl rfl rfl rfl) ?_ | refine stepE (e_alloc rfl rfl rfl) ?_ | refine stepE (e_store rfl rfl rfl rfl rfl rfl rfl) ?_)
      ((apply fin_r); (repeat (first | exact .nil | exact .tmp rfl | exact .agg rfl rfl rfl | apply ResL.cons)); (repeat (exact .refl _)))
    · obtain ⟨c3, c4⟩ := hb.resolve_left c1
      by_cases c2 : a.1 = 0
      · have c5 : ¬ a.2.1 = 0 := fun e => c1 ⟨c2, e⟩
        repeat (first | refine seq_ ?_ | refine region_ ?_ | refine nil_ ?_ | refine ret_ ?_ | refine cond_t rfl ?_ | refine guard_t rfl rfl rfl ?_ | refine stepY (y_move rfl) rfl ?_ | refine stepY (y_assign rfl) rfl ?_ | refine stepY (y_load1 rfl rfl rfl) rfl ?_ | refine stepY (y_fieldAddr rfl) rfl ?_ | (first | refine stepY (y_pick_t rfl rfl) rfl ?_ | refine stepY (y_pick_f rfl rfl) rfl ?_) | refine stepY (y_build rfl rfl rfl) rfl ?_ | (first | refine stepY (y_cmpT rfl rfl rfl (by omega)) rfl ?_ | refine stepY (y_cmpF rfl rfl rfl (by omega)) rfl ?_) | refine stepE (e_box rfl rfl rfl rfl rfl rfl) ?_ | refine stepE (e_alloc rfl rfl rfl) ?_ | refine stepE (e_store rfl rfl rfl rfl rfl rfl rfl) ?_)
        ((apply fin_r); (repeat (first | exact .nil | exact .tmp rfl | exact .agg rfl rfl rfl | apply ResL.cons)); (repeat (exact .refl _)))
      · repeat (first | refine seq_ ?_ | refine region_ ?_ | refine nil_ ?_ | refine ret_ ?_ | refine cond_t rfl ?_ | refine guard_t rfl rfl rfl ?_ | refine guard_f rfl rfl rfl rfl ?_ | refine stepY (y_move rfl) rfl ?_ | refine stepY (y_assign rfl) rfl ?_ | refine stepY (y_load1 rfl rfl rfl) rfl ?_ | refine stepY (y_fieldAddr rfl) rfl ?_ | (first | refine stepY (y_pick_t rfl rfl) rfl ?_ | refine stepY (y_pick_f rfl rfl) rfl ?_) | refine stepY (y_build rfl rfl rfl) rfl ?_ | (first | refine stepY (y_cmpT rfl rfl rfl (by omega)) rfl ?_ | refine stepY (y_cmpF rfl rfl rfl (by omega)) rfl ?_) | refine stepE (e_box rfl rfl rfl rfl rfl rfl) ?_ | refine stepE (e_alloc rfl rfl rfl) ?_ | refine stepE (e_store rfl rfl rfl rfl rfl rfl rfl) ?_)
        ((apply fin_r); (repeat (first | exact .nil | exact .tmp rfl | exact .agg rfl rfl rfl | apply ResL.cons)); (repeat (exact .refl _)))
  · rw [if_neg hb]
    have m0 := difference_c a.1 b.2.1 b.1 a.2.1 a1 b2 b1 a2
    have l0 := det_ln a1 a2 b1 b2
    rw [show det a.1 a.2.1 b.1 b.2.1 = detD a b from rfl] at m0 l0
    by_cases h0 : detD a b = 0
    · rw [if_pos h0]
      rw [h0] at m0
      refine con_of Tryz.func10 rfl rfl rfl rfl rfl ?_
      by_cases c1 : a.1 = 0
      · have c2 : ¬ a.2.1 = 0 := fun e => hb (.inl ⟨c1, e⟩)
        by_cases c3 : b.1 = 0
        · have c4 : ¬ b.2.1 = 0 := fun e => hb (.inr ⟨c3, e⟩)
          repeat (first | refine seq_ ?_ | refine region_ ?_ | refine nil_ ?_ | refine skip_ ?_ | refine cond_f rfl ?_ | refine guard_t rfl rfl rfl ?_ | refine stepY (y_move rfl) rfl ?_ | refine stepY (y_assign rfl) rfl ?_ | refine stepY (y_load1 rfl rfl rfl) rfl ?_ | refine stepY (y_fieldAddr rfl) rfl ?_ | (first | refine stepY (y_pick_t rfl rfl) rfl ?_ | refine stepY (y_pick_f rfl rfl) rfl ?_) | (first | refine stepY (y_cmpT rfl rfl rfl (by omega)) rfl ?_ | refine stepY (y_cmpF rfl rfl rfl (by omega)) rfl ?_) | refine stepE (e_box rfl rfl rfl rfl rfl rfl) ?_ | refine stepE (e_alloc rfl rfl rfl) ?_)
          refine call_ Tryz.func33 rfl rfl (m0) rfl (by repeat (first | exact .refl _ | apply Les.cons | exact .nil)) rfl ?_
          repeat (first | refine seq_ ?_ | refine region_ ?_ | refine nil_ ?_ | refine ret_ ?_ | refine cond_t rfl ?_ | refine stepY (y_assign rfl) rfl ?_ | refine stepY (y_load1 rfl rfl rfl) rfl ?_ | refine stepY (y_fieldAddr rfl) rfl ?_ | refine stepY (y_len_si rfl) rfl ?_ | refine stepY (y_build rfl rfl rfl) rfl ?_ | refine stepY (y_bin rfl rfl rfl) rfl ?_ | refine stepE (e_alloc rfl rfl rfl) ?_ | refine stepE (e_store rfl rfl rfl rfl rfl rfl rfl) ?_)
          ((apply fin_r); (repeat (first | exact .nil | exact .tmp rfl | exact .agg rfl rfl rfl | apply ResL.cons)); (repeat (exact .refl _)))
        · repeat (first | refine seq_ ?_ | refine region_ ?_ | refine nil_ ?_ | refine skip_ ?_ | refine cond_f rfl ?_ | refine guard_t rfl rfl rfl ?_ | refine guard_f rfl rfl rfl rfl ?_ | refine stepY (y_move rfl) rfl ?_ | refine stepY (y_assign rfl) rfl ?_ | refine stepY (y_load1 rfl rfl rfl) rfl ?_ | refine stepY (y_fieldAddr rfl) rfl ?_ | (first | refine stepY (y_pick_t rfl rfl) rfl ?_ | refine stepY (y_pick_f rfl rfl) rfl ?_) | (first | refine stepY (y_cmpT rfl rfl rfl (by omega)) rfl ?_ | refine stepY (y_cmpF rfl rfl rfl (by omega)) rfl ?_) | refine stepE (e_box rfl rfl rfl rfl rfl rfl) ?_ | refine stepE (e_alloc rfl rfl rfl) ?_)
          refine call_ Tryz.func33 rfl rfl (m0) rfl (by repeat (first | exact .refl _ | apply Les.cons | exact .nil)) rfl ?_
          repeat (first | refine seq_ ?_ | refine region_ ?_ | refine nil_ ?_ | refine ret_ ?_ | refine cond_t rfl ?_ | refine stepY (y_assign rfl) rfl ?_ | refine stepY (y_load1 rfl rfl rfl) rfl ?_ | refine stepY (y_fieldAddr rfl) rfl ?_ | refine stepY (y_len_si rfl) rfl ?_ | refine stepY (y_build rfl rfl rfl) rfl ?_ | refine stepY (y_bin rfl rfl rfl) rfl ?_ | refine stepE (e_alloc rfl rfl rfl) ?_ | refine stepE (e_store rfl rfl rfl rfl rfl rfl rfl) ?_)
          ((apply fin_r); (repeat (first | exact .nil | exact .tmp rfl | exact .agg rfl rfl rfl | apply ResL.cons)); (repeat (exact .refl _)))
      · by_cases c3 : b.1 = 0
        · have c4 : ¬ b.2.1 = 0 := fun e => hb (.inr ⟨c3, e⟩)
          repeat (first | refine seq_ ?_ | refine region_ ?_ | refine nil_ ?_ | refine skip_ ?_ | refine cond_f rfl ?_ | refine guard_t rfl rfl rfl ?_ | refine guard_f rfl rfl rfl rfl ?_ | refine stepY (y_move rfl) rfl ?_ | refine stepY (y_assign rfl) rfl ?_ | refine stepY (y_load1 rfl rfl rfl) rfl ?_ | refine stepY (y_fieldAddr rfl) rfl ?_ | (first | refine stepY (y_pick_t rfl rfl) rfl ?_ | refine stepY (y_pick_f rfl rfl) rfl ?_) | (first | refine stepY (y_cmpT rfl rfl rfl (by omega)) rfl ?_ | refine stepY (y_cmpF rfl rfl rfl (by omega)) rfl ?_) | refine stepE (e_box rfl rfl rfl rfl rfl rfl) ?_ | refine stepE (e_alloc rfl rfl rfl) ?_)
          refine call_ Tryz.func33 rfl rfl (m0) rfl (by repeat (first | exact .refl _ | apply Les.cons | exact .nil)) rfl ?_
          repeat (first | refine seq_ ?_ | refine region_ ?_ | refine nil_ ?_ | refine ret_ ?_ | refine cond_t rfl ?_ | refine stepY (y_assign rfl) rfl ?_ | refine stepY (y_load1 rfl rfl rfl) rfl ?_ | refine stepY (y_fieldAddr rfl) rfl ?_ | refine stepY (y_len_si rfl) rfl ?_ | refine stepY (y_build rfl rfl rfl) rfl ?_ | refine stepY (y_bin rfl rfl rfl) rfl ?_ | refine stepE (e_alloc rfl rfl rfl) ?_ | refine stepE (e_store rfl rfl rfl rfl rfl rfl rfl) ?_)
          ((apply fin_r); (repeat (first | exact .nil | exact .tmp rfl | exact .agg rfl rfl rfl | apply ResL.cons)); (repeat (exact .refl _)))
        · repeat (first | refine seq_ ?_ | refine region_ ?_ | refine nil_ ?_ | refine skip_ ?_ | refine cond_f rfl ?_ | refine guard_t rfl rfl rfl ?_ | refine guard_f rfl rfl rfl rfl ?_ | refine stepY (y_move rfl) rfl ?_ | refine stepY (y_assign rfl) rfl ?_ | refine stepY (y_load1 rfl rfl rfl) rfl ?_ | refine stepY (y_fieldAddr rfl) rfl ?_ | refine stepY (y_pick_f rfl rfl) rfl ?_ | refine stepY (y_cmpF rfl rfl rfl (by omega)) rfl ?_ | refine stepE (e_box rfl rfl rfl rfl rfl rfl) ?_ | refine stepE (e_alloc rfl rfl rfl) ?_)
          refine call_ Tryz.func33 rfl rfl (m0) rfl (by repeat (first | exact .refl _ | apply Les.cons | exact .nil)) rfl ?_
          repeat (first | refine seq_ ?_ | refine region_ ?_ | refine nil_ ?_ | refine ret_ ?_ | refine cond_t rfl ?_ | refine stepY (y_assign rfl) rfl ?_ | refine stepY (y_load1 rfl rfl rfl) rfl ?_ | refine stepY (y_fieldAddr rfl) rfl ?_ | refine stepY (y_len_si rfl) rfl ?_ | refine stepY (y_build rfl rfl rfl) rfl ?_ | refine stepY (y_bin rfl rfl rfl) rfl ?_ | refine stepE (e_alloc rfl rfl rfl) ?_ | refine stepE (e_store rfl rfl rfl rfl rfl rfl rfl) ?_)
          ((apply fin_r); (repeat (first | exact .nil | exact .tmp rfl | exact .agg rfl rfl rfl | apply ResL.cons)); (repeat (exact .refl _)))
    · rw [if_neg h0]
      have hl : 0 < ((limbs (detD a b).natAbs).length : Int) := by rw [limbs_length]; have := ln_pos.2 (show 0 < (detD a b).natAbs by omega); omega
      have m1 := difference_c a.2.2 b.2.1 b.2.2 a.2.1 a3 b2 b3 a2
      have l1 := det_ln a3 a2 b3 b2
      have m2 := difference_c a.1 b.2.2 b.1 a.2.2 a1 b3 b1 a3
      have l2 := det_ln a1 a3 b1 b3
      rw [show det a.2.2 a.2.1 b.2.2 b.2.1 = detX a b from rfl] at m1 l1
      rw [show det a.1 a.2.2 b.1 b.2.2 = detY a b from rfl] at m2 l2
      have n1 := RNew_q _ _ l1 l0 h0
      have n2 := RNew_q _ _ l2 l0 h0
      generalize Rat.divInt (detX a b) (detD a b) = x at *
      generalize Rat.divInt (detY a b) (detD a b) = y at *
      refine con_of Tryz.func10 rfl rfl rfl rfl rfl ?_
      by_cases c1 : a.1 = 0
      · have c2 : ¬ a.2.1 = 0 := fun e => hb (.inl ⟨c1, e⟩)
        by_cases c3 : b.1 = 0
        · have c4 : ¬ b.2.1 = 0 := fun e => hb (.inr ⟨c3, e⟩)
          repeat (first | refine seq_ ?_ | refine region_ ?_ | refine nil_ ?_ | refine skip_ ?_ | refine cond_f rfl ?_ | refine guard_t rfl rfl rfl ?_ | refine stepY (y_move rfl) rfl ?_ | refine stepY (y_assign rfl) rfl ?_ | refine stepY (y_load1 rfl rfl rfl) rfl ?_ | refine stepY (y_fieldAddr rfl) rfl ?_ | (first | refine stepY (y_pick_t rfl rfl) rfl ?_ | refine stepY (y_pick_f rfl rfl) rfl ?_) | (first | refine stepY (y_cmpT rfl rfl rfl (by omega)) rfl ?_ | refine stepY (y_cmpF rfl rfl rfl (by omega)) rfl ?_) | refine stepE (e_box rfl rfl rfl rfl rfl rfl) ?_ | refine stepE (e_alloc rfl rfl rfl) ?_)
          refine call_ Tryz.func33 rfl rfl (m0) rfl (by repeat (first | exact .refl _ | apply Les.cons | exact .nil)) rfl ?_
          repeat (first | refine seq_ ?_ | refine region_ ?_ | refine nil_ ?_ | refine skip_ ?_ | refine cond_f rfl ?_ | refine stepY (y_load1 rfl rfl rfl) rfl ?_ | refine stepY (y_fieldAddr rfl) rfl ?_ | refine stepY (y_len_si rfl) rfl ?_ | refine stepY (y_cmpF rfl rfl rfl (by omega)) rfl ?_ | refine stepE (e_alloc rfl rfl rfl) ?_ | refine stepE (e_store rfl rfl rfl rfl rfl rfl rfl) ?_)
          refine cut_ [(2, .ptr 2 0), (3, .ptr 3 0), (4, .ptr 4 0), (6, .ptr 6 0), (7, .ptr 7 0)] [(2, .bx [I a.1, I a.2.1, I a.2.2]), (3, .bx [I b.1, I b.2.1, I b.2.2]), (4, .bx [Bo false, NL, Bo false, NL, Bo false, NL, Bo false, NL]), (6, .bx [Bo (decide (detD a b < 0)), FM (detD a b).natAbs]), (7, .bx (mQ x))] ?_ ?_
          · refine xDraw 1000 [2, 3, 4, 6] mixed ?_
            refine xY (i := 0) (op := .fieldAddr _ _ _) rfl (by (exact y_fieldAddr rfl)) rfl rfl rfl rfl (by kernel_rfl) ?_
            refine xY (i := 1) (op := .load _ _) rfl (by (exact y_load1 rfl rfl rfl)) rfl rfl rfl rfl (by kernel_rfl) ?_
            refine xY (i := 2) (op := .fieldAddr _ _ _) rfl (by (exact y_fieldAddr rfl)) rfl rfl rfl rfl (by kernel_rfl) ?_
            refine xY (i := 3) (op := .load _ _) rfl (by (exact y_load1 rfl rfl rfl)) rfl rfl rfl rfl (by kernel_rfl) ?_
            refine xY (i := 4) (op := .fieldAddr _ _ _) rfl (by (exact y_fieldAddr rfl)) rfl rfl rfl rfl (by kernel_rfl) ?_
            refine xY (i := 5) (op := .load _ _) rfl (by (exact y_load1 rfl rfl rfl)) rfl rfl rfl rfl (by kernel_rfl) ?_
            refine xY (i := 6) (op := .fieldAddr _ _ _) rfl (by (exact y_fieldAddr rfl)) rfl rfl rfl rfl (by kernel_rfl) ?_
            refine xY (i := 7) (op := .load _ _) rfl (by (exact y_load1 rfl rfl rfl)) rfl rfl rfl rfl (by kernel_rfl) ?_
            refine xY (i := 9) (op := .load _ _) rfl (by (exact y_loadA rfl rfl rfl)) rfl rfl rfl rfl (by kernel_rfl) ?_
            refine xAll (rs := [8, 14]) (by kernel_rfl) rfl ⟨?_, ?_, trivial⟩
            · (refine iC rfl Tryz.func33 rfl rfl (m1) rfl (by repeat (first | exact .refl _ | apply Les.cons | exact .nil)) rfl rfl ?_)
              refine xAll (rs := [10, 14]) (by kernel_rfl) rfl ⟨?_, ?_, trivial⟩
              · (refine iC rfl Tryz.func34 rfl rfl (n1) rfl (by repeat (first | exact .refl _ | exact .tag _ _ | apply Le.ag | apply Les.cons | exact .nil)) rfl rfl ?_)
                refine xY (i := 11) (op := .move _) rfl (by (exact y_move rfl)) rfl rfl rfl rfl (by kernel_rfl) ?_
                refine xY (i := 12) (op := .extract _ _) rfl (by (exact y_extract rfl rfl)) rfl rfl rfl rfl (by kernel_rfl) ?_
                refine xY (i := 13) (op := .extract _ _) rfl (by (exact y_extract rfl rfl)) rfl rfl rfl rfl (by kernel_rfl) ?_
                refine xAll (rs := [14]) (by kernel_rfl) rfl ⟨?_, trivial⟩
                · (refine iE rfl (e_alloc rfl rfl rfl) rfl rfl ?_)
                  refine xAll (rs := [15]) (by kernel_rfl) rfl ⟨?_, trivial⟩
                  · (refine iE rfl (e_store rfl rfl rfl rfl rfl rfl rfl) rfl rfl ?_)
                    refine xY (i := 16) (op := .assign _) rfl (by (exact y_assign rfl)) rfl rfl rfl rfl (by kernel_rfl) ?_
                    exact xEnd (by kernel_rfl) ⟨rfl, by (repeat (first | exact sub_nil | refine sub_cons rfl ?_)), by (repeat (first | exact subH_nil | refine subH_cons rfl ?_))⟩
              · (refine iE rfl (e_alloc rfl rfl rfl) rfl rfl ?_)
                refine xAll (rs := [10]) (by kernel_rfl) rfl ⟨?_, trivial⟩
                · (refine iC rfl Tryz.func34 rfl rfl (n1) rfl (by repeat (first | exact .refl _ | exact .tag _ _ | apply Le.ag | apply Les.cons | exact .nil)) rfl rfl ?_)
                  refine xY (i := 11) (op := .move _) rfl (by (exact y_move rfl)) rfl rfl rfl rfl (by kernel_rfl) ?_
                  refine xY (i := 12) (op := .extract _ _) rfl (by (exact y_extract rfl rfl)) rfl rfl rfl rfl (by kernel_rfl) ?_
                  refine xY (i := 13) (op := .extract _ _) rfl (by (exact y_extract rfl rfl)) rfl rfl rfl rfl (by kernel_rfl) ?_
                  refine xAll (rs := [15]) (by kernel_rfl) rfl ⟨?_, trivial⟩
                  · (refine iE rfl (e_store rfl rfl rfl rfl rfl rfl rfl) rfl rfl ?_)
                    refine xY (i := 16) (op := .assign _) rfl (by (exact y_assign rfl)) rfl rfl rfl rfl (by kernel_rfl) ?_
                    exact xEnd (by kernel_rfl) ⟨rfl, by (repeat (first | exact sub_nil | refine sub_cons rfl ?_)), by (repeat (first | exact subH_nil | refine subH_cons rfl ?_))⟩
            · (refine iE rfl (e_alloc rfl rfl rfl) rfl rfl ?_)
              refine xAll (rs := [8]) (by kernel_rfl) rfl ⟨?_, trivial⟩
              · (refine iC rfl Tryz.func33 rfl rfl (m1) rfl (by repeat (first | exact .refl _ | apply Les.cons | exact .nil)) rfl rfl ?_)
                refine xAll (rs := [10]) (by kernel_rfl) rfl ⟨?_, trivial⟩
                · (refine iC rfl Tryz.func34 rfl rfl (n1) rfl (by repeat (first | exact .refl _ | exact .tag _ _ | apply Le.ag | apply Les.cons | exact .nil)) rfl rfl ?_)
                  refine xY (i := 11) (op := .move _) rfl (by (exact y_move rfl)) rfl rfl rfl rfl (by kernel_rfl) ?_
                  refine xY (i := 12) (op := .extract _ _) rfl (by (exact y_extract rfl rfl)) rfl rfl rfl rfl (by kernel_rfl) ?_
                  refine xY (i := 13) (op := .extract _ _) rfl (by (exact y_extract rfl rfl)) rfl rfl rfl rfl (by kernel_rfl) ?_
                  refine xAll (rs := [15]) (by kernel_rfl) rfl ⟨?_, trivial⟩
                  · (refine iE rfl (e_store rfl rfl rfl rfl rfl rfl rfl) rfl rfl ?_)
                    refine xY (i := 16) (op := .assign _) rfl (by (exact y_assign rfl)) rfl rfl rfl rfl (by kernel_rfl) ?_
                    exact xEnd (by kernel_rfl) ⟨rfl, by (repeat (first | exact sub_nil | refine sub_cons rfl ?_)), by (repeat (first | exact subH_nil | refine subH_cons rfl ?_))⟩
          repeat (refine seq_ ?_)
          refine cut_ [(4, .ptr 4 0), (7, .ptr 7 0), (9, .ptr 9 0)] [(4, .bx [Bo false, NL, Bo false, NL, Bo false, NL, Bo false, NL]), (7, .bx (mQ x)), (9, .bx (mQ y))] ?_ ?_
          · refine xDraw 1000 [2, 3, 4, 6, 7] mixed ?_
            refine xY (i := 0) (op := .fieldAddr _ _ _) rfl (by (exact y_fieldAddr rfl)) rfl rfl rfl rfl (by kernel_rfl) ?_
            refine xY (i := 1) (op := .load _ _) rfl (by (exact y_load1 rfl rfl rfl)) rfl rfl rfl rfl (by kernel_rfl) ?_
            refine xY (i := 2) (op := .fieldAddr _ _ _) rfl (by (exact y_fieldAddr rfl)) rfl rfl rfl rfl (by kernel_rfl) ?_
            refine xY (i := 3) (op := .load _ _) rfl (by (exact y_load1 rfl rfl rfl)) rfl rfl rfl rfl (by kernel_rfl) ?_
            refine xY (i := 4) (op := .fieldAddr _ _ _) rfl (by (exact y_fieldAddr rfl)) rfl rfl rfl rfl (by kernel_rfl) ?_
            refine xY (i := 5) (op := .load _ _) rfl (by (exact y_load1 rfl rfl rfl)) rfl rfl rfl rfl (by kernel_rfl) ?_
            refine xY (i := 6) (op := .fieldAddr _ _ _) rfl (by (exact y_fieldAddr rfl)) rfl rfl rfl rfl (by kernel_rfl) ?_
            refine xY (i := 7) (op := .load _ _) rfl (by (exact y_load1 rfl rfl rfl)) rfl rfl rfl rfl (by kernel_rfl) ?_
            refine xY (i := 9) (op := .load _ _) rfl (by (exact y_loadA rfl rfl rfl)) rfl rfl rfl rfl (by kernel_rfl) ?_
            refine xAll (rs := [8, 14]) (by kernel_rfl) rfl ⟨?_, ?_, trivial⟩
            · (refine iC rfl Tryz.func33 rfl rfl (m2) rfl (by repeat (first | exact .refl _ | apply Les.cons | exact .nil)) rfl rfl ?_)
              refine xAll (rs := [10, 14]) (by kernel_rfl) rfl ⟨?_, ?_, trivial⟩
              · (refine iC rfl Tryz.func34 rfl rfl (n2) rfl (by repeat (first | exact .refl _ | exact .tag _ _ | apply Le.ag | apply Les.cons | exact .nil)) rfl rfl ?_)
                refine xY (i := 11) (op := .move _) rfl (by (exact y_move rfl)) rfl rfl rfl rfl (by kernel_rfl) ?_
                refine xY (i := 12) (op := .extract _ _) rfl (by (exact y_extract rfl rfl)) rfl rfl rfl rfl (by kernel_rfl) ?_
                refine xY (i := 13) (op := .extract _ _) rfl (by (exact y_extract rfl rfl)) rfl rfl rfl rfl (by kernel_rfl) ?_
                refine xAll (rs := [14]) (by kernel_rfl) rfl ⟨?_, trivial⟩
                · (refine iE rfl (e_alloc rfl rfl rfl) rfl rfl ?_)
                  refine xAll (rs := [15]) (by kernel_rfl) rfl ⟨?_, trivial⟩
                  · (refine iE rfl (e_store rfl rfl rfl rfl rfl rfl rfl) rfl rfl ?_)
                    refine xY (i := 16) (op := .assign _) rfl (by (exact y_assign rfl)) rfl rfl rfl rfl (by kernel_rfl) ?_
                    exact xEnd (by kernel_rfl) ⟨rfl, by (repeat (first | exact sub_nil | refine sub_cons rfl ?_)), by (repeat (first | exact subH_nil | refine subH_cons rfl ?_))⟩
              · (refine iE rfl (e_alloc rfl rfl rfl) rfl rfl ?_)
                refine xAll (rs := [10]) (by kernel_rfl) rfl ⟨?_, trivial⟩
                · (refine iC rfl Tryz.func34 rfl rfl (n2) rfl (by repeat (first | exact .refl _ | exact .tag _ _ | apply Le.ag | apply Les.cons | exact .nil)) rfl rfl ?_)
                  refine xY (i := 11) (op := .move _) rfl (by (exact y_move rfl)) rfl rfl rfl rfl (by kernel_rfl) ?_
                  refine xY (i := 12) (op := .extract _ _) rfl (by (exact y_extract rfl rfl)) rfl rfl rfl rfl (by kernel_rfl) ?_
                  refine xY (i := 13) (op := .extract _ _) rfl (by (exact y_extract rfl rfl)) rfl rfl rfl rfl (by kernel_rfl) ?_
                  refine xAll (rs := [15]) (by kernel_rfl) rfl ⟨?_, trivial⟩
                  · (refine iE rfl (e_store rfl rfl rfl rfl rfl rfl rfl) rfl rfl ?_)
                    refine xY (i := 16) (op := .assign _) rfl (by (exact y_assign rfl)) rfl rfl rfl rfl (by kernel_rfl) ?_
                    exact xEnd (by kernel_rfl) ⟨rfl, by (repeat (first | exact sub_nil | refine sub_cons rfl ?_)), by (repeat (first | exact subH_nil | refine subH_cons rfl ?_))⟩
            · (refine iE rfl (e_alloc rfl rfl rfl) rfl rfl ?_)
              refine xAll (rs := [8]) (by kernel_rfl) rfl ⟨?_, trivial⟩
              · (refine iC rfl Tryz.func33 rfl rfl (m2) rfl (by repeat (first | exact .refl _ | apply Les.cons | exact .nil)) rfl rfl ?_)
                refine xAll (rs := [10]) (by kernel_rfl) rfl ⟨?_, trivial⟩
                · (refine iC rfl Tryz.func34 rfl rfl (n2) rfl (by repeat (first | exact .refl _ | exact .tag _ _ | apply Le.ag | apply Les.cons | exact .nil)) rfl rfl ?_)
                  refine xY (i := 11) (op := .move _) rfl (by (exact y_move rfl)) rfl rfl rfl rfl (by kernel_rfl) ?_
                  refine xY (i := 12) (op := .extract _ _) rfl (by (exact y_extract rfl rfl)) rfl rfl rfl rfl (by kernel_rfl) ?_
                  refine xY (i := 13) (op := .extract _ _) rfl (by (exact y_extract rfl rfl)) rfl rfl rfl rfl (by kernel_rfl) ?_
                  refine xAll (rs := [15]) (by kernel_rfl) rfl ⟨?_, trivial⟩
                  · (refine iE rfl (e_store rfl rfl rfl rfl rfl rfl rfl) rfl rfl ?_)
                    refine xY (i := 16) (op := .assign _) rfl (by (exact y_assign rfl)) rfl rfl rfl rfl (by kernel_rfl) ?_
                    exact xEnd (by kernel_rfl) ⟨rfl, by (repeat (first | exact sub_nil | refine sub_cons rfl ?_)), by (repeat (first | exact subH_nil | refine subH_cons rfl ?_))⟩
          repeat (first | refine seq_ ?_ | refine region_ ?_ | refine nil_ ?_ | refine ret_ ?_ | refine stepY (y_assign rfl) rfl ?_ | refine stepY (y_loadA rfl rfl rfl) rfl ?_ | refine stepY (y_build rfl rfl rfl) rfl ?_ | refine stepE (e_store rfl rfl rfl rfl rfl rfl rfl) ?_)
          ((apply fin_r); (repeat (first | exact .nil | exact .tmp rfl | exact .agg rfl rfl rfl | apply ResL.cons)); (repeat (exact .refl _)))
        · repeat (first | refine seq_ ?_ | refine region_ ?_ | refine nil_ ?_ | refine skip_ ?_ | refine cond_f rfl ?_ | refine guard_t rfl rfl rfl ?_ | refine guard_f rfl rfl rfl rfl ?_ | refine stepY (y_move rfl) rfl ?_ | refine stepY (y_assign rfl) rfl ?_ | refine stepY (y_load1 rfl rfl rfl) rfl ?_ | refine stepY (y_fieldAddr rfl) rfl ?_ | (first | refine stepY (y_pick_t rfl rfl) rfl ?_ | refine stepY (y_pick_f rfl rfl) rfl ?_) | (first | refine stepY (y_cmpT rfl rfl rfl (by omega)) rfl ?_ | refine stepY (y_cmpF rfl rfl rfl (by omega)) rfl ?_) | refine stepE (e_box rfl rfl rfl rfl rfl rfl) ?_ | refine stepE (e_alloc rfl rfl rfl) ?_)
          refine call_ Tryz.func33 rfl rfl (m0) rfl (by repeat (first | exact .refl _ | apply Les.cons | exact .nil)) rfl ?_
          repeat (first | refine seq_ ?_ | refine region_ ?_ | refine nil_ ?_ | refine skip_ ?_ | refine cond_f rfl ?_ | refine stepY (y_load1 rfl rfl rfl) rfl ?_ | refine stepY (y_fieldAddr rfl) rfl ?_ | refine stepY (y_len_si rfl) rfl ?_ | refine stepY (y_cmpF rfl rfl rfl (by omega)) rfl ?_ | refine stepE (e_alloc rfl rfl rfl) ?_ | refine stepE (e_store rfl rfl rfl rfl rfl rfl rfl) ?_)
          refine cut_ [(2, .ptr 2 0), (3, .ptr 3 0), (4, .ptr 4 0), (6, .ptr 6 0), (7, .ptr 7 0)] [(2, .bx [I a.1, I a.2.1, I a.2.2]), (3, .bx [I b.1, I b.2.1, I b.2.2]), (4, .bx [Bo false, NL, Bo false, NL, Bo false, NL, Bo false, NL]), (6, .bx [Bo (decide (detD a b < 0)), FM (detD a b).natAbs]), (7, .bx (mQ x))] ?_ ?_
          · refine xDraw 1000 [2, 3, 4, 6] mixed ?_
            refine xY (i := 0) (op := .fieldAddr _ _ _) rfl (by (exact y_fieldAddr rfl)) rfl rfl rfl rfl (by kernel_rfl) ?_
            refine xY (i := 1) (op := .load _ _) rfl (by (exact y_load1 rfl rfl rfl)) rfl rfl rfl rfl (by kernel_rfl) ?_
            refine xY (i := 2) (op := .fieldAddr _ _ _) rfl (by (exact y_fieldAddr rfl)) rfl rfl rfl rfl (by kernel_rfl) ?_
            refine xY (i := 3) (op := .load _ _) rfl (by (exact y_load1 rfl rfl rfl)) rfl rfl rfl rfl (by kernel_rfl) ?_
            refine xY (i := 4) (op := .fieldAddr _ _ _) rfl (by (exact y_fieldAddr rfl)) rfl rfl rfl rfl (by kernel_rfl) ?_
            refine xY (i := 5) (op := .load _ _) rfl (by (exact y_load1 rfl rfl rfl)) rfl rfl rfl rfl (by kernel_rfl) ?_
            refine xY (i := 6) (op := .fieldAddr _ _ _) rfl (by (exact y_fieldAddr rfl)) rfl rfl rfl rfl (by kernel_rfl) ?_
            refine xY (i := 7) (op := .load _ _) rfl (by (exact y_load1 rfl rfl rfl)) rfl rfl rfl rfl (by kernel_rfl) ?_
            refine xY (i := 9) (op := .load _ _) rfl (by (exact y_loadA rfl rfl rfl)) rfl rfl rfl rfl (by kernel_rfl) ?_
            refine xAll (rs := [8, 14]) (by kernel_rfl) rfl ⟨?_, ?_, trivial⟩
            · (refine iC rfl Tryz.func33 rfl rfl (m1) rfl (by repeat (first | exact .refl _ | apply Les.cons | exact .nil)) rfl rfl ?_)
              refine xAll (rs := [10, 14]) (by kernel_rfl) rfl ⟨?_, ?_, trivial⟩
              · (refine iC rfl Tryz.func34 rfl rfl (n1) rfl (by repeat (first | exact .refl _ | exact .tag _ _ | apply Le.ag | apply Les.cons | exact .nil)) rfl rfl ?_)
                refine xY (i := 11) (op := .move _) rfl (by (exact y_move rfl)) rfl rfl rfl rfl (by kernel_rfl) ?_
                refine xY (i := 12) (op := .extract _ _) rfl (by (exact y_extract rfl rfl)) rfl rfl rfl rfl (by kernel_rfl) ?_
                refine xY (i := 13) (op := .extract _ _) rfl (by (exact y_extract rfl rfl)) rfl rfl rfl rfl (by kernel_rfl) ?_
                refine xAll (rs := [14]) (by kernel_rfl) rfl ⟨?_, trivial⟩
                · (refine iE rfl (e_alloc rfl rfl rfl) rfl rfl ?_)
                  refine xAll (rs := [15]) (by kernel_rfl) rfl ⟨?_, trivial⟩
                  · (refine iE rfl (e_store rfl rfl rfl rfl rfl rfl rfl) rfl rfl ?_)
                    refine xY (i := 16) (op := .assign _) rfl (by (exact y_assign rfl)) rfl rfl rfl rfl (by kernel_rfl) ?_
                    exact xEnd (by kernel_rfl) ⟨rfl, by (repeat (first | exact sub_nil | refine sub_cons rfl ?_)), by (repeat (first | exact subH_nil | refine subH_cons rfl ?_))⟩
              · (refine iE rfl (e_alloc rfl rfl rfl) rfl rfl ?_)
                refine xAll (rs := [10]) (by kernel_rfl) rfl ⟨?_, trivial⟩
                · (refine iC rfl Tryz.func34 rfl rfl (n1) rfl (by repeat (first | exact .refl _ | exact .tag _ _ | apply Le.ag | apply Les.cons | exact .nil)) rfl rfl ?_)
                  refine xY (i := 11) (op := .move _) rfl (by (exact y_move rfl)) rfl rfl rfl rfl (by kernel_rfl) ?_
                  refine xY (i := 12) (op := .extract _ _) rfl (by (exact y_extract rfl rfl)) rfl rfl rfl rfl (by kernel_rfl) ?_
                  refine xY (i := 13) (op := .extract _ _) rfl (by (exact y_extract rfl rfl)) rfl rfl rfl rfl (by kernel_rfl) ?_
                  refine xAll (rs := [15]) (by kernel_rfl) rfl ⟨?_, trivial⟩
                  · (refine iE rfl (e_store rfl rfl rfl rfl rfl rfl rfl) rfl rfl ?_)
                    refine xY (i := 16) (op := .assign _) rfl (by (exact y_assign rfl)) rfl rfl rfl rfl (by kernel_rfl) ?_
                    exact xEnd (by kernel_rfl) ⟨rfl, by (repeat (first | exact sub_nil | refine sub_cons rfl ?_)), by (repeat (first | exact subH_nil | refine subH_cons rfl ?_))⟩
            · (refine iE rfl (e_alloc rfl rfl rfl) rfl rfl ?_)
              refine xAll (rs := [8]) (by kernel_rfl) rfl ⟨?_, trivial⟩
              · (refine iC rfl Tryz.func33 rfl rfl (m1) rfl (by repeat (first | exact .refl _ | apply Les.cons | exact .nil)) rfl rfl ?_)
                refine xAll (rs := [10]) (by kernel_rfl) rfl ⟨?_, trivial⟩
                · (refine iC rfl Tryz.func34 rfl rfl (n1) rfl (by repeat (first | exact .refl _ | exact .tag _ _ | apply Le.ag | apply Les.cons | exact .nil)) rfl rfl ?_)
                  refine xY (i := 11) (op := .move _) rfl (by (exact y_move rfl)) rfl rfl rfl rfl (by kernel_rfl) ?_
                  refine xY (i := 12) (op := .extract _ _) rfl (by (exact y_extract rfl rfl)) rfl rfl rfl rfl (by kernel_rfl) ?_
                  refine xY (i := 13) (op := .extract _ _) rfl (by (exact y_extract rfl rfl)) rfl rfl rfl rfl (by kernel_rfl) ?_
                  refine xAll (rs := [15]) (by kernel_rfl) rfl ⟨?_, trivial⟩
                  · (refine iE rfl (e_store rfl rfl rfl rfl rfl rfl rfl) rfl rfl ?_)
                    refine xY (i := 16) (op := .assign _) rfl (by (exact y_assign rfl)) rfl rfl rfl rfl (by kernel_rfl) ?_
                    exact xEnd (by kernel_rfl) ⟨rfl, by (repeat (first | exact sub_nil | refine sub_cons rfl ?_)), by (repeat (first | exact subH_nil | refine subH_cons rfl ?_))⟩
          repeat (refine seq_ ?_)
          refine cut_ [(4, .ptr 4 0), (7, .ptr 7 0), (9, .ptr 9 0)] [(4, .bx [Bo false, NL, Bo false, NL, Bo false, NL, Bo false, NL]), (7, .bx (mQ x)), (9, .bx (mQ y))] ?_ ?_
          · refine xDraw 1000 [2, 3, 4, 6, 7] mixed ?_
            refine xY (i := 0) (op := .fieldAddr _ _ _) rfl (by (exact y_fieldAddr rfl)) rfl rfl rfl rfl (by kernel_rfl) ?_
            refine xY (i := 1) (op := .load _ _) rfl (by (exact y_load1 rfl rfl rfl)) rfl rfl rfl rfl (by kernel_rfl) ?_
            refine xY (i := 2) (op := .fieldAddr _ _ _) rfl (by (exact y_fieldAddr rfl)) rfl rfl rfl rfl (by kernel_rfl) ?_
            refine xY (i := 3) (op := .load _ _) rfl (by (exact y_load1 rfl rfl rfl)) rfl rfl rfl rfl (by kernel_rfl) ?_
            refine xY (i := 4) (op := .fieldAddr _ _ _) rfl (by (exact y_fieldAddr rfl)) rfl rfl rfl rfl (by kernel_rfl) ?_
            refine xY (i := 5) (op := .load _ _) rfl (by (exact y_load1 rfl rfl rfl)) rfl rfl rfl rfl (by kernel_rfl) ?_
            refine xY (i := 6) (op := .fieldAddr _ _ _) rfl (by (exact y_fieldAddr rfl)) rfl rfl rfl rfl (by kernel_rfl) ?_
            refine xY (i := 7) (op := .load _ _) rfl (by (exact y_load1 rfl rfl rfl)) rfl rfl rfl rfl (by kernel_rfl) ?_
            refine xY (i := 9) (op := .load _ _) rfl (by (exact y_loadA rfl rfl rfl)) rfl rfl rfl rfl (by kernel_rfl) ?_
            refine xAll (rs := [8, 14]) (by kernel_rfl) rfl ⟨?_, ?_, trivial⟩
            · (refine iC rfl Tryz.func33 rfl rfl (m2) rfl (by repeat (first | exact .refl _ | apply Les.cons | exact .nil)) rfl rfl ?_)
              refine xAll (rs := [10, 14]) (by kernel_rfl) rfl ⟨?_, ?_, trivial⟩
              · (refine iC rfl Tryz.func34 rfl rfl (n2) rfl (by repeat (first | exact .refl _ | exact .tag _ _ | apply Le.ag | apply Les.cons | exact .nil)) rfl rfl ?_)
                refine xY (i := 11) (op := .move _) rfl (by (exact y_move rfl)) rfl rfl rfl rfl (by kernel_rfl) ?_
                refine xY (i := 12) (op := .extract _ _) rfl (by (exact y_extract rfl rfl)) rfl rfl rfl rfl (by kernel_rfl) ?_
                refine xY (i := 13) (op := .extract _ _) rfl (by (exact y_extract rfl rfl)) rfl rfl rfl rfl (by kernel_rfl) ?_
                refine xAll (rs := [14]) (by kernel_rfl) rfl ⟨?_, trivial⟩
                · (refine iE rfl (e_alloc rfl rfl rfl) rfl rfl ?_)
                  refine xAll (rs := [15]) (by kernel_rfl) rfl ⟨?_, trivial⟩
                  · (refine iE rfl (e_store rfl rfl rfl rfl rfl rfl rfl) rfl rfl ?_)
                    refine xY (i := 16) (op := .assign _) rfl (by (exact y_assign rfl)) rfl rfl rfl rfl (by kernel_rfl) ?_
                    exact xEnd (by kernel_rfl) ⟨rfl, by (repeat (first | exact sub_nil | refine sub_cons rfl ?_)), by (repeat (first | exact subH_nil | refine subH_cons rfl ?_))⟩
              · (refine iE rfl (e_alloc rfl rfl rfl) rfl rfl ?_)
                refine xAll (rs := [10]) (by kernel_rfl) rfl ⟨?_, trivial⟩
                · (refine iC rfl Tryz.func34 rfl rfl (n2) rfl (by repeat (first | exact .refl _ | exact .tag _ _ | apply Le.ag | apply Les.cons | exact .nil)) rfl rfl ?_)
                  refine xY (i := 11) (op := .move _) rfl (by (exact y_move rfl)) rfl rfl rfl rfl (by kernel_rfl) ?_
                  refine xY (i := 12) (op := .extract _ _) rfl (by (exact y_extract rfl rfl)) rfl rfl rfl rfl (by kernel_rfl) ?_
                  refine xY (i := 13) (op := .extract _ _) rfl (by (exact y_extract rfl rfl)) rfl rfl rfl rfl (by kernel_rfl) ?_
                  refine xAll (rs := [15]) (by kernel_rfl) rfl ⟨?_, trivial⟩
                  · (refine iE rfl (e_store rfl rfl rfl rfl rfl rfl rfl) rfl rfl ?_)
                    refine xY (i := 16) (op := .assign _) rfl (by (exact y_assign rfl)) rfl rfl rfl rfl (by kernel_rfl) ?_
                    exact xEnd (by kernel_rfl) ⟨rfl, by (repeat (first | exact sub_nil | refine sub_cons rfl ?_)), by (repeat (first | exact subH_nil | refine subH_cons rfl ?_))⟩
            · (refine iE rfl (e_alloc rfl rfl rfl) rfl rfl ?_)
              refine xAll (rs := [8]) (by kernel_rfl) rfl ⟨?_, trivial⟩
              · (refine iC rfl Tryz.func33 rfl rfl (m2) rfl (by repeat (first | exact .refl _ | apply Les.cons | exact .nil)) rfl rfl ?_)
                refine xAll (rs := [10]) (by kernel_rfl) rfl ⟨?_, trivial⟩
                · (refine iC rfl Tryz.func34 rfl rfl (n2) rfl (by repeat (first | exact .refl _ | exact .tag _ _ | apply Le.ag | apply Les.cons | exact .nil)) rfl rfl ?_)
                  refine xY (i := 11) (op := .move _) rfl (by (exact y_move rfl)) rfl rfl rfl rfl (by kernel_rfl) ?_
                  refine xY (i := 12) (op := .extract _ _) rfl (by (exact y_extract rfl rfl)) rfl rfl rfl rfl (by kernel_rfl) ?_
                  refine xY (i := 13) (op := .extract _ _) rfl (by (exact y_extract rfl rfl)) rfl rfl rfl rfl (by kernel_rfl) ?_
                  refine xAll (rs := [15]) (by kernel_rfl) rfl ⟨?_, trivial⟩
                  · (refine iE rfl (e_store rfl rfl rfl rfl rfl rfl rfl) rfl rfl ?_)
                    refine xY (i := 16) (op := .assign _) rfl (by (exact y_assign rfl)) rfl rfl rfl rfl (by kernel_rfl) ?_
                    exact xEnd (by kernel_rfl) ⟨rfl, by (repeat (first | exact sub_nil | refine sub_cons rfl ?_)), by (repeat (first | exact subH_nil | refine subH_cons rfl ?_))⟩
          repeat (first | refine seq_ ?_ | refine region_ ?_ | refine nil_ ?_ | refine ret_ ?_ | refine stepY (y_assign rfl) rfl ?_ | refine stepY (y_loadA rfl rfl rfl) rfl ?_ | refine stepY (y_build rfl rfl rfl) rfl ?_ | refine stepE (e_store rfl rfl rfl rfl rfl rfl rfl) ?_)
          ((apply fin_r); (repeat (first | exact .nil | exact .tmp rfl | exact .agg rfl rfl rfl | apply ResL.cons)); (repeat (exact .refl _)))
      · by_cases c3 : b.1 = 0
        · have c4 : ¬ b.2.1 = 0 := fun e => hb (.inr ⟨c3, e⟩)
          repeat (first | refine seq_ ?_ | refine region_ ?_ | refine nil_ ?_ | refine skip_ ?_ | refine cond_f rfl ?_ | refine guard_t rfl rfl rfl ?_ | refine guard_f rfl rfl rfl rfl ?_ | refine stepY (y_move rfl) rfl ?_ | refine stepY (y_assign rfl) rfl ?_ | refine stepY (y_load1 rfl rfl rfl) rfl ?_ | refine stepY (y_fieldAddr rfl) rfl ?_ | (first | refine stepY (y_pick_t rfl rfl) rfl ?_ | refine stepY (y_pick_f rfl rfl) rfl ?_) | (first | refine stepY (y_cmpT rfl rfl rfl (by omega)) rfl ?_ | refine stepY (y_cmpF rfl rfl rfl (by omega)) rfl ?_) | refine stepE (e_box rfl rfl rfl rfl rfl rfl) ?_ | refine stepE (e_alloc rfl rfl rfl) ?_)
          refine call_ Tryz.func33 rfl rfl (m0) rfl (by repeat (first | exact .refl _ | apply Les.cons | exact .nil)) rfl ?_
          repeat (first | refine seq_ ?_ | refine region_ ?_ | refine nil_ ?_ | refine skip_ ?_ | refine cond_f rfl ?_ | refine stepY (y_load1 rfl rfl rfl) rfl ?_ | refine stepY (y_fieldAddr rfl) rfl ?_ | refine stepY (y_len_si rfl) rfl ?_ | refine stepY (y_cmpF rfl rfl rfl (by omega)) rfl ?_ | refine stepE (e_alloc rfl rfl rfl) ?_ | refine stepE (e_store rfl rfl rfl rfl rfl rfl rfl) ?_)
          refine cut_ [(2, .ptr 2 0), (3, .ptr 3 0), (4, .ptr 4 0), (6, .ptr 6 0), (7, .ptr 7 0)] [(2, .bx [I a.1, I a.2.1, I a.2.2]), (3, .bx [I b.1, I b.2.1, I b.2.2]), (4, .bx [Bo false, NL, Bo false, NL, Bo false, NL, Bo false, NL]), (6, .bx [Bo (decide (detD a b < 0)), FM (detD a b).natAbs]), (7, .bx (mQ x))] ?_ ?_
          · refine xDraw 1000 [2, 3, 4, 6] mixed ?_
            refine xY (i := 0) (op := .fieldAddr _ _ _) rfl (by (exact y_fieldAddr rfl)) rfl rfl rfl rfl (by kernel_rfl) ?_
            refine xY (i := 1) (op := .load _ _) rfl (by (exact y_load1 rfl rfl rfl)) rfl rfl rfl rfl (by kernel_rfl) ?_
            refine xY (i := 2) (op := .fieldAddr _ _ _) rfl (by (exact y_fieldAddr rfl)) rfl rfl rfl rfl (by kernel_rfl) ?_
            refine xY (i := 3) (op := .load _ _) rfl (by (exact y_load1 rfl rfl rfl)) rfl rfl rfl rfl (by kernel_rfl) ?_
            refine xY (i := 4) (op := .fieldAddr _ _ _) rfl (by (exact y_fieldAddr rfl)) rfl rfl rfl rfl (by kernel_rfl) ?_
            refine xY (i := 5) (op := .load _ _) rfl (by (exact y_load1 rfl rfl rfl)) rfl rfl rfl rfl (by kernel_rfl) ?_
            refine xY (i := 6) (op := .fieldAddr _ _ _) rfl (by (exact y_fieldAddr rfl)) rfl rfl rfl rfl (by kernel_rfl) ?_
            refine xY (i := 7) (op := .load _ _) rfl (by (exact y_load1 rfl rfl rfl)) rfl rfl rfl rfl (by kernel_rfl) ?_
            refine xY (i := 9) (op := .load _ _) rfl (by (exact y_loadA rfl rfl rfl)) rfl rfl rfl rfl (by kernel_rfl) ?_
            refine xAll (rs := [8, 14]) (by kernel_rfl) rfl ⟨?_, ?_, trivial⟩
            · (refine iC rfl Tryz.func33 rfl rfl (m1) rfl (by repeat (first | exact .refl _ | apply Les.cons | exact .nil)) rfl rfl ?_)
              refine xAll (rs := [10, 14]) (by kernel_rfl) rfl ⟨?_, ?_, trivial⟩
              · (refine iC rfl Tryz.func34 rfl rfl (n1) rfl (by repeat (first | exact .refl _ | exact .tag _ _ | apply Le.ag | apply Les.cons | exact .nil)) rfl rfl ?_)
                refine xY (i := 11) (op := .move _) rfl (by (exact y_move rfl)) rfl rfl rfl rfl (by kernel_rfl) ?_
                refine xY (i := 12) (op := .extract _ _) rfl (by (exact y_extract rfl rfl)) rfl rfl rfl rfl (by kernel_rfl) ?_
                refine xY (i := 13) (op := .extract _ _) rfl (by (exact y_extract rfl rfl)) rfl rfl rfl rfl (by kernel_rfl) ?_
                refine xAll (rs := [14]) (by kernel_rfl) rfl ⟨?_, trivial⟩
                · (refine iE rfl (e_alloc rfl rfl rfl) rfl rfl ?_)
                  refine xAll (rs := [15]) (by kernel_rfl) rfl ⟨?_, trivial⟩
                  · (refine iE rfl (e_store rfl rfl rfl rfl rfl rfl rfl) rfl rfl ?_)
                    refine xY (i := 16) (op := .assign _) rfl (by (exact y_assign rfl)) rfl rfl rfl rfl (by kernel_rfl) ?_
                    exact xEnd (by kernel_rfl) ⟨rfl, by (repeat (first | exact sub_nil | refine sub_cons rfl ?_)), by (repeat (first | exact subH_nil | refine subH_cons rfl ?_))⟩
              · (refine iE rfl (e_alloc rfl rfl rfl) rfl rfl ?_)
                refine xAll (rs := [10]) (by kernel_rfl) rfl ⟨?_, trivial⟩
                · (refine iC rfl Tryz.func34 rfl rfl (n1) rfl (by repeat (first | exact .refl _ | exact .tag _ _ | apply Le.ag | apply Les.cons | exact .nil)) rfl rfl ?_)
                  refine xY (i := 11) (op := .move _) rfl (by (exact y_move rfl)) rfl rfl rfl rfl (by kernel_rfl) ?_
                  refine xY (i := 12) (op := .extract _ _) rfl (by (exact y_extract rfl rfl)) rfl rfl rfl rfl (by kernel_rfl) ?_
                  refine xY (i := 13) (op := .extract _ _) rfl (by (exact y_extract rfl rfl)) rfl rfl rfl rfl (by kernel_rfl) ?_
                  refine xAll (rs := [15]) (by kernel_rfl) rfl ⟨?_, trivial⟩
                  · (refine iE rfl (e_store rfl rfl rfl rfl rfl rfl rfl) rfl rfl ?_)
                    refine xY (i := 16) (op := .assign _) rfl (by (exact y_assign rfl)) rfl rfl rfl rfl (by kernel_rfl) ?_
                    exact xEnd (by kernel_rfl) ⟨rfl, by (repeat (first | exact sub_nil | refine sub_cons rfl ?_)), by (repeat (first | exact subH_nil | refine subH_cons rfl ?_))⟩
            · (refine iE rfl (e_alloc rfl rfl rfl) rfl rfl ?_)
              refine xAll (rs := [8]) (by kernel_rfl) rfl ⟨?_, trivial⟩
              · (refine iC rfl Tryz.func33 rfl rfl (m1) rfl (by repeat (first | exact .refl _ | apply Les.cons | exact .nil)) rfl rfl ?_)
                refine xAll (rs := [10]) (by kernel_rfl) rfl ⟨?_, trivial⟩
                · (refine iC rfl Tryz.func34 rfl rfl (n1) rfl (by repeat (first | exact .refl _ | exact .tag _ _ | apply Le.ag | apply Les.cons | exact .nil)) rfl rfl ?_)
                  refine xY (i := 11) (op := .move _) rfl (by (exact y_move rfl)) rfl rfl rfl rfl (by kernel_rfl) ?_
                  refine xY (i := 12) (op := .extract _ _) rfl (by (exact y_extract rfl rfl)) rfl rfl rfl rfl (by kernel_rfl) ?_
                  refine xY (i := 13) (op := .extract _ _) rfl (by (exact y_extract rfl rfl)) rfl rfl rfl rfl (by kernel_rfl) ?_
                  refine xAll (rs := [15]) (by kernel_rfl) rfl ⟨?_, trivial⟩
                  · (refine iE rfl (e_store rfl rfl rfl rfl rfl rfl rfl) rfl rfl ?_)
                    refine xY (i := 16) (op := .assign _) rfl (by (exact y_assign rfl)) rfl rfl rfl rfl (by kernel_rfl) ?_
                    exact xEnd (by kernel_rfl) ⟨rfl, by (repeat (first | exact sub_nil | refine sub_cons rfl ?_)), by (repeat (first | exact subH_nil | refine subH_cons rfl ?_))⟩
          repeat (refine seq_ ?_)
          refine cut_ [(4, .ptr 4 0), (7, .ptr 7 0), (9, .ptr 9 0)] [(4, .bx [Bo false, NL, Bo false, NL, Bo false, NL, Bo false, NL]), (7, .bx (mQ x)), (9, .bx (mQ y))] ?_ ?_
          · refine xDraw 1000 [2, 3, 4, 6, 7] mixed ?_
            refine xY (i := 0) (op := .fieldAddr _ _ _) rfl (by (exact y_fieldAddr rfl)) rfl rfl rfl rfl (by kernel_rfl) ?_
            refine xY (i := 1) (op := .load _ _) rfl (by (exact y_load1 rfl rfl rfl)) rfl rfl rfl rfl (by kernel_rfl) ?_
            refine xY (i := 2) (op := .fieldAddr _ _ _) rfl (by (exact y_fieldAddr rfl)) rfl rfl rfl rfl (by kernel_rfl) ?_
            refine xY (i := 3) (op := .load _ _) rfl (by (exact y_load1 rfl rfl rfl)) rfl rfl rfl rfl (by kernel_rfl) ?_
            refine xY (i := 4) (op := .fieldAddr _ _ _) rfl (by (exact y_fieldAddr rfl)) rfl rfl rfl rfl (by kernel_rfl) ?_
            refine xY (i := 5) (op := .load _ _) rfl (by (exact y_load1 rfl rfl rfl)) rfl rfl rfl rfl (by kernel_rfl) ?_
            refine xY (i := 6) (op := .fieldAddr _ _ _) rfl (by (exact y_fieldAddr rfl)) rfl rfl rfl rfl (by kernel_rfl) ?_
            refine xY (i := 7) (op := .load _ _) rfl (by (exact y_load1 rfl rfl rfl)) rfl rfl rfl rfl (by kernel_rfl) ?_
            refine xY (i := 9) (op := .load _ _) rfl (by (exact y_loadA rfl rfl rfl)) rfl rfl rfl rfl (by kernel_rfl) ?_
            refine xAll (rs := [8, 14]) (by kernel_rfl) rfl ⟨?_, ?_, trivial⟩
            · (refine iC rfl Tryz.func33 rfl rfl (m2) rfl (by repeat (first | exact .refl _ | apply Les.cons | exact .nil)) rfl rfl ?_)
              refine xAll (rs := [10, 14]) (by kernel_rfl) rfl ⟨?_, ?_, trivial⟩
              · (refine iC rfl Tryz.func34 rfl rfl (n2) rfl (by repeat (first | exact .refl _ | exact .tag _ _ | apply Le.ag | apply Les.cons | exact .nil)) rfl rfl ?_)
                refine xY (i := 11) (op := .move _) rfl (by (exact y_move rfl)) rfl rfl rfl rfl (by kernel_rfl) ?_
                refine xY (i := 12) (op := .extract _ _) rfl (by (exact y_extract rfl rfl)) rfl rfl rfl rfl (by kernel_rfl) ?_
                refine xY (i := 13) (op := .extract _ _) rfl (by (exact y_extract rfl rfl)) rfl rfl rfl rfl (by kernel_rfl) ?_
                refine xAll (rs := [14]) (by kernel_rfl) rfl ⟨?_, trivial⟩
                · (refine iE rfl (e_alloc rfl rfl rfl) rfl rfl ?_)
                  refine xAll (rs := [15]) (by kernel_rfl) rfl ⟨?_, trivial⟩
                  · (refine iE rfl (e_store rfl rfl rfl rfl rfl rfl rfl) rfl rfl ?_)
                    refine xY (i := 16) (op := .assign _) rfl (by (exact y_assign rfl)) rfl rfl rfl rfl (by kernel_rfl) ?_
                    exact xEnd (by kernel_rfl) ⟨rfl, by (repeat (first | exact sub_nil | refine sub_cons rfl ?_)), by (repeat (first | exact subH_nil | refine subH_cons rfl ?_))⟩
              · (refine iE rfl (e_alloc rfl rfl rfl) rfl rfl ?_)
                refine xAll (rs := [10]) (by kernel_rfl) rfl ⟨?_, trivial⟩
                · (refine iC rfl Tryz.func34 rfl rfl (n2) rfl (by repeat (first | exact .refl _ | exact .tag _ _ | apply Le.ag | apply Les.cons | exact .nil)) rfl rfl ?_)
                  refine xY (i := 11) (op := .move _) rfl (by (exact y_move rfl)) rfl rfl rfl rfl (by kernel_rfl) ?_
                  refine xY (i := 12) (op := .extract _ _) rfl (by (exact y_extract rfl rfl)) rfl rfl rfl rfl (by kernel_rfl) ?_
                  refine xY (i := 13) (op := .extract _ _) rfl (by (exact y_extract rfl rfl)) rfl rfl rfl rfl (by kernel_rfl) ?_
                  refine xAll (rs := [15]) (by kernel_rfl) rfl ⟨?_, trivial⟩
                  · (refine iE rfl (e_store rfl rfl rfl rfl rfl rfl rfl) rfl rfl ?_)
                    refine xY (i := 16) (op := .assign _) rfl (by (exact y_assign rfl)) rfl rfl rfl rfl (by kernel_rfl) ?_
                    exact xEnd (by kernel_rfl) ⟨rfl, by (repeat (first | exact sub_nil | refine sub_cons rfl ?_)), by (repeat (first | exact subH_nil | refine subH_cons rfl ?_))⟩
            · (refine iE rfl (e_alloc rfl rfl rfl) rfl rfl ?_)
              refine xAll (rs := [8]) (by kernel_rfl) rfl ⟨?_, trivial⟩
              · (refine iC rfl Tryz.func33 rfl rfl (m2) rfl (by repeat (first | exact .refl _ | apply Les.cons | exact .nil)) rfl rfl ?_)
                refine xAll (rs := [10]) (by kernel_rfl) rfl ⟨?_, trivial⟩
                · (refine iC rfl Tryz.func34 rfl rfl (n2) rfl (by repeat (first | exact .refl _ | exact .tag _ _ | apply Le.ag | apply Les.cons | exact .nil)) rfl rfl ?_)
                  refine xY (i := 11) (op := .move _) rfl (by (exact y_move rfl)) rfl rfl rfl rfl (by kernel_rfl) ?_
                  refine xY (i := 12) (op := .extract _ _) rfl (by (exact y_extract rfl rfl)) rfl rfl rfl rfl (by kernel_rfl) ?_
                  refine xY (i := 13) (op := .extract _ _) rfl (by (exact y_extract rfl rfl)) rfl rfl rfl rfl (by kernel_rfl) ?_
                  refine xAll (rs := [15]) (by kernel_rfl) rfl ⟨?_, trivial⟩
                  · (refine iE rfl (e_store rfl rfl rfl rfl rfl rfl rfl) rfl rfl ?_)
                    refine xY (i := 16) (op := .assign _) rfl (by (exact y_assign rfl)) rfl rfl rfl rfl (by kernel_rfl) ?_
                    exact xEnd (by kernel_rfl) ⟨rfl, by (repeat (first | exact sub_nil | refine sub_cons rfl ?_)), by (repeat (first | exact subH_nil | refine subH_cons rfl ?_))⟩
          repeat (first | refine seq_ ?_ | refine region_ ?_ | refine nil_ ?_ | refine ret_ ?_ | refine stepY (y_assign rfl) rfl ?_ | refine stepY (y_loadA rfl rfl rfl) rfl ?_ | refine stepY (y_build rfl rfl rfl) rfl ?_ | refine stepE (e_store rfl rfl rfl rfl rfl rfl rfl) ?_)
          ((apply fin_r); (repeat (first | exact .nil | exact .tmp rfl | exact .agg rfl rfl rfl | apply ResL.cons)); (repeat (exact .refl _)))
        · repeat (first | refine seq_ ?_ | refine region_ ?_ | refine nil_ ?_ | refine skip_ ?_ | refine cond_f rfl ?_ | refine guard_t rfl rfl rfl ?_ | refine guard_f rfl rfl rfl rfl ?_ | refine stepY (y_move rfl) rfl ?_ | refine stepY (y_assign rfl) rfl ?_ | refine stepY (y_load1 rfl rfl rfl) rfl ?_ | refine stepY (y_fieldAddr rfl) rfl ?_ | refine stepY (y_pick_f rfl rfl) rfl ?_ | refine stepY (y_cmpF rfl rfl rfl (by omega)) rfl ?_ | refine stepE (e_box rfl rfl rfl rfl rfl rfl) ?_ | refine stepE (e_alloc rfl rfl rfl) ?_)
          refine call_ Tryz.func33 rfl rfl (m0) rfl (by repeat (first | exact .refl _ | apply Les.cons | exact .nil)) rfl ?_
          repeat (first | refine seq_ ?_ | refine region_ ?_ | refine nil_ ?_ | refine skip_ ?_ | refine cond_f rfl ?_ | refine stepY (y_load1 rfl rfl rfl) rfl ?_ | refine stepY (y_fieldAddr rfl) rfl ?_ | refine stepY (y_len_si rfl) rfl ?_ | refine stepY (y_cmpF rfl rfl rfl (by omega)) rfl ?_ | refine stepE (e_alloc rfl rfl rfl) ?_ | refine stepE (e_store rfl rfl rfl rfl rfl rfl rfl) ?_)
          refine cut_ [(2, .ptr 2 0), (3, .ptr 3 0), (4, .ptr 4 0), (6, .ptr 6 0), (7, .ptr 7 0)] [(2, .bx [I a.1, I a.2.1, I a.2.2]), (3, .bx [I b.1, I b.2.1, I b.2.2]), (4, .bx [Bo false, NL, Bo false, NL, Bo false, NL, Bo false, NL]), (6, .bx [Bo (decide (detD a b < 0)), FM (detD a b).natAbs]), (7, .bx (mQ x))] ?_ ?_
          · refine xDraw 1000 [2, 3, 4, 6] mixed ?_
            refine xY (i := 0) (op := .fieldAddr _ _ _) rfl (by (exact y_fieldAddr rfl)) rfl rfl rfl rfl (by kernel_rfl) ?_
            refine xY (i := 1) (op := .load _ _) rfl (by (exact y_load1 rfl rfl rfl)) rfl rfl rfl rfl (by kernel_rfl) ?_
            refine xY (i := 2) (op := .fieldAddr _ _ _) rfl (by (exact y_fieldAddr rfl)) rfl rfl rfl rfl (by kernel_rfl) ?_
            refine xY (i := 3) (op := .load _ _) rfl (by (exact y_load1 rfl rfl rfl)) rfl rfl rfl rfl (by kernel_rfl) ?_
            refine xY (i := 4) (op := .fieldAddr _ _ _) rfl (by (exact y_fieldAddr rfl)) rfl rfl rfl rfl (by kernel_rfl) ?_
            refine xY (i := 5) (op := .load _ _) rfl (by (exact y_load1 rfl rfl rfl)) rfl rfl rfl rfl (by kernel_rfl) ?_
            refine xY (i := 6) (op := .fieldAddr _ _ _) rfl (by (exact y_fieldAddr rfl)) rfl rfl rfl rfl (by kernel_rfl) ?_
            refine xY (i := 7) (op := .load _ _) rfl (by (exact y_load1 rfl rfl rfl)) rfl rfl rfl rfl (by kernel_rfl) ?_
            refine xY (i := 9) (op := .load _ _) rfl (by (exact y_loadA rfl rfl rfl)) rfl rfl rfl rfl (by kernel_rfl) ?_
            refine xAll (rs := [8, 14]) (by kernel_rfl) rfl ⟨?_, ?_, trivial⟩
            · (refine iC rfl Tryz.func33 rfl rfl (m1) rfl (by repeat (first | exact .refl _ | apply Les.cons | exact .nil)) rfl rfl ?_)
              refine xAll (rs := [10, 14]) (by kernel_rfl) rfl ⟨?_, ?_, trivial⟩
              · (refine iC rfl Tryz.func34 rfl rfl (n1) rfl (by repeat (first | exact .refl _ | exact .tag _ _ | apply Le.ag | apply Les.cons | exact .nil)) rfl rfl ?_)
                refine xY (i := 11) (op := .move _) rfl (by (exact y_move rfl)) rfl rfl rfl rfl (by kernel_rfl) ?_
                refine xY (i := 12) (op := .extract _ _) rfl (by (exact y_extract rfl rfl)) rfl rfl rfl rfl (by kernel_rfl) ?_
                refine xY (i := 13) (op := .extract _ _) rfl (by (exact y_extract rfl rfl)) rfl rfl rfl rfl (by kernel_rfl) ?_
                refine xAll (rs := [14]) (by kernel_rfl) rfl ⟨?_, trivial⟩
                · (refine iE rfl (e_alloc rfl rfl rfl) rfl rfl ?_)
                  refine xAll (rs := [15]) (by kernel_rfl) rfl ⟨?_, trivial⟩
                  · (refine iE rfl (e_store rfl rfl rfl rfl rfl rfl rfl) rfl rfl ?_)
                    refine xY (i := 16) (op := .assign _) rfl (by (exact y_assign rfl)) rfl rfl rfl rfl (by kernel_rfl) ?_
                    exact xEnd (by kernel_rfl) ⟨rfl, by (repeat (first | exact sub_nil | refine sub_cons rfl ?_)), by (repeat (first | exact subH_nil | refine subH_cons rfl ?_))⟩
              · (refine iE rfl (e_alloc rfl rfl rfl) rfl rfl ?_)
                refine xAll (rs := [10]) (by kernel_rfl) rfl ⟨?_, trivial⟩
                · (refine iC rfl Tryz.func34 rfl rfl (n1) rfl (by repeat (first | exact .refl _ | exact .tag _ _ | apply Le.ag | apply Les.cons | exact .nil)) rfl rfl ?_)
                  refine xY (i := 11) (op := .move _) rfl (by (exact y_move rfl)) rfl rfl rfl rfl (by kernel_rfl) ?_
                  refine xY (i := 12) (op := .extract _ _) rfl (by (exact y_extract rfl rfl)) rfl rfl rfl rfl (by kernel_rfl) ?_
                  refine xY (i := 13) (op := .extract _ _) rfl (by (exact y_extract rfl rfl)) rfl rfl rfl rfl (by kernel_rfl) ?_
                  refine xAll (rs := [15]) (by kernel_rfl) rfl ⟨?_, trivial⟩
                  · (refine iE rfl (e_store rfl rfl rfl rfl rfl rfl rfl) rfl rfl ?_)
                    refine xY (i := 16) (op := .assign _) rfl (by (exact y_assign rfl)) rfl rfl rfl rfl (by kernel_rfl) ?_
                    exact xEnd (by kernel_rfl) ⟨rfl, by (repeat (first | exact sub_nil | refine sub_cons rfl ?_)), by (repeat (first | exact subH_nil | refine subH_cons rfl ?_))⟩
            · (refine iE rfl (e_alloc rfl rfl rfl) rfl rfl ?_)
              refine xAll (rs := [8]) (by kernel_rfl) rfl ⟨?_, trivial⟩
              · (refine iC rfl Tryz.func33 rfl rfl (m1) rfl (by repeat (first | exact .refl _ | apply Les.cons | exact .nil)) rfl rfl ?_)
                refine xAll (rs := [10]) (by kernel_rfl) rfl ⟨?_, trivial⟩
                · (refine iC rfl Tryz.func34 rfl rfl (n1) rfl (by repeat (first | exact .refl _ | exact .tag _ _ | apply Le.ag | apply Les.cons | exact .nil)) rfl rfl ?_)
                  refine xY (i := 11) (op := .move _) rfl (by (exact y_move rfl)) rfl rfl rfl rfl (by kernel_rfl) ?_
                  refine xY (i := 12) (op := .extract _ _) rfl (by (exact y_extract rfl rfl)) rfl rfl rfl rfl (by kernel_rfl) ?_
                  refine xY (i := 13) (op := .extract _ _) rfl (by (exact y_extract rfl rfl)) rfl rfl rfl rfl (by kernel_rfl) ?_
                  refine xAll (rs := [15]) (by kernel_rfl) rfl ⟨?_, trivial⟩
                  · (refine iE rfl (e_store rfl rfl rfl rfl rfl rfl rfl) rfl rfl ?_)
                    refine xY (i := 16) (op := .assign _) rfl (by (exact y_assign rfl)) rfl rfl rfl rfl (by kernel_rfl) ?_
                    exact xEnd (by kernel_rfl) ⟨rfl, by (repeat (first | exact sub_nil | refine sub_cons rfl ?_)), by (repeat (first | exact subH_nil | refine subH_cons rfl ?_))⟩
          repeat (refine seq_ ?_)
          refine cut_ [(4, .ptr 4 0), (7, .ptr 7 0), (9, .ptr 9 0)] [(4, .bx [Bo false, NL, Bo false, NL, Bo false, NL, Bo false, NL]), (7, .bx (mQ x)), (9, .bx (mQ y))] ?_ ?_
          · refine xDraw 1000 [2, 3, 4, 6, 7] mixed ?_
            refine xY (i := 0) (op := .fieldAddr _ _ _) rfl (by (exact y_fieldAddr rfl)) rfl rfl rfl rfl (by kernel_rfl) ?_
            refine xY (i := 1) (op := .load _ _) rfl (by (exact y_load1 rfl rfl rfl)) rfl rfl rfl rfl (by kernel_rfl) ?_
            refine xY (i := 2) (op := .fieldAddr _ _ _) rfl (by (exact y_fieldAddr rfl)) rfl rfl rfl rfl (by kernel_rfl) ?_
            refine xY (i := 3) (op := .load _ _) rfl (by (exact y_load1 rfl rfl rfl)) rfl rfl rfl rfl (by kernel_rfl) ?_
            refine xY (i := 4) (op := .fieldAddr _ _ _) rfl (by (exact y_fieldAddr rfl)) rfl rfl rfl rfl (by kernel_rfl) ?_
            refine xY (i := 5) (op := .load _ _) rfl (by (exact y_load1 rfl rfl rfl)) rfl rfl rfl rfl (by kernel_rfl) ?_
            refine xY (i := 6) (op := .fieldAddr _ _ _) rfl (by (exact y_fieldAddr rfl)) rfl rfl rfl rfl (by kernel_rfl) ?_
            refine xY (i := 7) (op := .load _ _) rfl (by (exact y_load1 rfl rfl rfl)) rfl rfl rfl rfl (by kernel_rfl) ?_
            refine xY (i := 9) (op := .load _ _) rfl (by (exact y_loadA rfl rfl rfl)) rfl rfl rfl rfl (by kernel_rfl) ?_
            refine xAll (rs := [8, 14]) (by kernel_rfl) rfl ⟨?_, ?_, trivial⟩
            · (refine iC rfl Tryz.func33 rfl rfl (m2) rfl (by repeat (first | exact .refl _ | apply Les.cons | exact .nil)) rfl rfl ?_)
              refine xAll (rs := [10, 14]) (by kernel_rfl) rfl ⟨?_, ?_, trivial⟩
              · (refine iC rfl Tryz.func34 rfl rfl (n2) rfl (by repeat (first | exact .refl _ | exact .tag _ _ | apply Le.ag | apply Les.cons | exact .nil)) rfl rfl ?_)
                refine xY (i := 11) (op := .move _) rfl (by (exact y_move rfl)) rfl rfl rfl rfl (by kernel_rfl) ?_
                refine xY (i := 12) (op := .extract _ _) rfl (by (exact y_extract rfl rfl)) rfl rfl rfl rfl (by kernel_rfl) ?_
                refine xY (i := 13) (op := .extract _ _) rfl (by (exact y_extract rfl rfl)) rfl rfl rfl rfl (by kernel_rfl) ?_
                refine xAll (rs := [14]) (by kernel_rfl) rfl ⟨?_, trivial⟩
                · (refine iE rfl (e_alloc rfl rfl rfl) rfl rfl ?_)
                  refine xAll (rs := [15]) (by kernel_rfl) rfl ⟨?_, trivial⟩
                  · (refine iE rfl (e_store rfl rfl rfl rfl rfl rfl rfl) rfl rfl ?_)
                    refine xY (i := 16) (op := .assign _) rfl (by (exact y_assign rfl)) rfl rfl rfl rfl (by kernel_rfl) ?_
                    exact xEnd (by kernel_rfl) ⟨rfl, by (repeat (first | exact sub_nil | refine sub_cons rfl ?_)), by (repeat (first | exact subH_nil | refine subH_cons rfl ?_))⟩
              · (refine iE rfl (e_alloc rfl rfl rfl) rfl rfl ?_)
                refine xAll (rs := [10]) (by kernel_rfl) rfl ⟨?_, trivial⟩
                · (refine iC rfl Tryz.func34 rfl rfl (n2) rfl (by repeat (first | exact .refl _ | exact .tag _ _ | apply Le.ag | apply Les.cons | exact .nil)) rfl rfl ?_)
                  refine xY (i := 11) (op := .move _) rfl (by (exact y_move rfl)) rfl rfl rfl rfl (by kernel_rfl) ?_
                  refine xY (i := 12) (op := .extract _ _) rfl (by (exact y_extract rfl rfl)) rfl rfl rfl rfl (by kernel_rfl) ?_
                  refine xY (i := 13) (op := .extract _ _) rfl (by (exact y_extract rfl rfl)) rfl rfl rfl rfl (by kernel_rfl) ?_
                  refine xAll (rs := [15]) (by kernel_rfl) rfl ⟨?_, trivial⟩
                  · (refine iE rfl (e_store rfl rfl rfl rfl rfl rfl rfl) rfl rfl ?_)
                    refine xY (i := 16) (op := .assign _) rfl (by (exact y_assign rfl)) rfl rfl rfl rfl (by kernel_rfl) ?_
                    exact xEnd (by kernel_rfl) ⟨rfl, by (repeat (first | exact sub_nil | refine sub_cons rfl ?_)), by (repeat (first | exact subH_nil | refine subH_cons rfl ?_))⟩
            · (refine iE rfl (e_alloc rfl rfl rfl) rfl rfl ?_)
              refine xAll (rs := [8]) (by kernel_rfl) rfl ⟨?_, trivial⟩
              · (refine iC rfl Tryz.func33 rfl rfl (m2) rfl (by repeat (first | exact .refl _ | apply Les.cons | exact .nil)) rfl rfl ?_)
                refine xAll (rs := [10]) (by kernel_rfl) rfl ⟨?_, trivial⟩
                · (refine iC rfl Tryz.func34 rfl rfl (n2) rfl (by repeat (first | exact .refl _ | exact .tag _ _ | apply Le.ag | apply Les.cons | exact .nil)) rfl rfl ?_)
                  refine xY (i := 11) (op := .move _) rfl (by (exact y_move rfl)) rfl rfl rfl rfl (by kernel_rfl) ?_
                  refine xY (i := 12) (op := .extract _ _) rfl (by (exact y_extract rfl rfl)) rfl rfl rfl rfl (by kernel_rfl) ?_
                  refine xY (i := 13) (op := .extract _ _) rfl (by (exact y_extract rfl rfl)) rfl rfl rfl rfl (by kernel_rfl) ?_
                  refine xAll (rs := [15]) (by kernel_rfl) rfl ⟨?_, trivial⟩
                  · (refine iE rfl (e_store rfl rfl rfl rfl rfl rfl rfl) rfl rfl ?_)
                    refine xY (i := 16) (op := .assign _) rfl (by (exact y_assign rfl)) rfl rfl rfl rfl (by kernel_rfl) ?_
                    exact xEnd (by kernel_rfl) ⟨rfl, by (repeat (first | exact sub_nil | refine sub_cons rfl ?_)), by (repeat (first | exact subH_nil | refine subH_cons rfl ?_))⟩
          repeat (first | refine seq_ ?_ | refine region_ ?_ | refine nil_ ?_ | refine ret_ ?_ | refine stepY (y_assign rfl) rfl ?_ | refine stepY (y_loadA rfl rfl rfl) rfl ?_ | refine stepY (y_build rfl rfl rfl) rfl ?_ | refine stepE (e_store rfl rfl rfl rfl rfl rfl rfl) ?_)
          ((apply fin_r); (repeat (first | exact .nil | exact .tmp rfl | exact .agg rfl rfl rfl | apply ResL.cons)); (repeat (exact .refl _)))
theorem GMeets_h (h9 : Con Tryz.prog 5 [] (Bo true)) (a b : Ln) (ha : lnOk a) (hbo : lnOk b) : Con Tryz.prog 4 [lnP a, lnP b] (Bo true) := by
  have h1 := Meet_c a b ha hbo
  have h2 := RMeet_c a b ha hbo
  have e0 : limbs 0 = [] := rfl
  have hz := Same_m false false 0 0
  simp only [M, e0] at hz
  unfold meetR at h1
  unfold rmeetR at h2
  refine con_of Tryz.func4 rfl rfl rfl rfl rfl ?_
  by_cases hb : badL a b
  · rw [if_pos hb] at h1 h2
    repeat (first | refine seq_ ?_ | refine region_ ?_ | refine nil_ ?_ | refine stepY (y_assign rfl) rfl ?_ | refine stepY (y_loadA rfl rfl rfl) rfl ?_ | refine stepE (e_box rfl rfl rfl rfl rfl rfl) ?_)
    refine call_ Tryz.func9 rfl rfl (h1) rfl (by repeat (first | exact .refl _ | apply Les.cons | exact .nil)) rfl ?_
    repeat (first | refine seq_ ?_ | refine region_ ?_ | refine nil_ ?_ | refine stepY (y_move rfl) rfl ?_ | refine stepY (y_assign rfl) rfl ?_ | refine stepY (y_loadA rfl rfl rfl) rfl ?_ | refine stepY (y_extract rfl rfl) rfl ?_ | refine stepE (e_alloc rfl rfl rfl) ?_ | refine stepE (e_store rfl rfl rfl rfl rfl rfl rfl) ?_)
    refine call_ Tryz.func10 rfl rfl (h2) rfl (by repeat (first | exact .refl _ | apply Les.cons | exact .nil)) rfl ?_
    repeat (first | refine seq_ ?_ | refine region_ ?_ | refine nil_ ?_ | refine stepY (y_move rfl) rfl ?_ | refine stepY (y_assign rfl) rfl ?_ | refine stepY (y_loadA rfl rfl rfl) rfl ?_ | refine stepY (y_fieldAddr rfl) rfl ?_ | refine stepY (y_extract rfl rfl) rfl ?_ | refine stepE (e_alloc rfl rfl rfl) ?_ | refine stepE (e_store rfl rfl rfl rfl rfl rfl rfl) ?_)
    refine call_ Tryz.func11 rfl rfl (hz) rfl (by repeat (first | exact .refl _ | exact .nil _ _ | apply Le.ag | apply Les.cons | exact .nil)) rfl ?_
    repeat (first | refine guard_t rfl rfl rfl ?_ | refine stepY (y_move rfl) rfl ?_ | refine stepY (y_loadA rfl rfl rfl) rfl ?_ | refine stepY (y_fieldAddr rfl) rfl ?_)
    refine call_ Tryz.func11 rfl rfl (hz) rfl (by repeat (first | exact .refl _ | exact .nil _ _ | apply Le.ag | apply Les.cons | exact .nil)) rfl ?_
    repeat (first | refine guard_t rfl rfl rfl ?_ | refine stepY (y_move rfl) rfl ?_ | refine stepY (y_pick_t rfl rfl) rfl ?_ | refine stepY (y_cmpT rfl rfl rfl (by omega)) rfl ?_)
    refine call_ Tryz.func5 rfl rfl (h9) rfl (by repeat (exact .nil)) rfl ?_
    repeat (first | refine nil_ ?_ | refine ret_ ?_ | refine stepY (y_assign rfl) rfl ?_ | refine stepY (y_pick_t rfl rfl) rfl ?_)
    ((apply fin_r); (repeat (first | exact .nil | exact .tmp rfl | apply ResL.cons)); (repeat (exact .refl _)))
  · rw [if_neg hb] at h1 h2
    by_cases h0 : detD a b = 0
    · rw [if_pos h0] at h1 h2
      repeat (first | refine seq_ ?_ | refine region_ ?_ | refine nil_ ?_ | refine stepY (y_assign rfl) rfl ?_ | refine stepY (y_loadA rfl rfl rfl) rfl ?_ | refine stepE (e_box rfl rfl rfl rfl rfl rfl) ?_)
      refine call_ Tryz.func9 rfl rfl (h1) rfl (by repeat (first | exact .refl _ | apply Les.cons | exact .nil)) rfl ?_
      repeat (first | refine seq_ ?_ | refine region_ ?_ | refine nil_ ?_ | refine stepY (y_move rfl) rfl ?_ | refine stepY (y_assign rfl) rfl ?_ | refine stepY (y_loadA rfl rfl rfl) rfl ?_ | refine stepY (y_extract rfl rfl) rfl ?_ | refine stepE (e_alloc rfl rfl rfl) ?_ | refine stepE (e_store rfl rfl rfl rfl rfl rfl rfl) ?_)
      refine call_ Tryz.func10 rfl rfl (h2) rfl (by repeat (first | exact .refl _ | apply Les.cons | exact .nil)) rfl ?_
      repeat (first | refine seq_ ?_ | refine region_ ?_ | refine nil_ ?_ | refine stepY (y_move rfl) rfl ?_ | refine stepY (y_assign rfl) rfl ?_ | refine stepY (y_loadA rfl rfl rfl) rfl ?_ | refine stepY (y_fieldAddr rfl) rfl ?_ | refine stepY (y_extract rfl rfl) rfl ?_ | refine stepE (e_alloc rfl rfl rfl) ?_ | refine stepE (e_store rfl rfl rfl rfl rfl rfl rfl) ?_)
      refine call_ Tryz.func11 rfl rfl (hz) rfl (by repeat (first | exact .refl _ | exact .nil _ _ | apply Le.ag | apply Les.cons | exact .nil)) rfl ?_
      repeat (first | refine guard_t rfl rfl rfl ?_ | refine stepY (y_move rfl) rfl ?_ | refine stepY (y_loadA rfl rfl rfl) rfl ?_ | refine stepY (y_fieldAddr rfl) rfl ?_)
      refine call_ Tryz.func11 rfl rfl (hz) rfl (by repeat (first | exact .refl _ | exact .nil _ _ | apply Le.ag | apply Les.cons | exact .nil)) rfl ?_
      repeat (first | refine guard_t rfl rfl rfl ?_ | refine stepY (y_move rfl) rfl ?_ | refine stepY (y_pick_t rfl rfl) rfl ?_ | refine stepY (y_cmpT rfl rfl rfl (by omega)) rfl ?_)
      refine call_ Tryz.func5 rfl rfl (h9) rfl (by repeat (exact .nil)) rfl ?_
      repeat (first | refine nil_ ?_ | refine ret_ ?_ | refine stepY (y_assign rfl) rfl ?_ | refine stepY (y_pick_t rfl rfl) rfl ?_)
      ((apply fin_r); (repeat (first | exact .nil | exact .tmp rfl | apply ResL.cons)); (repeat (exact .refl _)))
    · rw [if_neg h0] at h1 h2
      generalize Rat.divInt (detX a b) (detD a b) = x at *
      generalize Rat.divInt (detY a b) (detD a b) = y at *
      have s1 := Same_m (decide (x.num < 0)) false x.num.natAbs x.den
      have s2 := Same_m (decide (y.num < 0)) false y.num.natAbs y.den
      repeat (first | refine seq_ ?_ | refine region_ ?_ | refine nil_ ?_ | refine stepY (y_assign rfl) rfl ?_ | refine stepY (y_loadA rfl rfl rfl) rfl ?_ | refine stepE (e_box rfl rfl rfl rfl rfl rfl) ?_)
      refine call_ Tryz.func9 rfl rfl (h1) rfl (by repeat (first | exact .refl _ | apply Les.cons | exact .nil)) rfl ?_
      repeat (first | refine seq_ ?_ | refine region_ ?_ | refine nil_ ?_ | refine stepY (y_move rfl) rfl ?_ | refine stepY (y_assign rfl) rfl ?_ | refine stepY (y_loadA rfl rfl rfl) rfl ?_ | refine stepY (y_extract rfl rfl) rfl ?_ | refine stepE (e_alloc rfl rfl rfl) ?_ | refine stepE (e_store rfl rfl rfl rfl rfl rfl rfl) ?_)
      refine call_ Tryz.func10 rfl rfl (h2) rfl (by repeat (first | exact .refl _ | apply Les.cons | exact .nil)) rfl ?_
      repeat (first | refine seq_ ?_ | refine region_ ?_ | refine nil_ ?_ | refine stepY (y_move rfl) rfl ?_ | refine stepY (y_assign rfl) rfl ?_ | refine stepY (y_loadA rfl rfl rfl) rfl ?_ | refine stepY (y_fieldAddr rfl) rfl ?_ | refine stepY (y_extract rfl rfl) rfl ?_ | refine stepE (e_alloc rfl rfl rfl) ?_ | refine stepE (e_store rfl rfl rfl rfl rfl rfl rfl) ?_)
      refine call_ Tryz.func11 rfl rfl (s1) rfl (by repeat (first | exact .refl _ | exact .tag _ _ | apply Le.ag | apply Les.cons | exact .nil)) rfl ?_
      repeat (first | refine guard_t rfl rfl rfl ?_ | refine stepY (y_move rfl) rfl ?_ | refine stepY (y_loadA rfl rfl rfl) rfl ?_ | refine stepY (y_fieldAddr rfl) rfl ?_)
      refine call_ Tryz.func11 rfl rfl (s2) rfl (by repeat (first | exact .refl _ | exact .tag _ _ | apply Le.ag | apply Les.cons | exact .nil)) rfl ?_
      repeat (first | refine guard_t rfl rfl rfl ?_ | refine stepY (y_move rfl) rfl ?_ | refine stepY (y_pick_t rfl rfl) rfl ?_ | refine stepY (y_cmpT rfl rfl rfl (by omega)) rfl ?_)
      refine call_ Tryz.func5 rfl rfl (h9) rfl (by repeat (exact .nil)) rfl ?_
      repeat (first | refine nil_ ?_ | refine ret_ ?_ | refine stepY (y_assign rfl) rfl ?_ | refine stepY (y_pick_t rfl rfl) rfl ?_)
      ((apply fin_r); (repeat (first | exact .nil | exact .tmp rfl | apply ResL.cons)); (repeat (exact .refl _)))
end Go.Av

import Derived.Test.YtckngipgcnhfpaaLj
import Derived.Test.YtckngipgcnhfpaaP6
set_option maxHeartbeats 8000000
set_option exponentiation.threshold 100000
set_option maxRecDepth 100000
set_option linter.unusedVariables false
set_option linter.unusedSimpArgs false
namespace Go.Av
open Go Go.Proofs
theorem dg0_two (n : Nat) : dg n 0 % 2 = n % 2 := by
  unfold dg; rw [Nat.pow_zero, Nat.div_one]; unfold B; omega
theorem RGCD_s (p q : Bool) (m n : Nat) (hp : vldB p (limbs m) = true) (hq : vldB q (limbs n) = true) : Con Try.prog 18 [SV p m, SV q n] (.tp [FIV (Nat.gcd m n : Nat), E_ 0]) := by
  refine con_of Try.func18 rfl rfl rfl rfl rfl ?_
  have hv1 := RValid_c p (limbs m)
  have hv2 := RValid_c q (limbs n)
  rw [hp] at hv1
  rw [hq] at hv2
  have hlm := vld_ln hp
  have hln := vld_ln hq
  have hlg := gcd_ln hlm hln
  repeat (first | refine seq_ ?_ | refine region_ ?_ | refine nil_ ?_ | refine stepY (y_assign rfl) rfl ?_ | refine stepY (y_loadA rfl rfl rfl) rfl ?_ | refine stepE (e_box rfl rfl rfl rfl rfl rfl) ?_ | refine stepE (e_alloc rfl rfl rfl) ?_)
  refine call_ Try.func33 rfl rfl hv1 rfl (by repeat (first | exact .refl _ | apply Les.cons | exact .nil)) rfl ?_
  repeat (first | refine guard_t rfl rfl rfl ?_ | refine stepY (y_move rfl) rfl ?_ | refine stepY (y_loadA rfl rfl rfl) rfl ?_ | refine stepY (y_not rfl) rfl ?_)
  refine call_ Try.func33 rfl rfl hv2 rfl (by repeat (first | exact .refl _ | apply Les.cons | exact .nil)) rfl ?_
  repeat (first | refine seq_ ?_ | refine region_ ?_ | refine nil_ ?_ | refine skip_ ?_ | refine block_ ?_ | refine cond_f rfl ?_ | refine guard_t rfl rfl rfl ?_ | refine stepY (y_assign rfl) rfl ?_ | refine stepY (y_load1 rfl rfl rfl) rfl ?_ | refine stepY (y_fieldAddr rfl) rfl ?_ | refine stepY (y_not rfl) rfl ?_ | refine stepY (y_pick_f rfl rfl) rfl ?_)
  refine loop_ (α := Nat × Nat × Nat) (fun y => ([(4, .ptr 4 0), (6, .p (M y.1)), (7, .p (M y.2.1)), (8, .p (I y.2.2))], [(4, .bx [Bo false, .v (.slice none 0 0)])])) (fun y => ln y.1 ≤ 512 ∧ ln y.2.1 ≤ 512 ∧ Nat.gcd y.1 y.2.1 * 2 ^ y.2.2 = Nat.gcd m n ∧ y.2.2 ≤ 16384) (fun y => y.1 + y.2.1) (m, n, 0) ⟨hlm, hln, by simp, by simp⟩ ?_ ?_ ?_
  · (repeat (first | exact sub_nil | refine sub_cons rfl ?_))
  · (repeat (first | exact subH_nil | refine subH_cons rfl ?_))
  intro ⟨x, y, t⟩ ⟨hx, hy, hg, ht⟩
  dsimp only at hx hy hg ht ⊢
  have hlx : ((limbs x).length : Int) = ln x := by rw [limbs_length]
  have hly : ((limbs y).length : Int) = ln y := by rw [limbs_length]
  by_cases h0 : 0 < x ∧ 0 < y
  · obtain ⟨hx0, hy0⟩ := h0
    have hx1 := ln_pos.2 hx0
    have hy1 := ln_pos.2 hy0
    have hgp : 0 < Nat.gcd x y := Nat.gcd_pos_of_pos_left _ hx0
    have ht1 := twos_lt hgp hg hlg
    have rx := rd_limbs x (i := 0) (by omega)
    have ry := rd_limbs y (i := 0) (by omega)
    have dx := dg0_two x
    have dy := dg0_two y
    have dx1 := dg_lt x 0
    have dy1 := dg_lt y 0
    have hxh := (half_c x (by omega)).le (.tag _ _)
    have hyh := (half_c y (by omega)).le (.tag _ _)
    have hlx2 := ln_mono (Nat.div_le_self x 2)
    have hly2 := ln_mono (Nat.div_le_self y 2)
    have ho := order_c (limbs x) (limbs y) (wf_limbs _) (wf_limbs _) (by rw [limbs_length]; omega) (by rw [limbs_length]; omega)
    rw [val_limbs, val_limbs] at ho
    rw [show (0 : Int).toNat = 0 from rfl] at rx ry
    have rx2 : rd (limbs x) 0 % 2 = ((x % 2 : Nat) : Int) := by rw [rx]; omega
    have ry2 : rd (limbs y) 0 % 2 = ((y % 2 : Nat) : Int) := by rw [ry]; omega
    have hrx : 0 ≤ rd (limbs x) 0 := by rw [rx]; omega
    have hry : 0 ≤ rd (limbs y) 0 := by rw [ry]; omega
    by_cases ex : x % 2 = 0
    · by_cases ey : y % 2 = 0
      · repeat (first | refine seq_ ?_ | refine region_ ?_ | refine nil_ ?_ | refine skip_ ?_ | refine block_ ?_ | refine cond_t rfl ?_ | refine guard_t rfl rfl rfl ?_ | refine stepY (y_move rfl) rfl ?_ | refine stepY (y_assign rfl) rfl ?_ | refine stepY (y_load_rc1 rfl rfl) rfl ?_ | refine stepY (y_len_si rfl) rfl ?_ | refine stepY (y_pick_t rfl rfl) rfl ?_ | refine stepY (y_index_si rfl rfl (by omega) (by omega)) rfl ?_ | refine stepY (y_remp rfl rfl (by omega) (by omega)) rfl ?_ | refine stepY (y_cmpT rfl rfl rfl (by omega)) rfl ?_ | refine stepY (y_cmpT rfl rfl rfl (by omega)) rfl ?_)
        refine call_ Try.func59 rfl rfl hxh rfl (by repeat (first | exact .refl _ | apply Les.cons | exact .nil)) rfl ?_
        repeat (first | refine seq_ ?_ | refine region_ ?_ | refine nil_ ?_ | refine stepY (y_move rfl) rfl ?_ | refine stepY (y_assign rfl) rfl ?_)
        refine call_ Try.func59 rfl rfl hyh rfl (by repeat (first | exact .refl _ | apply Les.cons | exact .nil)) rfl ?_
        repeat (first | refine region_ ?_ | refine nil_ ?_ | refine stepY (y_move rfl) rfl ?_ | refine stepY (y_assign rfl) rfl ?_ | refine stepY (y_binn rfl rfl rfl (by simp only [InK, loK, hiK]; omega)) rfl ?_)
        refine ⟨(x / 2, y / 2, t + 1), ⟨by show ln (x / 2) ≤ 512; omega, by show ln (y / 2) ≤ 512; omega, ?_, by show t + 1 ≤ 16384; omega⟩, by show x / 2 + y / 2 < x + y; omega, ?_, ?_⟩
        · show Nat.gcd (x / 2) (y / 2) * 2 ^ (t + 1) = Nat.gcd m n
          rw [Nat.pow_succ, Nat.mul_comm (2 ^ t), ← Nat.mul_assoc, gcd_ee ex ey, hg]
        · (repeat (first | exact sub_nil | refine sub_cons rfl ?_))
        · (repeat (first | exact subH_nil | refine subH_cons rfl ?_))
      · repeat (first | refine seq_ ?_ | refine region_ ?_ | refine nil_ ?_ | refine skip_ ?_ | refine block_ ?_ | refine cond_t rfl ?_ | refine cond_f rfl ?_ | refine guard_t rfl rfl rfl ?_ | refine stepY (y_move rfl) rfl ?_ | refine stepY (y_assign rfl) rfl ?_ | refine stepY (y_load_rc1 rfl rfl) rfl ?_ | refine stepY (y_len_si rfl) rfl ?_ | refine stepY (y_pick_t rfl rfl) rfl ?_ | refine stepY (y_index_si rfl rfl (by omega) (by omega)) rfl ?_ | refine stepY (y_remp rfl rfl (by omega) (by omega)) rfl ?_ | (first | refine stepY (y_cmpT rfl rfl rfl (by omega)) rfl ?_ | refine stepY (y_cmpF rfl rfl rfl (by omega)) rfl ?_) | refine stepY (y_cmpT rfl rfl rfl (by omega)) rfl ?_)
        refine call_ Try.func59 rfl rfl hxh rfl (by repeat (first | exact .refl _ | apply Les.cons | exact .nil)) rfl ?_
        repeat (first | refine nil_ ?_ | refine stepY (y_assign rfl) rfl ?_)
        refine ⟨(x / 2, y, t), ⟨by show ln (x / 2) ≤ 512; omega, hy, ?_, ht⟩, by show x / 2 + y < x + y; omega, ?_, ?_⟩
        · show Nat.gcd (x / 2) y * 2 ^ t = Nat.gcd m n
          rw [gcd_eo ex (by omega), hg]
        · (repeat (first | exact sub_nil | refine sub_cons rfl ?_))
        · (repeat (first | exact subH_nil | refine subH_cons rfl ?_))
    · by_cases ey : y % 2 = 0
      · repeat (first | refine seq_ ?_ | refine region_ ?_ | refine nil_ ?_ | refine skip_ ?_ | refine block_ ?_ | refine cond_t rfl ?_ | refine cond_f rfl ?_ | refine guard_t rfl rfl rfl ?_ | refine guard_f rfl rfl rfl rfl ?_ | refine stepY (y_move rfl) rfl ?_ | refine stepY (y_assign rfl) rfl ?_ | refine stepY (y_load_rc1 rfl rfl) rfl ?_ | refine stepY (y_len_si rfl) rfl ?_ | (first | refine stepY (y_pick_t rfl rfl) rfl ?_ | refine stepY (y_pick_f rfl rfl) rfl ?_) | refine stepY (y_index_si rfl rfl (by omega) (by omega)) rfl ?_ | refine stepY (y_remp rfl rfl (by omega) (by omega)) rfl ?_ | (first | refine stepY (y_cmpT rfl rfl rfl (by omega)) rfl ?_ | refine stepY (y_cmpF rfl rfl rfl (by omega)) rfl ?_) | refine stepY (y_cmpT rfl rfl rfl (by omega)) rfl ?_)
        refine call_ Try.func59 rfl rfl hyh rfl (by repeat (first | exact .refl _ | apply Les.cons | exact .nil)) rfl ?_
        repeat (first | refine nil_ ?_ | refine stepY (y_assign rfl) rfl ?_)
        refine ⟨(x, y / 2, t), ⟨hx, by show ln (y / 2) ≤ 512; omega, ?_, ht⟩, by show x + y / 2 < x + y; omega, ?_, ?_⟩
        · show Nat.gcd x (y / 2) * 2 ^ t = Nat.gcd m n
          rw [gcd_oe (by omega) ey, hg]
        · (repeat (first | exact sub_nil | refine sub_cons rfl ?_))
        · (repeat (first | exact subH_nil | refine subH_cons rfl ?_))
      · by_cases hxy : y ≤ x
        · have hs : 0 ≤ sg x y := by unfold sg; rw [if_neg (by omega)]; split <;> omega
          have hm := (minus_c (limbs x) (limbs y) (wf_limbs _) (wf_limbs _) (by rw [limbs_length]; omega) (by rw [val_limbs, val_limbs]; exact hxy)).le (.tag _ _)
          rw [val_limbs, val_limbs] at hm
          have hlm2 := ln_mono (Nat.sub_le x y)
          repeat (first | refine seq_ ?_ | refine region_ ?_ | refine nil_ ?_ | refine skip_ ?_ | refine block_ ?_ | refine cond_t rfl ?_ | refine cond_f rfl ?_ | refine guard_t rfl rfl rfl ?_ | refine guard_f rfl rfl rfl rfl ?_ | refine stepY (y_move rfl) rfl ?_ | refine stepY (y_assign rfl) rfl ?_ | refine stepY (y_load_rc1 rfl rfl) rfl ?_ | refine stepY (y_len_si rfl) rfl ?_ | (first | refine stepY (y_pick_t rfl rfl) rfl ?_ | refine stepY (y_pick_f rfl rfl) rfl ?_) | refine stepY (y_index_si rfl rfl (by omega) (by omega)) rfl ?_ | refine stepY (y_remp rfl rfl (by omega) (by omega)) rfl ?_ | refine stepY (y_cmpF rfl rfl rfl (by omega)) rfl ?_ | refine stepY (y_cmpT rfl rfl rfl (by omega)) rfl ?_)
          refine call_ Try.func60 rfl rfl ho rfl (by repeat (first | exact .refl _ | apply Les.cons | exact .nil)) rfl ?_
          repeat (first | refine region_ ?_ | refine nil_ ?_ | refine cond_t rfl ?_ | refine stepY (y_move rfl) rfl ?_ | refine stepY (y_assign rfl) rfl ?_ | refine stepY (y_cmpT rfl rfl rfl (by omega)) rfl ?_)
          refine call_ Try.func58 rfl rfl hm rfl (by repeat (first | exact .refl _ | apply Les.cons | exact .nil)) rfl ?_
          repeat (first | refine nil_ ?_ | refine stepY (y_assign rfl) rfl ?_)
          refine ⟨(x - y, y, t), ⟨by show ln (x - y) ≤ 512; omega, hy, ?_, ht⟩, by show x - y + y < x + y; omega, ?_, ?_⟩
          · show Nat.gcd (x - y) y * 2 ^ t = Nat.gcd m n
            rw [gcd_sl hxy, hg]
          · (repeat (first | exact sub_nil | refine sub_cons rfl ?_))
          · (repeat (first | exact subH_nil | refine subH_cons rfl ?_))
        · have hs : sg x y = -1 := sg_lt (by omega)
          rw [hs] at ho
          have hm := (minus_c (limbs y) (limbs x) (wf_limbs _) (wf_limbs _) (by rw [limbs_length]; omega) (by rw [val_limbs, val_limbs]; omega)).le (.tag _ _)
          rw [val_limbs, val_limbs] at hm
          have hlm2 := ln_mono (Nat.sub_le y x)
          repeat (first | refine seq_ ?_ | refine region_ ?_ | refine nil_ ?_ | refine skip_ ?_ | refine block_ ?_ | refine cond_t rfl ?_ | refine cond_f rfl ?_ | refine guard_t rfl rfl rfl ?_ | refine guard_f rfl rfl rfl rfl ?_ | refine stepY (y_move rfl) rfl ?_ | refine stepY (y_assign rfl) rfl ?_ | refine stepY (y_load_rc1 rfl rfl) rfl ?_ | refine stepY (y_len_si rfl) rfl ?_ | (first | refine stepY (y_pick_t rfl rfl) rfl ?_ | refine stepY (y_pick_f rfl rfl) rfl ?_) | refine stepY (y_index_si rfl rfl (by omega) (by omega)) rfl ?_ | refine stepY (y_remp rfl rfl (by omega) (by omega)) rfl ?_ | refine stepY (y_cmpF rfl rfl rfl (by omega)) rfl ?_ | refine stepY (y_cmpT rfl rfl rfl (by omega)) rfl ?_)
          refine call_ Try.func60 rfl rfl ho rfl (by repeat (first | exact .refl _ | apply Les.cons | exact .nil)) rfl ?_
          repeat (first | refine region_ ?_ | refine nil_ ?_ | refine cond_f rfl ?_ | refine stepY (y_move rfl) rfl ?_ | refine stepY (y_assign rfl) rfl ?_ | refine stepY (y_cmpF rfl rfl rfl (by omega)) rfl ?_)
          refine call_ Try.func58 rfl rfl hm rfl (by repeat (first | exact .refl _ | apply Les.cons | exact .nil)) rfl ?_
          repeat (first | refine nil_ ?_ | refine stepY (y_assign rfl) rfl ?_)
          refine ⟨(x, y - x, t), ⟨hx, by show ln (y - x) ≤ 512; omega, ?_, ht⟩, by show x + (y - x) < x + y; omega, ?_, ?_⟩
          · show Nat.gcd x (y - x) * 2 ^ t = Nat.gcd m n
            rw [gcd_sr (by omega), hg]
          · (repeat (first | exact sub_nil | refine sub_cons rfl ?_))
          · (repeat (first | exact subH_nil | refine subH_cons rfl ?_))
  · have hgc : Nat.gcd x y = x + y := by
      rcases Nat.eq_zero_or_pos x with h | h
      · subst h; rw [Nat.gcd_zero_left, Nat.zero_add]
      · obtain rfl : y = 0 := by omega
        rw [Nat.gcd_zero_right, Nat.add_zero]
    rw [hgc] at hg
    have hpl := (plus_c (limbs x) (limbs y) (wf_limbs _) (wf_limbs _) (by rw [limbs_length]; omega) (by rw [limbs_length]; omega)).le (.tag _ _)
    rw [val_limbs, val_limbs] at hpl
    generalize x + y = g at *
    have hzx : ¬ 0 < x → ((limbs x).length : Int) = 0 := fun h => by rw [limbs_length]; have := ln_pos (n := x); omega
    have hzy : ¬ 0 < y → ((limbs y).length : Int) = 0 := fun h => by rw [limbs_length]; have := ln_pos (n := y); omega
    have hpx := ln_pos (n := x)
    by_cases hx0 : 0 < x
    · have hy0 := hzy (fun h => h0 ⟨hx0, h⟩)
      have hx1 := ln_pos.2 hx0
      repeat (first | refine seq_ ?_ | refine region_ ?_ | refine nil_ ?_ | refine exit_ ?_ | refine cond_f rfl ?_ | refine guard_t rfl rfl rfl ?_ | refine stepY (y_move rfl) rfl ?_ | refine stepY (y_len_si rfl) rfl ?_ | refine stepY (y_pick_t rfl rfl) rfl ?_ | (first | refine stepY (y_cmpT rfl rfl rfl (by omega)) rfl ?_ | refine stepY (y_cmpF rfl rfl rfl (by omega)) rfl ?_))
      refine call_ Try.func57 rfl rfl hpl rfl (by repeat (first | exact .refl _ | apply Les.cons | exact .nil)) rfl ?_
      repeat (first | refine seq_ ?_ | refine region_ ?_ | refine nil_ ?_ | refine block_ ?_ | refine stepY (y_assign rfl) rfl ?_)
      refine loop_ (α := Nat) (fun i => ([(4, .ptr 4 0), (8, .p (I t)), (9, .p (M (g * 2 ^ i))), (10, .p (I i))], [(4, .bx [Bo false, .v (.slice none 0 0)])])) (fun i => i ≤ t) (fun i => t - i) 0 (Nat.zero_le _) ?_ ?_ ?_
      · rw [Nat.pow_zero, Nat.mul_one]; (repeat (first | exact sub_nil | refine sub_cons rfl ?_))
      · (repeat (first | exact subH_nil | refine subH_cons rfl ?_))
      intro i hi
      have hle : g * 2 ^ i ≤ Nat.gcd m n := by rw [← hg]; exact Nat.mul_le_mul_left _ (Nat.pow_le_pow_right (by decide) hi)
      have hll := ln_mono hle
      by_cases hlt : i < t
      · have hp2 := (plus_c (limbs (g * 2 ^ i)) (limbs (g * 2 ^ i)) (wf_limbs _) (wf_limbs _) (by rw [limbs_length]; omega) (by rw [limbs_length]; omega)).le (.tag _ _)
        rw [val_limbs, ← Nat.mul_two, Nat.mul_assoc, ← Nat.pow_succ] at hp2
        repeat (first | refine seq_ ?_ | refine region_ ?_ | refine nil_ ?_ | refine skip_ ?_ | refine block_ ?_ | refine cond_t rfl ?_ | refine stepY (y_move rfl) rfl ?_ | refine stepY (y_cmpT rfl rfl rfl (by omega)) rfl ?_)
        refine call_ Try.func57 rfl rfl hp2 rfl (by repeat (first | exact .refl _ | apply Les.cons | exact .nil)) rfl ?_
        repeat (first | refine region_ ?_ | refine nil_ ?_ | refine stepY (y_move rfl) rfl ?_ | refine stepY (y_assign rfl) rfl ?_ | refine stepY (y_binn rfl rfl rfl (by simp only [InK, loK, hiK]; omega)) rfl ?_)
        refine ⟨i + 1, by omega, by omega, ?_, ?_⟩ <;> (repeat (first | exact sub_nil | exact subH_nil | refine sub_cons rfl ?_ | refine subH_cons rfl ?_))
      · obtain rfl : i = t := by omega
        have hsg := signed_c false (limbs (g * 2 ^ i)) (wf_limbs _) (by rw [limbs_length]; omega)
        rw [val_limbs, hg] at hsg
        repeat (first | refine seq_ ?_ | refine region_ ?_ | refine nil_ ?_ | refine exit_ ?_ | refine cond_f rfl ?_ | refine stepY (y_move rfl) rfl ?_ | refine stepY (y_cmpF rfl rfl rfl (by omega)) rfl ?_)
        rw [hg]
        refine call_ Try.func56 rfl rfl hsg rfl (by repeat (first | exact .refl _ | apply Les.cons | exact .nil)) rfl ?_
        repeat (first | refine nil_ ?_ | refine ret_ ?_ | refine stepY (y_assign rfl) rfl ?_ | refine stepE (e_store rfl rfl rfl rfl rfl rfl rfl) ?_)
        ((apply fin_r); (repeat (first | exact .nil | exact .tmp rfl | exact .agg rfl rfl rfl | apply ResL.cons)); (repeat (exact .refl _)))
    · have hx1 := hzx hx0
      repeat (first | refine seq_ ?_ | refine region_ ?_ | refine nil_ ?_ | refine exit_ ?_ | refine cond_f rfl ?_ | refine guard_f rfl rfl rfl rfl ?_ | refine stepY (y_move rfl) rfl ?_ | refine stepY (y_len_si rfl) rfl ?_ | refine stepY (y_pick_f rfl rfl) rfl ?_ | refine stepY (y_cmpF rfl rfl rfl (by omega)) rfl ?_)
      refine call_ Try.func57 rfl rfl hpl rfl (by repeat (first | exact .refl _ | apply Les.cons | exact .nil)) rfl ?_
      repeat (first | refine seq_ ?_ | refine region_ ?_ | refine nil_ ?_ | refine block_ ?_ | refine stepY (y_assign rfl) rfl ?_)
      refine loop_ (α := Nat) (fun i => ([(4, .ptr 4 0), (8, .p (I t)), (9, .p (M (g * 2 ^ i))), (10, .p (I i))], [(4, .bx [Bo false, .v (.slice none 0 0)])])) (fun i => i ≤ t) (fun i => t - i) 0 (Nat.zero_le _) ?_ ?_ ?_
      · rw [Nat.pow_zero, Nat.mul_one]; (repeat (first | exact sub_nil | refine sub_cons rfl ?_))
      · (repeat (first | exact subH_nil | refine subH_cons rfl ?_))
      intro i hi
      have hle : g * 2 ^ i ≤ Nat.gcd m n := by rw [← hg]; exact Nat.mul_le_mul_left _ (Nat.pow_le_pow_right (by decide) hi)
      have hll := ln_mono hle
      by_cases hlt : i < t
      · have hp2 := (plus_c (limbs (g * 2 ^ i)) (limbs (g * 2 ^ i)) (wf_limbs _) (wf_limbs _) (by rw [limbs_length]; omega) (by rw [limbs_length]; omega)).le (.tag _ _)
        rw [val_limbs, ← Nat.mul_two, Nat.mul_assoc, ← Nat.pow_succ] at hp2
        repeat (first | refine seq_ ?_ | refine region_ ?_ | refine nil_ ?_ | refine skip_ ?_ | refine block_ ?_ | refine cond_t rfl ?_ | refine stepY (y_move rfl) rfl ?_ | refine stepY (y_cmpT rfl rfl rfl (by omega)) rfl ?_)
        refine call_ Try.func57 rfl rfl hp2 rfl (by repeat (first | exact .refl _ | apply Les.cons | exact .nil)) rfl ?_
        repeat (first | refine region_ ?_ | refine nil_ ?_ | refine stepY (y_move rfl) rfl ?_ | refine stepY (y_assign rfl) rfl ?_ | refine stepY (y_binn rfl rfl rfl (by simp only [InK, loK, hiK]; omega)) rfl ?_)
        refine ⟨i + 1, by omega, by omega, ?_, ?_⟩ <;> (repeat (first | exact sub_nil | exact subH_nil | refine sub_cons rfl ?_ | refine subH_cons rfl ?_))
      · obtain rfl : i = t := by omega
        have hsg := signed_c false (limbs (g * 2 ^ i)) (wf_limbs _) (by rw [limbs_length]; omega)
        rw [val_limbs, hg] at hsg
        repeat (first | refine seq_ ?_ | refine region_ ?_ | refine nil_ ?_ | refine exit_ ?_ | refine cond_f rfl ?_ | refine stepY (y_move rfl) rfl ?_ | refine stepY (y_cmpF rfl rfl rfl (by omega)) rfl ?_)
        rw [hg]
        refine call_ Try.func56 rfl rfl hsg rfl (by repeat (first | exact .refl _ | apply Les.cons | exact .nil)) rfl ?_
        repeat (first | refine nil_ ?_ | refine ret_ ?_ | refine stepY (y_assign rfl) rfl ?_ | refine stepE (e_store rfl rfl rfl rfl rfl rfl rfl) ?_)
        ((apply fin_r); (repeat (first | exact .nil | exact .tmp rfl | exact .agg rfl rfl rfl | apply ResL.cons)); (repeat (exact .refl _)))
end Go.Av

import Derived.Test.YtckngipgcnhfpaaLf
set_option maxHeartbeats 8000000
set_option exponentiation.threshold 100000
set_option maxRecDepth 100000
set_option linter.unusedVariables false
set_option linter.unusedSimpArgs false
namespace Go.Av
open Go Go.Proofs
theorem mod_lt_two {a : Nat} : a % 2 = 0 ∨ a % 2 = 1 := by omega
theorem divide_c (a b : Nat) (hb : 0 < b) (hla : ln a ≤ 600) (hlb : ln b ≤ 600) : Con Try.prog 55 [M a, M b] (.tp [FM (a / b), FM (a % b)]) := by
  refine con_of Try.func55 rfl rfl rfl rfl rfl ?_
  have hlen : ((limbs a).length : Int) = ln a := by rw [limbs_length]
  repeat (first | refine seq_ ?_ | refine region_ ?_ | refine nil_ ?_ | refine stepY (y_move rfl) rfl ?_ | refine stepY (y_assign rfl) rfl ?_ | refine stepY (y_len_si rfl) rfl ?_)
  refine stepE (e_make rfl rfl (by omega) (by omega) rfl rfl) ?_
  repeat (first | refine seq_ ?_ | refine region_ ?_ | refine nil_ ?_ | refine block_ ?_ | refine stepY (y_move rfl) rfl ?_ | refine stepY (y_assign rfl) rfl ?_ | refine stepY (y_len_si rfl) rfl ?_ | refine stepY (y_binn rfl rfl rfl (by simp only [InK, loK, hiK]; omega)) rfl ?_ | refine stepY (y_binn rfl rfl rfl (by simp only [InK, loK, hiK]; omega)) rfl ?_)
  refine le_C (i := 7) (FM 0) rfl (.nil _ _) ?_
  rw [show ((limbs a).length : Int).toNat = ln a by omega, hlen]
  have ha0 : a / 2 ^ (32 * ln a) = 0 := by rw [← B_pow]; exact Nat.div_eq_of_lt (lt_ln a)
  refine loop_ (α := Nat × List Int) (fun y => ([(0, .p (M a)), (1, .p (M b)), (6, .vec 11), (7, .p (FM (a / 2 ^ y.1 % b))), (8, .p (I ((y.1 : Int) - 1)))], [(11, .vi 57 .u32 y.2)])) (fun y => y.1 ≤ 32 * ln a ∧ wf y.2 ∧ y.2.length = ln a ∧ val y.2 = 2 ^ y.1 * (a / 2 ^ y.1 / b)) (fun y => y.1) (32 * ln a, List.replicate (ln a) 0) ⟨Nat.le_refl _, wf_zero _, by simp, by rw [val_zero, ha0]; simp⟩ ?_ ?_ ?_
  · dsimp only; rw [ha0, Nat.zero_mod]; (repeat (first | exact sub_nil | refine sub_cons rfl ?_))
  · (repeat (first | exact subH_nil | refine subH_cons rfl ?_))
  intro ⟨k, o⟩ ⟨hk, hw, hlo, hv⟩
  dsimp only at hk hw hlo hv ⊢
  by_cases h0 : k = 0
  · subst h0
    rw [Nat.pow_zero, Nat.one_mul, Nat.div_one] at hv
    repeat (first | refine seq_ ?_ | refine region_ ?_ | refine nil_ ?_ | refine exit_ ?_ | refine cond_f rfl ?_ | refine stepY (y_move rfl) rfl ?_ | refine stepY (y_cmpF rfl rfl rfl (by omega)) rfl ?_)
    refine seal_L (i := 51) (h := 11) rfl rfl rfl rfl ?_
    refine call_ Try.func91 rfl rfl (RTrim_c o hw (by omega)) rfl (by repeat (first | exact .tag _ _ | apply Les.cons | exact .nil)) rfl ?_
    repeat (first | refine nil_ ?_ | refine ret_ ?_ | refine stepY (y_move rfl) rfl ?_ | refine stepY (y_assign rfl) rfl ?_)
    rw [hv, Nat.pow_zero, Nat.div_one]
    ((apply fin_r); (repeat (first | exact .nil | exact .tmp rfl | apply ResL.cons)); (repeat (exact .refl _)))
  · obtain ⟨i, rfl⟩ : ∃ i, k = i + 1 := ⟨k - 1, by omega⟩
    rw [show (((i + 1 : Nat) : Int) - 1) = (i : Int) by omega]
    have hr1 := ln_mono (Nat.le_of_lt (Nat.mod_lt (a / 2 ^ (i + 1)) hb))
    have hbs := bit_step (A := a) (V := b) (i := i) hb
    have hbit := bit_c (limbs a) i (wf_limbs a) (by rw [limbs_length]; omega) (by rw [limbs_length]; omega)
    rw [val_limbs] at hbit
    have hp1 := plus_c (limbs (a / 2 ^ (i + 1) % b)) (limbs (a / 2 ^ (i + 1) % b)) (wf_limbs _) (wf_limbs _) (by rw [limbs_length]; omega) (by rw [limbs_length]; omega)
    rw [val_limbs, show ∀ x : Nat, x + x = 2 * x from fun x => by omega] at hp1
    have hrl : ln (2 * (a / 2 ^ (i + 1) % b)) ≤ 601 := by
      have h3 := lt_ln (a / 2 ^ (i + 1) % b)
      have := ln_le.2 (sum_lt (k := 600) (Nat.lt_of_lt_of_le h3 (Nat.pow_le_pow_right B_pos (by omega))) (Nat.lt_of_lt_of_le h3 (Nat.pow_le_pow_right B_pos (by omega))))
      rwa [show ∀ x : Nat, x + x = 2 * x from fun x => by omega] at this
    have hrl1 : ln (2 * (a / 2 ^ (i + 1) % b) + 1) ≤ 602 := by
      rw [ln_le] at hrl ⊢
      exact sum_lt hrl (Nat.lt_of_lt_of_le (show 1 < B by decide) (by rw [show B = B ^ 1 by rw [Nat.pow_one], ← Nat.pow_mul]; exact Nat.pow_le_pow_right B_pos (by omega)))
    have hp2 := plus_c (limbs (2 * (a / 2 ^ (i + 1) % b))) [1] (wf_limbs _) (by intro y hy; simp at hy; omega) (by rw [limbs_length]; omega) (by simp)
    rw [val_limbs, show val [1] = 1 from rfl] at hp2
    have room := bit_room (i := i) hw hv
    have hbst := bit_set (i := i) hw (by omega) room
    have hidx : i / 32 < ln a := by omega
    have h32 : i % 32 < 32 := Nat.mod_lt _ (by decide)
    generalize hR : a / 2 ^ (i + 1) % b = R at *
    have key : ∀ bt : Nat, bt = a / 2 ^ i % 2 → ln (2 * R + bt) ≤ 602 := by
      intro bt hbt
      have := ln_mono (show 2 * R + bt ≤ 2 * R + 1 by omega)
      omega
    have hord := fun bt h => order_c (limbs (2 * R + bt)) (limbs b) (wf_limbs _) (wf_limbs _) (by rw [limbs_length]; have := key bt h; omega) (by rw [limbs_length]; omega)
    simp only [val_limbs] at hord
    have hmin := fun bt h (hle : b ≤ 2 * R + bt) => minus_c (limbs (2 * R + bt)) (limbs b) (wf_limbs _) (wf_limbs _) (by rw [limbs_length]; have := key bt h; omega) (by rw [val_limbs, val_limbs]; exact hle)
    simp only [val_limbs] at hmin
    rcases mod_lt_two (a := a / 2 ^ i) with hb0 | hb0
    · have ho := hord 0 hb0.symm
      have hmn := hmin 0 hb0.symm
      rw [hb0] at hbit hbs
      rw [Nat.add_zero] at ho hmn hbs
      repeat (first | refine seq_ ?_ | refine region_ ?_ | refine nil_ ?_ | refine skip_ ?_ | refine block_ ?_ | refine cond_t rfl ?_ | refine stepY (y_move rfl) rfl ?_ | refine stepY (y_cmpT rfl rfl rfl (by omega)) rfl ?_)
      refine call_ Try.func57 rfl rfl hp1 rfl (by repeat (first | exact .tag _ _ | apply Les.cons | exact .nil)) rfl ?_
      repeat (first | refine seq_ ?_ | refine region_ ?_ | refine nil_ ?_ | refine stepY (y_move rfl) rfl ?_ | refine stepY (y_assign rfl) rfl ?_)
      refine call_ Try.func90 rfl rfl hbit rfl (by repeat (first | exact .refl _ | apply Les.cons | exact .nil)) rfl ?_
      repeat (first | refine seq_ ?_ | refine region_ ?_ | refine nil_ ?_ | refine skip_ ?_ | refine cond_f rfl ?_ | refine stepY (y_move rfl) rfl ?_ | refine stepY (y_cmpF rfl rfl rfl (by omega)) rfl ?_)
      refine call_ Try.func60 rfl rfl ho rfl (by repeat (first | exact .refl _ | exact .tag _ _ | apply Les.cons | exact .nil)) rfl ?_
      by_cases hge : b ≤ 2 * R
      · have hs : 0 ≤ sg (2 * R) b := by unfold sg; rw [if_neg (by omega)]; split <;> omega
        obtain ⟨hq, hrm⟩ := hbs.1 hge
        repeat (first | refine seq_ ?_ | refine region_ ?_ | refine nil_ ?_ | refine cond_t rfl ?_ | refine stepY (y_move rfl) rfl ?_ | refine stepY (y_cmpT rfl rfl rfl (by omega)) rfl ?_)
        refine call_ Try.func58 rfl rfl (hmn hge) rfl (by repeat (first | exact .refl _ | exact .tag _ _ | apply Les.cons | exact .nil)) rfl ?_
        repeat (first | refine region_ ?_ | refine nil_ ?_ | refine stepY (y_move rfl) rfl ?_ | refine stepY (y_assign rfl) rfl ?_ | refine stepY (y_load_vi rfl rfl (by omega) (by omega)) rfl ?_ | refine stepY (y_convn rfl (by simp only [InK, loK, hiK]; omega)) rfl ?_ | refine stepY (y_index_vi rfl rfl rfl (by omega) (by omega)) rfl ?_ | refine stepY (y_quop rfl rfl (by omega) (by omega) (by simp only [InK, loK, hiK]; omega)) rfl ?_ | refine stepY (y_remp rfl rfl (by omega) (by omega)) rfl ?_)
        rw [show (i : Int) / 32 = ((i / 32 : Nat) : Int) by omega, show (i : Int) % 32 = ((i % 32 : Nat) : Int) by omega, rd_dgk hw]
        have hp2 : 2 ^ (i % 32) < 4294967296 := by unfold B at room; omega
        have hink : InK .u32 ((1 * 2 ^ (i % 32) : Nat) : Int) := ⟨Int.natCast_nonneg _, by simp only [hiK]; rw [Nat.one_mul]; omega⟩
        refine stepY (y_shln (a := 1) (n := i % 32) rfl rfl (by show ((i % 32 : Nat) : Int) ≤ 32; omega) hink) rfl ?_
        rw [Nat.one_mul]
        have hadd : InK .u32 (((dg (val o) (i / 32) : Nat) : Int) + ((2 ^ (i % 32) : Nat) : Int)) := by
          rw [← Int.natCast_add]
          exact ⟨Int.natCast_nonneg _, by simp only [hiK]; have := Int.ofNat_lt.2 room; unfold B at this; omega⟩
        refine stepY (y_binn rfl rfl rfl hadd) rfl ?_
        repeat (first | refine region_ ?_ | refine nil_ ?_ | refine stepY (y_move rfl) rfl ?_ | refine stepY (y_assign rfl) rfl ?_ | refine stepY (y_index_vi rfl rfl rfl (by omega) (by omega)) rfl ?_ | refine stepY (y_binn rfl rfl rfl (by simp only [InK, loK, hiK]; omega)) rfl ?_ | refine stepE (e_store_vi rfl rfl rfl (by omega) (by omega)) ?_)
        rw [← Int.natCast_add, Int.toNat_natCast, ← hrm]
        refine ⟨(i, o.set (i / 32) ((dg (val o) (i / 32) + 2 ^ (i % 32) : Nat) : Int)), ⟨by omega, hbst.1, by rw [List.length_set]; exact hlo, ?_⟩, Nat.lt_succ_self i, ?_, ?_⟩
        · dsimp only
          rw [hbst.2, hv, hq, Nat.pow_succ, Nat.mul_assoc, Nat.mul_add, Nat.mul_one]
        · (repeat (first | exact sub_nil | refine sub_cons rfl ?_))
        · (repeat (first | exact subH_nil | refine subH_cons rfl ?_))
      · have hs : sg (2 * R) b = -1 := sg_lt (by omega)
        obtain ⟨hq, hrm⟩ := hbs.2 hge
        rw [hs]
        repeat (first | refine region_ ?_ | refine nil_ ?_ | refine skip_ ?_ | refine cond_f rfl ?_ | refine stepY (y_move rfl) rfl ?_ | refine stepY (y_assign rfl) rfl ?_ | refine stepY (y_binn rfl rfl rfl (by simp only [InK, loK, hiK]; omega)) rfl ?_ | refine stepY (y_cmpF rfl rfl rfl (by omega)) rfl ?_)
        rw [← hrm]
        refine ⟨(i, o), ⟨by omega, hw, hlo, ?_⟩, Nat.lt_succ_self i, ?_, ?_⟩
        · rw [hv, hq, Nat.pow_succ, Nat.mul_assoc]
        · (repeat (first | exact sub_nil | refine sub_cons rfl ?_))
        · (repeat (first | exact subH_nil | refine subH_cons rfl ?_))
    · have ho := hord 1 hb0.symm
      have hmn := hmin 1 hb0.symm
      rw [hb0] at hbit hbs
      repeat (first | refine seq_ ?_ | refine region_ ?_ | refine nil_ ?_ | refine skip_ ?_ | refine block_ ?_ | refine cond_t rfl ?_ | refine stepY (y_move rfl) rfl ?_ | refine stepY (y_cmpT rfl rfl rfl (by omega)) rfl ?_)
      refine call_ Try.func57 rfl rfl hp1 rfl (by repeat (first | exact .tag _ _ | apply Les.cons | exact .nil)) rfl ?_
      repeat (first | refine seq_ ?_ | refine region_ ?_ | refine nil_ ?_ | refine stepY (y_move rfl) rfl ?_ | refine stepY (y_assign rfl) rfl ?_)
      refine call_ Try.func90 rfl rfl hbit rfl (by repeat (first | exact .refl _ | apply Les.cons | exact .nil)) rfl ?_
      repeat (first | refine region_ ?_ | refine nil_ ?_ | refine cond_t rfl ?_ | refine stepY (y_move rfl) rfl ?_ | refine stepY (y_cmpT rfl rfl rfl (by omega)) rfl ?_ | refine stepE (e_bs_vi (k := .u32) rfl rfl rfl rfl rfl) ?_)
      refine seal_L (i := 28) (h := 28) rfl rfl rfl rfl ?_
      refine call_ Try.func57 rfl rfl hp2 rfl (by repeat (first | exact .tag _ _ | apply Les.cons | exact .nil)) rfl ?_
      repeat (first | refine seq_ ?_ | refine region_ ?_ | refine nil_ ?_ | refine stepY (y_move rfl) rfl ?_ | refine stepY (y_assign rfl) rfl ?_)
      refine call_ Try.func60 rfl rfl ho rfl (by repeat (first | exact .refl _ | exact .tag _ _ | apply Les.cons | exact .nil)) rfl ?_
      by_cases hge : b ≤ 2 * R + 1
      · have hs : 0 ≤ sg (2 * R + 1) b := by unfold sg; rw [if_neg (by omega)]; split <;> omega
        obtain ⟨hq, hrm⟩ := hbs.1 hge
        repeat (first | refine seq_ ?_ | refine region_ ?_ | refine nil_ ?_ | refine cond_t rfl ?_ | refine stepY (y_move rfl) rfl ?_ | refine stepY (y_cmpT rfl rfl rfl (by omega)) rfl ?_)
        refine call_ Try.func58 rfl rfl (hmn hge) rfl (by repeat (first | exact .refl _ | exact .tag _ _ | apply Les.cons | exact .nil)) rfl ?_
        repeat (first | refine region_ ?_ | refine nil_ ?_ | refine stepY (y_move rfl) rfl ?_ | refine stepY (y_assign rfl) rfl ?_ | refine stepY (y_load_vi rfl rfl (by omega) (by omega)) rfl ?_ | refine stepY (y_convn rfl (by simp only [InK, loK, hiK]; omega)) rfl ?_ | refine stepY (y_index_vi rfl rfl rfl (by omega) (by omega)) rfl ?_ | refine stepY (y_quop rfl rfl (by omega) (by omega) (by simp only [InK, loK, hiK]; omega)) rfl ?_ | refine stepY (y_remp rfl rfl (by omega) (by omega)) rfl ?_)
        rw [show (i : Int) / 32 = ((i / 32 : Nat) : Int) by omega, show (i : Int) % 32 = ((i % 32 : Nat) : Int) by omega, rd_dgk hw]
        have hp2 : 2 ^ (i % 32) < 4294967296 := by unfold B at room; omega
        have hink : InK .u32 ((1 * 2 ^ (i % 32) : Nat) : Int) := ⟨Int.natCast_nonneg _, by simp only [hiK]; rw [Nat.one_mul]; omega⟩
        refine stepY (y_shln (a := 1) (n := i % 32) rfl rfl (by show ((i % 32 : Nat) : Int) ≤ 32; omega) hink) rfl ?_
        rw [Nat.one_mul]
        have hadd : InK .u32 (((dg (val o) (i / 32) : Nat) : Int) + ((2 ^ (i % 32) : Nat) : Int)) := by
          rw [← Int.natCast_add]
          exact ⟨Int.natCast_nonneg _, by simp only [hiK]; have := Int.ofNat_lt.2 room; unfold B at this; omega⟩
        refine stepY (y_binn rfl rfl rfl hadd) rfl ?_
        repeat (first | refine region_ ?_ | refine nil_ ?_ | refine stepY (y_move rfl) rfl ?_ | refine stepY (y_assign rfl) rfl ?_ | refine stepY (y_index_vi rfl rfl rfl (by omega) (by omega)) rfl ?_ | refine stepY (y_binn rfl rfl rfl (by simp only [InK, loK, hiK]; omega)) rfl ?_ | refine stepE (e_store_vi rfl rfl rfl (by omega) (by omega)) ?_)
        rw [← Int.natCast_add, Int.toNat_natCast, ← hrm]
        refine ⟨(i, o.set (i / 32) ((dg (val o) (i / 32) + 2 ^ (i % 32) : Nat) : Int)), ⟨by omega, hbst.1, by rw [List.length_set]; exact hlo, ?_⟩, Nat.lt_succ_self i, ?_, ?_⟩
        · dsimp only
          rw [hbst.2, hv, hq, Nat.pow_succ, Nat.mul_assoc, Nat.mul_add, Nat.mul_one]
        · (repeat (first | exact sub_nil | refine sub_cons rfl ?_))
        · (repeat (first | exact subH_nil | refine subH_cons rfl ?_))
      · have hs : sg (2 * R + 1) b = -1 := sg_lt (by omega)
        obtain ⟨hq, hrm⟩ := hbs.2 hge
        rw [hs]
        repeat (first | refine region_ ?_ | refine nil_ ?_ | refine skip_ ?_ | refine cond_f rfl ?_ | refine stepY (y_move rfl) rfl ?_ | refine stepY (y_assign rfl) rfl ?_ | refine stepY (y_binn rfl rfl rfl (by simp only [InK, loK, hiK]; omega)) rfl ?_ | refine stepY (y_cmpF rfl rfl rfl (by omega)) rfl ?_)
        rw [← hrm]
        refine ⟨(i, o), ⟨by omega, hw, hlo, ?_⟩, Nat.lt_succ_self i, ?_, ?_⟩
        · rw [hv, hq, Nat.pow_succ, Nat.mul_assoc]
        · (repeat (first | exact sub_nil | refine sub_cons rfl ?_))
        · (repeat (first | exact subH_nil | refine subH_cons rfl ?_))
end Go.Av

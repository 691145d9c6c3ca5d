/- Contracts behind a law: no conditions beyond those in each statement. -/
import Derived.Test.YtnkkkeohhgbhnaaJ5
set_option maxHeartbeats 8000000
set_option exponentiation.threshold 100000
set_option maxRecDepth 100000
set_option linter.unusedVariables false
set_option linter.unusedSimpArgs false
namespace Go.Av
open Go Go.Proofs
/-! The reference of the fractions: times -/
theorem times3_c (a b : Nat) (hla : ln a < 2147483640) (hlb : ln b < 2147483640) : Con Try.prog 70 [M a, M b] (M (a * b)) := by
  refine con_of Try.func70 rfl rfl rfl rfl rfl ?_
  have la : ((limbs a).length : Int) = ln a := by rw [limbs_length]
  have lb : ((limbs b).length : Int) = ln b := by rw [limbs_length]
  repeat (first | refine seq_ ?_ | refine region_ ?_ | refine nil_ ?_ | refine block_ ?_ | refine stepY (y_assign rfl) rfl ?_)
  refine nil_C (i := 5) 95 .u32 rfl rfl rfl ?_
  refine loop_ (α := Nat) (fun k => ([(0, .p (M a)), (1, .p (M b)), (5, .vec 5), (6, .p (I k))], [(5, .vi 95 .u32 (List.replicate k 0))])) (fun k => k ≤ ln a + ln b) (fun k => ln a + ln b - k) 0 (Nat.zero_le _) ?_ ?_ ?_
  · (repeat (first | exact sub_nil | refine sub_cons rfl ?_))
  · (repeat (first | exact subH_nil | refine subH_cons rfl ?_))
  intro k hk
  have hlr : (List.replicate k (0 : Int)).length = k := List.length_replicate
  by_cases hlt : k < ln a + ln b
  · repeat (first | refine seq_ ?_ | refine region_ ?_ | refine nil_ ?_ | refine skip_ ?_ | refine block_ ?_ | refine cond_t rfl ?_ | refine stepY (y_move rfl) rfl ?_ | refine stepY (y_len_si rfl) rfl ?_ | refine stepY (y_binn rfl rfl rfl (by simp only [InK, loK, hiK]; omega)) rfl ?_ | refine stepY (y_cmpT rfl rfl rfl (by omega)) rfl ?_ | refine stepE (e_bs_vi (k := .u32) rfl rfl rfl rfl rfl) ?_)
    refine stepE (e_app_vi rfl rfl rfl (src_vi rfl rfl) (by simp only [List.length_cons, List.length_nil]; omega) rfl rfl) ?_
    rw [← List.replicate_succ']
    repeat (first | refine region_ ?_ | refine nil_ ?_ | refine stepY (y_move rfl) rfl ?_ | refine stepY (y_assign rfl) rfl ?_ | refine stepY (y_binn rfl rfl rfl (by simp only [InK, loK, hiK]; omega)) rfl ?_)
    refine ⟨k + 1, by omega, by omega, ?_, ?_⟩ <;> (repeat (first | exact sub_nil | exact subH_nil | refine sub_cons rfl ?_ | refine subH_cons rfl ?_))
  obtain rfl : k = ln a + ln b := by omega
  repeat (first | refine seq_ ?_ | refine region_ ?_ | refine nil_ ?_ | refine exit_ ?_ | refine block_ ?_ | refine cond_f rfl ?_ | refine stepY (y_move rfl) rfl ?_ | refine stepY (y_assign rfl) rfl ?_ | refine stepY (y_len_si rfl) rfl ?_ | refine stepY (y_binn rfl rfl rfl (by simp only [InK, loK, hiK]; omega)) rfl ?_ | refine stepY (y_cmpF rfl rfl rfl (by omega)) rfl ?_)
  refine loop_ (α := Nat × List Int) (fun y => ([(0, .p (M a)), (1, .p (M b)), (5, .vec 5), (7, .p (I y.1))], [(5, .vi 95 .u32 y.2)])) (fun y => y.1 ≤ ln b ∧ wf y.2 ∧ y.2.length = ln a + ln b ∧ val y.2 = (b % B ^ y.1) * a) (fun y => ln b - y.1) (0, List.replicate (ln a + ln b) 0) ⟨Nat.zero_le _, wf_zero _, by simp, by simp [val_zero, Nat.mod_one]⟩ ?_ ?_ ?_
  · (repeat (first | exact sub_nil | refine sub_cons rfl ?_))
  · (repeat (first | exact subH_nil | refine subH_cons rfl ?_))
  intro ⟨i, o⟩ ⟨hi, hw, hlo, hv⟩
  dsimp only at hi hw hlo hv ⊢
  by_cases hlt : i < ln b
  · have rb : rd (limbs b) (i : Int) = ((dg b i : Nat) : Int) := rd_limbs b (by omega)
    have rb2 := dg_bd b i
    repeat (first | refine seq_ ?_ | refine region_ ?_ | refine nil_ ?_ | refine skip_ ?_ | refine block_ ?_ | refine cond_t rfl ?_ | refine stepY (y_move rfl) rfl ?_ | refine stepY (y_assign rfl) rfl ?_ | refine stepY (y_len_si rfl) rfl ?_ | refine stepY (y_cmpT rfl rfl rfl (by omega)) rfl ?_)
    refine loop_ (α := Nat × Nat × List Int) (fun y => ([(0, .p (M a)), (1, .p (M b)), (5, .vec 5), (7, .p (I i)), (8, .p (UU y.2.1)), (9, .p (I y.1))], [(5, .vi 95 .u32 y.2.2)])) (fun y => y.1 ≤ ln a ∧ PS b a (ln a + ln b) i y.1 y.2.2 y.2.1 (ln a)) (fun y => ln a - y.1) (0, 0, o) ⟨Nat.zero_le _, PS.first hw hlo hv (lt_ln a)⟩ ?_ ?_ ?_
    · (repeat (first | exact sub_nil | refine sub_cons rfl ?_))
    · (repeat (first | exact subH_nil | refine subH_cons rfl ?_))
    intro ⟨k, c, q⟩ ⟨hk, hp⟩
    dsimp only at hk hp ⊢
    have hlq := hp.l
    by_cases hkl : k < ln a
    · have hs := hp.step (s := dg b i * dg a k + (q.getD (i + k) 0).toNat + c) hkl (by omega) rfl
      have hlim := hp.lim (by omega)
      have rk : rd (limbs a) (k : Int) = ((dg a k : Nat) : Int) := rd_limbs a (by omega)
      have rk' := dg_bd a k
      have hc := hp.c
      have hrd : rd q ((k : Int) + i) = q.getD (i + k) 0 := by unfold rd; rw [show ((k : Int) + i).toNat = i + k by omega]
      have hm0 : 0 ≤ rd (limbs b) i ∧ rd (limbs b) i < 4294967296 := by rw [rb]; exact rb2
      have hm1 : rd (limbs a) k * rd (limbs b) i = ((dg b i * dg a k : Nat) : Int) := by rw [rb, rk, Int.mul_comm]; simp
      have hm2 : 0 ≤ rd (limbs a) k ∧ rd (limbs a) k < 4294967296 := by rw [rk]; exact rk'
      have hm3 : 0 ≤ rd q ((k : Int) + i) ∧ rd q ((k : Int) + i) < 4294967296 := by rw [hrd]; exact hlim.2
      generalize hP : dg b i * dg a k = p at *
      repeat (first | refine seq_ ?_ | refine region_ ?_ | refine nil_ ?_ | refine skip_ ?_ | refine block_ ?_ | refine cond_t rfl ?_ | refine stepY (y_move rfl) rfl ?_ | refine stepY (y_len_si rfl) rfl ?_ | refine stepY (y_cmpT rfl rfl rfl (by omega)) rfl ?_)
      refine draw_ [(0, true), (1, true), (2, true), (3, true), (4, true), (5, true), (6, true), (7, true), (8, true), (9, true), (10, true), (11, true), (12, true), (13, true), (14, true), (15, true), (16, true), (17, true), (18, true), (19, true), (20, true), (21, true)] 1000 [5] mixed (by kernel_rfl) rfl ?_
      ((refine dY rfl (y_move rfl) rfl rfl rfl rfl ?_); refine dY rfl (y_move rfl) rfl rfl rfl rfl ?_; refine dY rfl (y_move rfl) rfl rfl rfl rfl ?_; refine dY rfl (y_index_si rfl rfl (by omega) (by omega)) rfl rfl rfl rfl ?_; refine dY rfl (y_load_rc1 rfl rfl) rfl rfl rfl rfl ?_; refine dY rfl (y_convn rfl (by simp only [InK, loK, hiK]; omega)) rfl rfl rfl rfl ?_; refine dY rfl (y_move rfl) rfl rfl rfl rfl ?_; refine dY rfl (y_move rfl) rfl rfl rfl rfl ?_; refine dY rfl (y_index_si rfl rfl (by omega) (by omega)) rfl rfl rfl rfl ?_; refine dY rfl (y_load_rc1 rfl rfl) rfl rfl rfl rfl ?_; refine dY rfl (y_convn rfl (by simp only [InK, loK, hiK]; omega)) rfl rfl rfl rfl ?_; refine dY rfl (y_binn rfl rfl rfl (by simp only [InK, loK, hiK]; omega)) rfl rfl rfl rfl ?_; refine dY rfl (y_binn rfl rfl rfl (by simp only [InK, loK, hiK]; omega)) rfl rfl rfl rfl ?_; refine dY rfl (y_move rfl) rfl rfl rfl rfl ?_; refine dY rfl (y_move rfl) rfl rfl rfl rfl ?_; refine dY rfl (y_move rfl) rfl rfl rfl rfl ?_; refine dY rfl (y_binn rfl rfl rfl (by simp only [InK, loK, hiK]; omega)) rfl rfl rfl rfl ?_; refine dY rfl (y_index_vi rfl rfl rfl (by omega) (by omega)) rfl rfl rfl rfl ?_; refine dY rfl (y_load_vi rfl rfl (by omega) (by omega)) rfl rfl rfl rfl ?_; refine dY rfl (y_convn rfl (by simp only [InK, loK, hiK]; omega)) rfl rfl rfl rfl ?_; refine dY rfl (y_binn rfl rfl rfl (by simp only [InK, loK, hiK]; omega)) rfl rfl rfl rfl ?_; refine dY rfl (y_assign rfl) rfl rfl rfl rfl ?_; refine dEnd ?_)
      have e1 : ((c : Int) + rd (limbs a) k * rd (limbs b) i + rd q ((k : Int) + i)) = ((p + (q.getD (i + k) 0).toNat + c : Nat) : Int) := by rw [hm1, hrd]; omega
      rw [e1]
      have hlim1 := hlim.1
      repeat (first | refine seq_ ?_ | refine region_ ?_ | refine nil_ ?_ | refine stepY (y_move rfl) rfl ?_ | refine stepY (y_assign rfl) rfl ?_ | refine stepY (y_convn rfl (by simp only [InK, loK, hiK]; omega)) rfl ?_ | refine stepY (y_index_vi rfl rfl rfl (by omega) (by omega)) rfl ?_ | refine stepY (y_binn rfl rfl rfl (by simp only [InK, loK, hiK]; omega)) rfl ?_ | refine stepY (y_quop rfl rfl (by omega) (by omega) (by simp only [InK, loK, hiK]; omega)) rfl ?_ | refine stepY (y_remp rfl rfl (by omega) (by omega)) rfl ?_ | refine stepE (e_store_vi rfl rfl rfl (by omega) (by omega)) ?_)
      rw [show ((k : Int) + i).toNat = i + k by omega]
      refine ⟨(k + 1, (p + (q.getD (i + k) 0).toNat + c) / B, q.set (i + k) (((p + (q.getD (i + k) 0).toNat + c) % B : Nat) : Int)), ⟨by omega, hs⟩, by dsimp only; omega, ?_, ?_⟩ <;> (repeat (first | exact sub_nil | exact subH_nil | refine sub_cons rfl ?_ | refine subH_cons rfl ?_))
    · obtain rfl : k = ln a := by omega
      have hl := hp.last (lt_ln a) (by omega)
      have hc := hp.c
      unfold B at hc
      repeat (first | refine seq_ ?_ | refine region_ ?_ | refine nil_ ?_ | refine exit_ ?_ | refine cond_f rfl ?_ | refine stepY (y_move rfl) rfl ?_ | refine stepY (y_assign rfl) rfl ?_ | refine stepY (y_len_si rfl) rfl ?_ | refine stepY (y_convn rfl (by simp only [InK, loK, hiK]; omega)) rfl ?_ | refine stepY (y_index_vi rfl rfl rfl (by omega) (by omega)) rfl ?_ | refine stepY (y_binn rfl rfl rfl (by simp only [InK, loK, hiK]; omega)) rfl ?_ | refine stepY (y_cmpF rfl rfl rfl (by omega)) rfl ?_ | refine stepE (e_store_vi rfl rfl rfl (by omega) (by omega)) ?_)
      rw [show (((limbs a).length : Int) + (i : Int)).toNat = i + ln a by rw [la]; omega]
      refine ⟨(i + 1, q.set (i + ln a) (c : Int)), ⟨by omega, hl⟩, by dsimp only; omega, ?_, ?_⟩ <;> (repeat (first | exact sub_nil | exact subH_nil | refine sub_cons rfl ?_ | refine subH_cons rfl ?_))
  · obtain rfl : i = ln b := by omega
    rw [Nat.mod_eq_of_lt (lt_ln b)] at hv
    have ht := trim3_c o hw (by omega)
    rw [hv, Nat.mul_comm] at ht
    repeat (first | refine seq_ ?_ | refine region_ ?_ | refine nil_ ?_ | refine exit_ ?_ | refine cond_f rfl ?_ | refine stepY (y_move rfl) rfl ?_ | refine stepY (y_len_si rfl) rfl ?_ | refine stepY (y_cmpF rfl rfl rfl (by omega)) rfl ?_)
    refine seal_L (i := 73) (h := 5) rfl rfl rfl rfl ?_
    refine call_ Try.func87 rfl rfl (ht) rfl (by repeat (first | exact .tag _ _ | apply Les.cons | exact .nil)) rfl ?_
    repeat (first | refine nil_ ?_ | refine ret_ ?_ | refine stepY (y_assign rfl) rfl ?_)
    ((apply fin_r); (repeat (first | exact .nil | exact .tmp rfl | apply ResL.cons)); (repeat (exact .refl _)))
end Go.Av

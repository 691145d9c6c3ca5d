import Derived.Test.YtckngipgcnhfpaaL9
import Derived.Test.YtckngipgcnhfpaaLa
import Derived.Test.YtckngipgcnhfpaaP7
set_option maxHeartbeats 8000000
set_option exponentiation.threshold 100000
set_option maxRecDepth 100000
set_option linter.unusedVariables false
set_option linter.unusedSimpArgs false
namespace Go.Av
open Go Go.Proofs
/-! FromInt -/
theorem val_two {a b : Int} (ha : 0 ≤ a) (hb : 0 ≤ b) : val [a, b] = a.toNat + B * b.toNat := by
  simp [val]
theorem wf_two {a b : Int} (ha : 0 ≤ a ∧ a < 4294967296) (hb : 0 ≤ b ∧ b < 4294967296) : wf [a, b] := by
  intro x hx
  simp only [List.mem_cons, List.not_mem_nil, or_false] at hx
  rcases hx with rfl | rfl
  · exact ha
  · exact hb
theorem int_neg {n : Int} (h : n < 0) : sgn true (val [(-n) % 4294967296, (-n) / 4294967296]) = n := by
  rw [val_two (by omega) (by omega)]
  unfold sgn B
  rw [if_pos rfl]
  omega
theorem int_pos {n : Int} (h : 0 ≤ n) : sgn false (val [n % 4294967296, n / 4294967296]) = n := by
  rw [val_two (by omega) (by omega)]
  unfold sgn B
  rw [if_neg (by simp)]
  omega
theorem FromInt_c (n : Int) (hn : -9223372036854775808 ≤ n ∧ n ≤ 9223372036854775807) : Con Try.prog 30 [I n] (FIV n) := by
  refine con_of Try.func30 rfl rfl rfl rfl rfl ?_
  by_cases h : n < 0
  · have e1 : IntKind.wrap .u64 n = n + 18446744073709551616 := by rw [wrap_u64]; omega
    have e2 : IntKind.wrap .u64 (-IntKind.wrap .u64 n) = -n := by rw [e1, wrap_u64]; omega
    have e3 : IntKind.wrap .u32 (IntKind.wrap .u64 (-IntKind.wrap .u64 n)) = (-n) % 4294967296 := by rw [e2, wrap_u32]
    have hm := made_c true [(-n) % 4294967296, (-n) / 4294967296] (wf_two (by omega) (by omega)) (by simp)
    rw [int_neg h] at hm
    repeat (first | refine seq_ ?_ | refine region_ ?_ | refine nil_ ?_ | refine cond_t rfl ?_ | refine stepY (y_move rfl) rfl ?_ | refine stepY (y_assign rfl) rfl ?_ | refine stepY (y_neg rfl) rfl ?_ | (first | refine stepY (y_convn rfl (by simp only [InK, loK, hiK]; omega)) rfl ?_ | refine stepY (y_conv rfl) rfl ?_) | refine stepY (y_build_arr rfl rfl rfl rfl) rfl ?_ | refine stepY (y_slice_bx rfl) rfl ?_ | refine stepY (y_shr32 rfl rfl (by decide)) rfl ?_ | refine stepY (y_cmpT rfl rfl rfl (by omega)) rfl ?_ | refine stepE (e_alloc rfl rfl rfl) ?_ | refine stepE (e_store rfl rfl rfl rfl rfl rfl rfl) ?_)
    rw [e3, e2]
    refine sealb_L (i := 19) [(-n) % 4294967296, (-n) / 4294967296] rfl rfl rfl rfl rfl rfl ?_
    refine call_ Try.func54 rfl rfl hm rfl (by repeat (first | exact .refl _ | exact .tag _ _ | apply Les.cons | exact .nil)) rfl ?_
    repeat (first | refine nil_ ?_ | refine ret_ ?_ | refine stepE (e_store rfl rfl rfl rfl rfl rfl rfl) ?_)
    ((apply fin_r); (repeat (first | exact .nil | exact .agg rfl rfl rfl | apply ResL.cons)); (repeat (exact .refl _)))
  · have e3 : IntKind.wrap .u32 n = n % 4294967296 := by rw [wrap_u32]
    have hm := made_c false [n % 4294967296, n / 4294967296] (wf_two (by omega) (by omega)) (by simp)
    rw [int_pos (by omega)] at hm
    repeat (first | refine seq_ ?_ | refine region_ ?_ | refine nil_ ?_ | refine skip_ ?_ | refine cond_f rfl ?_ | refine stepY (y_move rfl) rfl ?_ | refine stepY (y_assign rfl) rfl ?_ | (first | refine stepY (y_convn rfl (by simp only [InK, loK, hiK]; omega)) rfl ?_ | refine stepY (y_conv rfl) rfl ?_) | refine stepY (y_build_arr rfl rfl rfl rfl) rfl ?_ | refine stepY (y_slice_bx rfl) rfl ?_ | refine stepY (y_shr32 rfl rfl (by decide)) rfl ?_ | refine stepY (y_cmpF rfl rfl rfl (by omega)) rfl ?_ | refine stepE (e_alloc rfl rfl rfl) ?_ | refine stepE (e_store rfl rfl rfl rfl rfl rfl rfl) ?_)
    rw [e3]
    refine sealb_L (i := 19) [n % 4294967296, n / 4294967296] rfl rfl rfl rfl rfl rfl ?_
    refine call_ Try.func54 rfl rfl hm rfl (by repeat (first | exact .refl _ | exact .tag _ _ | apply Les.cons | exact .nil)) rfl ?_
    repeat (first | refine nil_ ?_ | refine ret_ ?_ | refine stepE (e_store rfl rfl rfl rfl rfl rfl rfl) ?_)
    ((apply fin_r); (repeat (first | exact .nil | exact .agg rfl rfl rfl | apply ResL.cons)); (repeat (exact .refl _)))
theorem RFromInt_c (n : Int) (hn : -9223372036854775808 ≤ n ∧ n ≤ 9223372036854775807) : Con Try.prog 34 [I n] (FIV n) := by
  refine con_of Try.func34 rfl rfl rfl rfl rfl ?_
  by_cases h : n < 0
  · have hm := signed_c true [(-n) % 4294967296, (-n) / 4294967296] (wf_two (by omega) (by omega)) (by simp)
    rw [int_neg h] at hm
    repeat (first | refine seq_ ?_ | refine region_ ?_ | refine nil_ ?_ | refine cond_t rfl ?_ | refine stepY (y_move rfl) rfl ?_ | refine stepY (y_assign rfl) rfl ?_ | refine stepY (y_negn rfl (by simp only [InK, loK, hiK]; omega)) rfl ?_ | (first | refine stepY (y_convn rfl (by simp only [InK, loK, hiK]; omega)) rfl ?_ | refine stepY (y_conv rfl) rfl ?_) | refine stepY (y_binn rfl rfl rfl (by simp only [InK, loK, hiK]; omega)) rfl ?_ | refine stepY (y_quop rfl rfl (by omega) (by omega) (by simp only [InK, loK, hiK]; omega)) rfl ?_ | refine stepY (y_remp rfl rfl (by omega) (by omega)) rfl ?_ | refine stepY (y_cmpT rfl rfl rfl (by omega)) rfl ?_ | refine stepE (e_alloc rfl rfl rfl) ?_ | refine stepE (e_bs_vi (k := .u32) rfl rfl rfl rfl rfl) ?_)
    rw [show -(n + 1) + 1 = -n by omega]
    refine seal_L (i := 21) (h := 21) rfl rfl rfl rfl ?_
    refine call_ Try.func56 rfl rfl hm rfl (by repeat (first | exact .refl _ | exact .tag _ _ | apply Les.cons | exact .nil)) rfl ?_
    repeat (first | refine nil_ ?_ | refine ret_ ?_ | refine stepE (e_store rfl rfl rfl rfl rfl rfl rfl) ?_)
    ((apply fin_r); (repeat (first | exact .nil | exact .agg rfl rfl rfl | apply ResL.cons)); (repeat (exact .refl _)))
  · have hm := signed_c false [n % 4294967296, n / 4294967296] (wf_two (by omega) (by omega)) (by simp)
    rw [int_pos (by omega)] at hm
    repeat (first | refine seq_ ?_ | refine region_ ?_ | refine nil_ ?_ | refine skip_ ?_ | refine cond_f rfl ?_ | refine stepY (y_move rfl) rfl ?_ | refine stepY (y_assign rfl) rfl ?_ | refine stepY (y_convn rfl (by simp only [InK, loK, hiK]; omega)) rfl ?_ | refine stepY (y_quop rfl rfl (by omega) (by omega) (by simp only [InK, loK, hiK]; omega)) rfl ?_ | refine stepY (y_remp rfl rfl (by omega) (by omega)) rfl ?_ | refine stepY (y_cmpF rfl rfl rfl (by omega)) rfl ?_ | refine stepE (e_alloc rfl rfl rfl) ?_ | refine stepE (e_bs_vi (k := .u32) rfl rfl rfl rfl rfl) ?_)
    refine seal_L (i := 21) (h := 21) rfl rfl rfl rfl ?_
    refine call_ Try.func56 rfl rfl hm rfl (by repeat (first | exact .refl _ | exact .tag _ _ | apply Les.cons | exact .nil)) rfl ?_
    repeat (first | refine nil_ ?_ | refine ret_ ?_ | refine stepE (e_store rfl rfl rfl rfl rfl rfl rfl) ?_)
    ((apply fin_r); (repeat (first | exact .nil | exact .agg rfl rfl rfl | apply ResL.cons)); (repeat (exact .refl _)))

/-! extended -/
theorem one_wf {d : Nat} (h : d < 4294967296) : wf [(d : Int)] := by
  intro x hx
  simp only [List.mem_cons, List.not_mem_nil, or_false] at hx
  subst hx; omega
theorem one_val (d : Nat) : val [(d : Int)] = d := by simp [val]
theorem extended_c (m b d : Nat) (hl : ln m < 4294967290) (hb : b < 4294967296) (hd : d < 4294967296) : Con Try.prog 65 [M m, U b, U d] (M (m * b + d)) := by
  refine con_of Try.func65 rfl rfl rfl rfl rfl ?_
  have hfit := lc_fit (b := b) (c := d) (lt_ln m) (by unfold B; omega) (by unfold B; omega)
  have hfit2 := lc_fit (b := b) (c := 0) (lt_ln m) (by unfold B; omega) (by unfold B; omega)
  rw [Nat.add_zero] at hfit2
  have hl2 := ln_le.2 hfit2
  have hp := Product_c (limbs m) [(b : Int)] (wf_limbs m) (one_wf hb) (by rw [limbs_length]; omega) (by simp)
  rw [val_limbs, one_val] at hp
  have hs := Sum_c (limbs (m * b)) [(d : Int)] (wf_limbs _) (one_wf hd) (by rw [limbs_length]; omega) (by simp)
  rw [val_limbs, one_val, limbs_length] at hs
  have ht := Trim_c (padd (max (ln (m * b)) [(d : Int)].length + 1) (m * b + d)) (wf_padd _ _)
  rw [val_padd, Nat.mod_eq_of_lt] at ht
  · repeat (first | refine seq_ ?_ | refine region_ ?_ | refine nil_ ?_ | refine stepY (y_move rfl) rfl ?_ | refine stepY (y_assign rfl) rfl ?_ | refine stepE (e_bs_vi (k := .u32) rfl rfl rfl rfl rfl) ?_)
    refine seal_L (i := 9) (h := 9) rfl rfl rfl rfl ?_
    refine call_ Try.func63 rfl rfl hp rfl (by repeat (first | exact .refl _ | exact .tag _ _ | apply Les.cons | exact .nil)) rfl ?_
    repeat (first | refine stepY (y_move rfl) rfl ?_ | refine stepE (e_bs_vi (k := .u32) rfl rfl rfl rfl rfl) ?_)
    refine seal_L (i := 12) (h := 12) rfl rfl rfl rfl ?_
    refine call_ Try.func52 rfl rfl hs rfl (by repeat (first | exact .refl _ | exact .tag _ _ | apply Les.cons | exact .nil)) rfl ?_
    skip
    refine call_ Try.func79 rfl rfl ht rfl (by repeat (first | exact .tag _ _ | apply Les.cons | exact .nil)) rfl ?_
    repeat (first | refine nil_ ?_ | refine ret_ ?_ | refine stepY (y_assign rfl) rfl ?_)
    ((apply fin_r); (repeat (first | exact .nil | exact .tmp rfl | apply ResL.cons)); (repeat (exact .refl _)))
  · have hBB : B ≤ B ^ max (ln (m * b)) 1 := by simpa using Nat.pow_le_pow_right B_pos (Nat.le_max_right (ln (m * b)) 1)
    refine sum_lt (Nat.lt_of_lt_of_le (lt_ln _) (Nat.pow_le_pow_right B_pos (Nat.le_max_left _ _))) (Nat.lt_of_lt_of_le (by unfold B; omega) hBB)

/-! longer, short -/
theorem longer_c (m b c : Nat) (hl : ln m < 4294967290) (hb : b < 4294967296) (hc : c < 4294967296) : Con Try.prog 66 [M m, UU b, UU c] (FM (m * b + c)) := by
  refine con_of Try.func66 rfl rfl rfl rfl rfl ?_
  have hlen : ((limbs m).length : Int) = ln m := by rw [limbs_length]
  repeat (first | refine seq_ ?_ | refine region_ ?_ | refine nil_ ?_ | refine block_ ?_ | refine stepY (y_move rfl) rfl ?_ | refine stepY (y_assign rfl) rfl ?_)
  refine nil_C (i := 7) 57 .u32 rfl rfl rfl ?_
  refine loop_ (α := Nat) (fun k => ([(0, .p (M m)), (1, .p (UU b)), (7, .vec 7), (8, .p (UU (lc m b c k))), (9, .p (I k))], [(7, .vi 57 .u32 (padd k (m * b + c)))])) (fun k => k ≤ ln m) (fun k => ln m - k) 0 (Nat.zero_le _) ?_ ?_ ?_
  · rw [lc_zero]; (repeat (first | exact sub_nil | refine sub_cons rfl ?_))
  · (repeat (first | exact subH_nil | refine subH_cons rfl ?_))
  intro k hk
  have hlp : (padd k (m * b + c)).length = k := padd_length _ _
  have hcl := lc_lt (n := m) (b := b) (c := c) (i := k) (by unfold B; omega) (by unfold B; omega)
  unfold B at hcl
  by_cases hlt : k < ln m
  · have r1 := rd_limbs m (i := (k : Int)) (by omega)
    rw [Int.toNat_natCast] at r1
    have b1 := dg_bd m k
    have hst := lc_step m b c k
    have b2 := dg_lt (m * b + c) k
    have hcl2 := lc_lt (n := m) (b := b) (c := c) (i := k + 1) (by unfold B; omega) (by unfold B; omega)
    unfold B at hst b2 hcl2
    have hrb : rd (limbs m) k * (b : Int) = ((dg m k * b : Nat) : Int) := by rw [r1, Int.natCast_mul]
    repeat (first | refine seq_ ?_ | refine region_ ?_ | refine nil_ ?_ | refine skip_ ?_ | refine block_ ?_ | refine cond_t rfl ?_ | refine stepY (y_move rfl) rfl ?_ | refine stepY (y_assign rfl) rfl ?_ | refine stepY (y_load_rc1 rfl rfl) rfl ?_ | refine stepY (y_len_si rfl) rfl ?_ | refine stepY (y_convn rfl (by simp only [InK, loK, hiK]; omega)) rfl ?_ | refine stepY (y_index_si rfl rfl (by omega) (by omega)) rfl ?_ | refine stepY (y_binn rfl rfl rfl (by simp only [InK, loK, hiK]; omega)) rfl ?_ | refine stepY (y_binn rfl rfl rfl (by simp only [InK, loK, hiK]; omega)) rfl ?_ | refine stepY (y_remp rfl rfl (by omega) (by omega)) rfl ?_ | refine stepY (y_cmpT rfl rfl rfl (by omega)) rfl ?_ | refine stepE (e_bs_vi (k := .u32) rfl rfl rfl rfl rfl) ?_)
    rw [hrb]
    skip
    rw [show (((dg m k * b : Nat) : Int) + (lc m b c k : Int)) % 4294967296 = ((dg (m * b + c) k : Nat) : Int) by omega]
    refine stepE (e_app_vi rfl rfl rfl (src_vi rfl rfl) (by simp only [List.length_cons, List.length_nil]; omega) rfl rfl) ?_
    repeat (first | refine region_ ?_ | refine nil_ ?_ | refine stepY (y_move rfl) rfl ?_ | refine stepY (y_assign rfl) rfl ?_ | refine stepY (y_binn rfl rfl rfl (by simp only [InK, loK, hiK]; omega)) rfl ?_ | refine stepY (y_quop rfl rfl (by omega) (by omega) (by simp only [InK, loK, hiK]; omega)) rfl ?_)
    rw [← padd_succ, show (((dg m k * b : Nat) : Int) + (lc m b c k : Int)) / 4294967296 = ((lc m b c (k + 1) : Nat) : Int) by omega]
    refine ⟨k + 1, by omega, by omega, ?_, ?_⟩ <;> (repeat (first | exact sub_nil | exact subH_nil | refine sub_cons rfl ?_ | refine subH_cons rfl ?_))
  · obtain rfl : k = ln m := by omega
    rw [lc_top (lt_ln m) (by unfold B; omega) (by unfold B; omega)]
    have b2 := dg_bd (m * b + c) (ln m)
    repeat (first | refine seq_ ?_ | refine region_ ?_ | refine nil_ ?_ | refine exit_ ?_ | refine cond_f rfl ?_ | refine stepY (y_move rfl) rfl ?_ | refine stepY (y_len_si rfl) rfl ?_ | refine stepY (y_convn rfl (by simp only [InK, loK, hiK]; omega)) rfl ?_ | refine stepY (y_cmpF rfl rfl rfl (by omega)) rfl ?_ | refine stepE (e_bs_vi (k := .u32) rfl rfl rfl rfl rfl) ?_)
    refine stepE (e_app_vi rfl rfl rfl (src_vi rfl rfl) (by simp only [List.length_cons, List.length_nil]; omega) rfl rfl) ?_
    repeat (first | refine seq_ ?_ | refine region_ ?_ | refine nil_ ?_ | refine stepY (y_move rfl) rfl ?_ | refine stepY (y_assign rfl) rfl ?_)
    rw [← padd_succ]
    refine seal_L (i := 40) (h := 7) rfl rfl rfl rfl ?_
    have ht := RTrim_c (padd (ln m + 1) (m * b + c)) (wf_padd _ _) (by rw [padd_length]; omega)
    rw [val_padd, Nat.mod_eq_of_lt (lc_fit (lt_ln m) (by unfold B; omega) (by unfold B; omega))] at ht
    refine call_ Try.func91 rfl rfl ht rfl (by repeat (first | exact .tag _ _ | apply Les.cons | exact .nil)) rfl ?_
    repeat (first | refine nil_ ?_ | refine ret_ ?_ | refine stepY (y_assign rfl) rfl ?_)
    ((apply fin_r); (repeat (first | exact .nil | exact .tmp rfl | apply ResL.cons)); (repeat (exact .refl _)))
theorem short_c (m b : Nat) (hl : ln m < 4294967290) (hb0 : 0 < b) (hb : b < 4294967296) : Con Try.prog 69 [M m, UU b] (.tp [FM (m / b), UU (m % b : Nat)]) := by
  refine con_of Try.func69 rfl rfl rfl rfl rfl ?_
  have hlen : ((limbs m).length : Int) = ln m := by rw [limbs_length]
  repeat (first | refine seq_ ?_ | refine region_ ?_ | refine nil_ ?_ | refine stepY (y_move rfl) rfl ?_ | refine stepY (y_assign rfl) rfl ?_ | refine stepY (y_len_si rfl) rfl ?_)
  refine stepE (e_make rfl rfl (by omega) (by omega) rfl rfl) ?_
  repeat (first | refine seq_ ?_ | refine region_ ?_ | refine nil_ ?_ | refine block_ ?_ | refine stepY (y_move rfl) rfl ?_ | refine stepY (y_assign rfl) rfl ?_ | refine stepY (y_len_si rfl) rfl ?_ | refine stepY (y_binn rfl rfl rfl (by simp only [InK, loK, hiK]; omega)) rfl ?_)
  rw [hlen, show ((ln m : Int)).toNat = ln m by omega, ← dz_full (ln m) (m / b)]
  refine loop_ (α := Nat) (fun k => ([(0, .p (M m)), (1, .p (UU b)), (6, .vec 12), (7, .p (UU (m / B ^ k % b : Nat))), (8, .p (I ((k : Int) - 1)))], [(12, .vi 57 .u32 (dz k (ln m) (m / b)))])) (fun k => k ≤ ln m) id (ln m) (Nat.le_refl _) ?_ ?_ ?_
  · rw [Nat.div_eq_of_lt (lt_ln m), Nat.zero_mod]; (repeat (first | exact sub_nil | refine sub_cons rfl ?_))
  · (repeat (first | exact subH_nil | refine subH_cons rfl ?_))
  intro k hk
  have hl : (dz k (ln m) (m / b)).length = ln m := dz_length hk
  by_cases h0 : k = 0
  · subst h0
    repeat (first | refine seq_ ?_ | refine region_ ?_ | refine nil_ ?_ | refine exit_ ?_ | refine cond_f rfl ?_ | refine stepY (y_move rfl) rfl ?_ | refine stepY (y_cmpF rfl rfl rfl (by omega)) rfl ?_)
    refine seal_L (i := 38) (h := 12) rfl rfl rfl rfl ?_
    rw [dz_zero, Nat.pow_zero, Nat.div_one]
    have ht := RTrim_c (padd (ln m) (m / b)) (wf_padd _ _) (by rw [padd_length]; omega)
    rw [val_padd, Nat.mod_eq_of_lt (Nat.lt_of_le_of_lt (Nat.div_le_self _ _) (lt_ln m))] at ht
    refine call_ Try.func91 rfl rfl ht rfl (by repeat (first | exact .tag _ _ | apply Les.cons | exact .nil)) rfl ?_
    repeat (first | refine nil_ ?_ | refine ret_ ?_ | refine stepY (y_move rfl) rfl ?_ | refine stepY (y_assign rfl) rfl ?_)
    ((apply fin_r); (repeat (first | exact .nil | exact .tmp rfl | apply ResL.cons)); (repeat (exact .refl _)))
  · obtain ⟨j, rfl⟩ : ∃ j, k = j + 1 := ⟨k - 1, by omega⟩
    rw [show (((j + 1 : Nat) : Int) - 1) = (j : Int) by omega]
    have hs := short_step (a := m) (k := j) hb0 (by unfold B; omega)
    have hm := Nat.mod_lt (m / B ^ (j + 1)) hb0
    have r1 := rd_limbs m (i := (j : Int)) (by omega)
    rw [Int.toNat_natCast] at r1
    have b1 := dg_bd m j
    have b2 := dg_lt (m / b) j
    unfold B at b2
    have hq : ((m / B ^ (j + 1) % b : Nat) : Int) * 4294967296 + rd (limbs m) j = ((m / B ^ (j + 1) % b * B + dg m j : Nat) : Int) := by rw [r1]; unfold B; omega
    have hq1 : ((m / B ^ (j + 1) % b * B + dg m j : Nat) : Int) / (b : Int) = ((dg (m / b) j : Nat) : Int) := by rw [← hs.1, Int.natCast_ediv]
    have hq2 : ((m / B ^ (j + 1) % b * B + dg m j : Nat) : Int) % (b : Int) = ((m / B ^ j % b : Nat) : Int) := by rw [← hs.2, Int.natCast_emod]
    have hqb : m / B ^ (j + 1) % b * B + dg m j < 18446744073709551616 := by unfold B at *; omega
    repeat (first | refine seq_ ?_ | refine region_ ?_ | refine nil_ ?_ | refine skip_ ?_ | refine block_ ?_ | refine cond_t rfl ?_ | refine stepY (y_move rfl) rfl ?_ | refine stepY (y_assign rfl) rfl ?_ | refine stepY (y_load_rc1 rfl rfl) rfl ?_ | (first | refine stepY (y_convn rfl (by simp only [InK, loK, hiK]; omega)) rfl ?_ | refine stepY (y_conv rfl) rfl ?_) | (first | refine stepY (y_index_si rfl rfl (by omega) (by omega)) rfl ?_ | refine stepY (y_index_vi rfl rfl rfl (by omega) (by omega)) rfl ?_) | refine stepY (y_binn rfl rfl rfl (by simp only [InK, loK, hiK]; omega)) rfl ?_ | refine stepY (y_binn rfl rfl rfl (by simp only [InK, loK, hiK]; omega)) rfl ?_ | refine stepY (y_binn rfl rfl rfl (by simp only [InK, loK, hiK]; omega)) rfl ?_ | refine stepY (y_quop rfl rfl (by omega) (by omega) (by simp only [InK, loK, hiK]; omega)) rfl ?_ | refine stepY (y_remp rfl rfl (by omega) (by omega)) rfl ?_ | refine stepY (y_cmpT rfl rfl rfl (by omega)) rfl ?_ | refine stepE (e_store_vi rfl rfl rfl (by omega) (by omega)) ?_)
    rw [hq]
    skip
    rw [hq1, hq2, wrap32 b2, Int.toNat_natCast, dz_set (by omega)]
    refine ⟨j, by omega, by simp only [id]; omega, ?_, ?_⟩ <;> (repeat (first | exact sub_nil | exact subH_nil | refine sub_cons rfl ?_ | refine subH_cons rfl ?_))
end Go.Av

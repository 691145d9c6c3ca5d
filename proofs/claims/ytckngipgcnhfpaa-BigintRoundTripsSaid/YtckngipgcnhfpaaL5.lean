import Derived.Test.YtckngipgcnhfpaaL4
import Derived.Test.YtckngipgcnhfpaaP4
set_option maxHeartbeats 4000000
set_option maxRecDepth 100000
set_option linter.unusedVariables false
set_option linter.unusedSimpArgs false
namespace Go.Av
open Go Go.Proofs

/-! math/bits.Div32 -/
theorem or32 {h l : Nat} (hh : h < 4294967296) (hl : l < 4294967296) : bits .or .u64 ((h : Int) * 4294967296) (l : Int) = ((h * 4294967296 + l : Nat) : Int) := by
  have e : ((h : Int) * 4294967296) = ((2 ^ 32 * h : Nat) : Int) := by omega
  rw [e, u64_or_nat _ _ (by omega) (by omega), ← Nat.two_pow_add_eq_or_of_lt (by omega)]
  omega
theorem Div32_c (y x d : Nat) (hx : x < 4294967296) (hd : d < 4294967296) (hy : y < d) : Con Try.prog 93 [U y, U x, U d] (.tp [U ((y * B + x) / d : Nat), U ((y * B + x) % d : Nat)]) := by
  refine con_of Try.func93 rfl rfl rfl rfl rfl ?_
  have h0 : (y * 4294967296 + x) / d < 4294967296 := by
    rw [Nat.div_lt_iff_lt_mul (by omega)]; omega
  have h1 : (y * 4294967296 + x) % d < d := Nat.mod_lt _ (by omega)
  repeat (first | refine seq_ ?_ | refine region_ ?_ | refine nil_ ?_ | refine skip_ ?_ | refine cond_f rfl ?_ | refine guard_t rfl rfl rfl ?_ | refine stepY (y_move rfl) rfl ?_ | refine stepY (y_assign rfl) rfl ?_ | refine stepY (y_convn rfl (by simp only [InK, loK, hiK]; omega)) rfl ?_ | refine stepY (y_pick_t rfl rfl) rfl ?_ | refine stepY (y_shl32 rfl rfl (by decide) (by simp only [InK, loK, hiK]; omega)) rfl ?_ | refine stepY (y_cmpT rfl rfl rfl (by omega)) rfl ?_ | refine stepY (y_cmpF rfl rfl rfl (by omega)) rfl ?_ | refine stepY (y_bin rfl rfl rfl) rfl ?_)
  rw [or32 (by omega) hx]
  generalize hz : y * 4294967296 + x = z at *
  have e1 : ((z : Nat) : Int) / (d : Int) = ((z / d : Nat) : Int) := by simp
  have e2 : ((z : Nat) : Int) % (d : Int) = ((z % d : Nat) : Int) := by simp
  have e3 := wrap32 h0
  have e4 := wrap32 (Nat.lt_trans h1 hd)
  skip
  refine draw_ [(0, true), (1, true), (2, true), (3, true), (4, true), (5, true), (6, true), (7, true), (8, true), (9, true), (10, true), (11, true)] 1000 [] mixed (by kernel_rfl) rfl ?_
  ((refine dY rfl (y_move rfl) rfl rfl rfl rfl ?_); refine dY rfl (y_move rfl) rfl rfl rfl rfl ?_; refine dY rfl (y_convn rfl (by simp only [InK, loK, hiK]; omega)) rfl rfl rfl rfl ?_; refine dY rfl (y_quop rfl rfl (by omega) (by omega) (by simp only [InK, loK, hiK]; omega)) rfl rfl rfl rfl ?_; refine dY rfl (y_conv rfl) rfl rfl rfl rfl ?_; refine dY rfl (y_move rfl) rfl rfl rfl rfl ?_; refine dY rfl (y_move rfl) rfl rfl rfl rfl ?_; refine dY rfl (y_convn rfl (by simp only [InK, loK, hiK]; omega)) rfl rfl rfl rfl ?_; refine dY rfl (y_remp rfl rfl (by omega) (by omega)) rfl rfl rfl rfl ?_; refine dY rfl (y_convn rfl (by simp only [InK, loK, hiK]; omega)) rfl rfl rfl rfl ?_; refine dY rfl (y_assign rfl) rfl rfl rfl rfl ?_; refine dY rfl (y_assign rfl) rfl rfl rfl rfl ?_; refine dEnd ?_)
  repeat (refine ret_ ?_)
  rw [e1, e2]
  try rw [e3]
  try rw [e4]
  rw [show y * B + x = z from hz]
  ((apply fin_r); (repeat (first | exact .nil | exact .tmp rfl | apply ResL.cons)); (repeat (exact .refl _)))

/-! limbs.Divided -/
theorem Divided_c (a : List Int) (d : Nat) (ha : wf a) (hla : a.length < 4294967296) (hd0 : 0 < d) (hd : d < 4294967296) : Con Try.prog 78 [Li a, U d] (.tp [M (val a / d), U (val a % d : Nat)]) := by
  refine con_of Try.func78 rfl rfl rfl rfl rfl ?_
  repeat (first | refine seq_ ?_ | refine region_ ?_ | refine nil_ ?_ | refine stepY (y_move rfl) rfl ?_ | refine stepY (y_assign rfl) rfl ?_ | refine stepY (y_len_si rfl) rfl ?_)
  refine stepE (e_make rfl rfl (by omega) (by omega) rfl rfl) ?_
  repeat (first | refine seq_ ?_ | refine region_ ?_ | refine nil_ ?_ | refine block_ ?_ | refine stepY (y_move rfl) rfl ?_ | refine stepY (y_assign rfl) rfl ?_ | refine stepY (y_len_si rfl) rfl ?_ | refine stepY (y_binn rfl rfl rfl (by simp only [InK, loK, hiK]; omega)) rfl ?_)
  rw [show ((a.length : Int)).toNat = a.length by omega, ← dz_full a.length (val a / d)]
  refine loop_ (α := Nat) (fun k => ([(0, .p (Li a)), (1, .p (U d)), (6, .vec 11), (7, .p (U (val a / B ^ k % d : Nat))), (8, .p (I ((k : Int) - 1)))], [(11, .vi 57 .u32 (dz k a.length (val a / d)))])) (fun k => k ≤ a.length) id a.length (Nat.le_refl _) ?_ ?_ ?_
  · rw [Nat.div_eq_of_lt (val_lt ha), Nat.zero_mod]; (repeat (first | exact sub_nil | refine sub_cons rfl ?_))
  · (repeat (first | exact subH_nil | refine subH_cons rfl ?_))
  intro k hk
  have hl : (dz k a.length (val a / d)).length = a.length := dz_length hk
  by_cases h0 : k = 0
  · subst h0
    repeat (first | refine seq_ ?_ | refine region_ ?_ | refine nil_ ?_ | refine exit_ ?_ | refine cond_f rfl ?_ | refine stepY (y_move rfl) rfl ?_ | refine stepY (y_cmpF rfl rfl rfl (by omega)) rfl ?_)
    refine seal_L (i := 32) (h := 11) rfl rfl rfl rfl ?_
    rw [dz_zero, Nat.pow_zero, Nat.div_one]
    have hv := Trim_c (padd a.length (val a / d)) (wf_padd _ _)
    rw [val_padd, Nat.mod_eq_of_lt (Nat.lt_of_le_of_lt (Nat.div_le_self _ _) (val_lt ha))] at hv
    refine call_ Try.func79 rfl rfl hv rfl (by repeat (first | exact .tag _ _ | apply Les.cons | exact .nil)) rfl ?_
    repeat (first | refine nil_ ?_ | refine ret_ ?_ | refine stepY (y_move rfl) rfl ?_ | refine stepY (y_assign rfl) rfl ?_)
    ((apply fin_r); (repeat (first | exact .nil | exact .tmp rfl | apply ResL.cons)); (repeat (exact .refl _)))
  · obtain ⟨j, rfl⟩ : ∃ j, k = j + 1 := ⟨k - 1, by omega⟩
    rw [show (((j + 1 : Nat) : Int) - 1) = (j : Int) by omega]
    have hs := short_step (a := val a) (k := j) hd0 (by unfold B; omega)
    have hm := Nat.mod_lt (val a / B ^ (j + 1)) hd0
    have hc := Div32_c (val a / B ^ (j + 1) % d) (dg (val a) j) d (dg_lt _ _) hd hm
    rw [hs.1, hs.2] at hc
    repeat (first | refine seq_ ?_ | refine region_ ?_ | refine nil_ ?_ | refine skip_ ?_ | refine block_ ?_ | refine cond_t rfl ?_ | refine stepY (y_move rfl) rfl ?_ | refine stepY (y_load_rc1 rfl rfl) rfl ?_ | refine stepY (y_index_si rfl rfl (by omega) (by omega)) rfl ?_ | refine stepY (y_cmpT rfl rfl rfl (by omega)) rfl ?_)
    rw [rd_dgk ha j]
    refine call_ Try.func93 rfl rfl hc rfl (by repeat (first | exact .refl _ | apply Les.cons | exact .nil)) rfl ?_
    repeat (first | refine region_ ?_ | refine nil_ ?_ | refine stepY (y_move rfl) rfl ?_ | refine stepY (y_assign rfl) rfl ?_ | refine stepY (y_extract rfl rfl) rfl ?_ | refine stepY (y_index_vi rfl rfl rfl (by omega) (by omega)) rfl ?_ | refine stepY (y_binn rfl rfl rfl (by simp only [InK, loK, hiK]; omega)) rfl ?_ | refine stepE (e_store_vi rfl rfl rfl (by omega) (by omega)) ?_)
    rw [Int.toNat_natCast, dz_set (by omega)]
    refine ⟨j, by omega, by simp only [id]; omega, ?_, ?_⟩ <;> (repeat (first | exact sub_nil | exact subH_nil | refine sub_cons rfl ?_ | refine subH_cons rfl ?_))

/-! math/bits.LeadingZeros32 -/
def tab : ByteArray := ⟨[0, 1, 2, 2, 3, 3, 3, 3, 4, 4, 4, 4, 4, 4, 4, 4, 5, 5, 5, 5, 5, 5, 5, 5, 5, 5, 5, 5, 5, 5, 5, 5, 6, 6, 6, 6, 6, 6, 6, 6, 6, 6, 6, 6, 6, 6, 6, 6, 6, 6, 6, 6, 6, 6, 6, 6, 6, 6, 6, 6, 6, 6, 6, 6, 7, 7, 7, 7, 7, 7, 7, 7, 7, 7, 7, 7, 7, 7, 7, 7, 7, 7, 7, 7, 7, 7, 7, 7, 7, 7, 7, 7, 7, 7, 7, 7, 7, 7, 7, 7, 7, 7, 7, 7, 7, 7, 7, 7, 7, 7, 7, 7, 7, 7, 7, 7, 7, 7, 7, 7, 7, 7, 7, 7, 7, 7, 7, 7, 8, 8, 8, 8, 8, 8, 8, 8, 8, 8, 8, 8, 8, 8, 8, 8, 8, 8, 8, 8, 8, 8, 8, 8, 8, 8, 8, 8, 8, 8, 8, 8, 8, 8, 8, 8, 8, 8, 8, 8, 8, 8, 8, 8, 8, 8, 8, 8, 8, 8, 8, 8, 8, 8, 8, 8, 8, 8, 8, 8, 8, 8, 8, 8, 8, 8, 8, 8, 8, 8, 8, 8, 8, 8, 8, 8, 8, 8, 8, 8, 8, 8, 8, 8, 8, 8, 8, 8, 8, 8, 8, 8, 8, 8, 8, 8, 8, 8, 8, 8, 8, 8, 8, 8, 8, 8, 8, 8, 8, 8, 8, 8, 8, 8, 8, 8, 8, 8, 8, 8, 8, 8, 8, 8, 8, 8, 8, 8].toArray⟩
def len32 (x : Nat) : Nat := if x = 0 then 0 else x.log2 + 1
theorem tab_all : ((List.range 256).all fun x => decide (bt tab (x : Int) = (len32 x : Int))) = true := by kernel_rfl
theorem tab_ok {x : Nat} (h : x < 256) : bt tab (x : Int) = (len32 x : Int) := by
  have := List.all_eq_true.1 tab_all x (List.mem_range.2 h)
  exact of_decide_eq_true this
theorem log2_down {x k : Nat} (h : 2 ^ k ≤ x) : len32 x = k + len32 (x / 2 ^ k) := by
  have hp : 0 < 2 ^ k := Nat.pow_pos (by decide)
  have h0 : 0 < x / 2 ^ k := Nat.div_pos h hp
  unfold len32
  rw [if_neg (by omega), if_neg (by omega)]
  have h1 : x.log2 = k + (x / 2 ^ k).log2 := by
    rw [Nat.log2_eq_iff (by omega)]
    have h2 : 2 ^ (x / 2 ^ k).log2 ≤ x / 2 ^ k := Nat.log2_self_le (by omega)
    have h3 : x / 2 ^ k < 2 ^ ((x / 2 ^ k).log2 + 1) := Nat.lt_log2_self
    constructor
    · rw [Nat.pow_add, Nat.mul_comm]; exact (Nat.le_div_iff_mul_le hp).1 h2
    · rw [Nat.add_assoc, Nat.pow_add, Nat.mul_comm]; exact (Nat.div_lt_iff_lt_mul hp).1 h3
  omega
theorem Len32_c (x : Nat) (hx : x < 4294967296) : Con Try.prog 94 [U x] (I (len32 x)) := by
  refine con_of Try.func94 rfl rfl rfl rfl rfl ?_
  by_cases h1 : 65536 ≤ x
  · by_cases h2 : 256 ≤ x / 65536
    · rw [log2_down (k := 16) (by omega), log2_down (k := 8) (x := x / 2 ^ 16) (by omega), show x / 2 ^ 16 / 2 ^ 8 = x / 65536 / 256 from rfl, Int.natCast_add, Int.natCast_add, ← Int.add_assoc]
      have hx2 : x / 65536 / 256 < 256 := by omega
      have hb : bt tab ((x : Int) / 65536 / 256) = (len32 (x / 65536 / 256) : Int) := by first | exact tab_ok hx2 | (rw [← tab_ok hx2]; congr 1; omega)
      have hl : len32 (x / 65536 / 256) ≤ 8 := by
        unfold len32
        split
        · omega
        · have : (x / 65536 / 256).log2 < 8 := (Nat.log2_lt (by omega)).2 (by omega)
          omega
      repeat (first | refine seq_ ?_ | refine region_ ?_ | refine nil_ ?_ | refine cond_t rfl ?_ | refine stepY (y_move rfl) rfl ?_ | refine stepY (y_assign rfl) rfl ?_ | refine stepY (y_convn rfl (by simp only [InK, loK, hiK]; omega)) rfl ?_ | refine stepY (y_binn rfl rfl rfl (by simp only [InK, loK, hiK]; omega)) rfl ?_ | (first | refine stepY (y_shr16 rfl rfl (by decide)) rfl ?_ | refine stepY (y_shr8 rfl rfl (by decide)) rfl ?_) | refine stepY (y_cmpT rfl rfl rfl (by omega)) rfl ?_)
      refine stepY (y_index_str (s := tab) rfl rfl (by omega) (Int.lt_of_lt_of_le (b := 256) (by omega) (by decide))) rfl ?_
      rw [hb]
      repeat (first | refine nil_ ?_ | refine ret_ ?_ | refine stepY (y_assign rfl) rfl ?_ | refine stepY (y_convn rfl (by simp only [InK, loK, hiK]; omega)) rfl ?_ | refine stepY (y_binn rfl rfl rfl (by simp only [InK, loK, hiK]; omega)) rfl ?_)
      ((apply fin_r); (repeat (first | exact .nil | exact .tmp rfl | apply ResL.cons)); (repeat (exact .refl _)))
    · rw [log2_down (k := 16) (by omega), show x / 2 ^ 16 = x / 65536 from rfl, Int.natCast_add]
      have hx2 : x / 65536 < 256 := by omega
      have hb : bt tab ((x : Int) / 65536) = (len32 (x / 65536) : Int) := by first | exact tab_ok hx2 | (rw [← tab_ok hx2]; congr 1; omega)
      have hl : len32 (x / 65536) ≤ 8 := by
        unfold len32
        split
        · omega
        · have : (x / 65536).log2 < 8 := (Nat.log2_lt (by omega)).2 (by omega)
          omega
      repeat (first | refine seq_ ?_ | refine region_ ?_ | refine nil_ ?_ | refine skip_ ?_ | refine cond_t rfl ?_ | refine cond_f rfl ?_ | refine stepY (y_move rfl) rfl ?_ | refine stepY (y_assign rfl) rfl ?_ | refine stepY (y_convn rfl (by simp only [InK, loK, hiK]; omega)) rfl ?_ | refine stepY (y_shr16 rfl rfl (by decide)) rfl ?_ | (first | refine stepY (y_cmpT rfl rfl rfl (by omega)) rfl ?_ | refine stepY (y_cmpF rfl rfl rfl (by omega)) rfl ?_))
      refine stepY (y_index_str (s := tab) rfl rfl (by omega) (Int.lt_of_lt_of_le (b := 256) (by omega) (by decide))) rfl ?_
      rw [hb]
      repeat (first | refine nil_ ?_ | refine ret_ ?_ | refine stepY (y_assign rfl) rfl ?_ | refine stepY (y_convn rfl (by simp only [InK, loK, hiK]; omega)) rfl ?_ | refine stepY (y_binn rfl rfl rfl (by simp only [InK, loK, hiK]; omega)) rfl ?_)
      ((apply fin_r); (repeat (first | exact .nil | exact .tmp rfl | apply ResL.cons)); (repeat (exact .refl _)))
  · by_cases h2 : 256 ≤ x
    · rw [log2_down (k := 8) (by omega), show x / 2 ^ 8 = x / 256 from rfl, Int.natCast_add]
      have hx2 : x / 256 < 256 := by omega
      have hb : bt tab ((x : Int) / 256) = (len32 (x / 256) : Int) := by first | exact tab_ok hx2 | (rw [← tab_ok hx2]; congr 1; omega)
      have hl : len32 (x / 256) ≤ 8 := by
        unfold len32
        split
        · omega
        · have : (x / 256).log2 < 8 := (Nat.log2_lt (by omega)).2 (by omega)
          omega
      repeat (first | refine seq_ ?_ | refine region_ ?_ | refine nil_ ?_ | refine skip_ ?_ | refine cond_t rfl ?_ | refine cond_f rfl ?_ | refine stepY (y_move rfl) rfl ?_ | refine stepY (y_assign rfl) rfl ?_ | refine stepY (y_convn rfl (by simp only [InK, loK, hiK]; omega)) rfl ?_ | refine stepY (y_binn rfl rfl rfl (by simp only [InK, loK, hiK]; omega)) rfl ?_ | refine stepY (y_shr8 rfl rfl (by decide)) rfl ?_ | (first | refine stepY (y_cmpT rfl rfl rfl (by omega)) rfl ?_ | refine stepY (y_cmpF rfl rfl rfl (by omega)) rfl ?_))
      refine stepY (y_index_str (s := tab) rfl rfl (by omega) (Int.lt_of_lt_of_le (b := 256) (by omega) (by decide))) rfl ?_
      rw [hb]
      repeat (first | refine nil_ ?_ | refine ret_ ?_ | refine stepY (y_assign rfl) rfl ?_ | refine stepY (y_convn rfl (by simp only [InK, loK, hiK]; omega)) rfl ?_ | refine stepY (y_binn rfl rfl rfl (by simp only [InK, loK, hiK]; omega)) rfl ?_)
      ((apply fin_r); (repeat (first | exact .nil | exact .tmp rfl | apply ResL.cons)); (repeat (exact .refl _)))
    · have e0 : (0 : Int) + (len32 x : Int) = len32 x := Int.zero_add _
      rw [← e0]
      have hx2 : x < 256 := by omega
      have hb : bt tab ((x : Int)) = (len32 (x) : Int) := by first | exact tab_ok hx2 | (rw [← tab_ok hx2]; congr 1; omega)
      have hl : len32 (x) ≤ 8 := by
        unfold len32
        split
        · omega
        · have : (x).log2 < 8 := (Nat.log2_lt (by omega)).2 (by omega)
          omega
      repeat (first | refine seq_ ?_ | refine region_ ?_ | refine nil_ ?_ | refine skip_ ?_ | refine cond_f rfl ?_ | refine stepY (y_move rfl) rfl ?_ | refine stepY (y_assign rfl) rfl ?_ | refine stepY (y_convn rfl (by simp only [InK, loK, hiK]; omega)) rfl ?_ | refine stepY (y_cmpF rfl rfl rfl (by omega)) rfl ?_)
      refine stepY (y_index_str (s := tab) rfl rfl (by omega) (Int.lt_of_lt_of_le (b := 256) (by omega) (by decide))) rfl ?_
      rw [hb]
      repeat (first | refine nil_ ?_ | refine ret_ ?_ | refine stepY (y_assign rfl) rfl ?_ | refine stepY (y_convn rfl (by simp only [InK, loK, hiK]; omega)) rfl ?_ | refine stepY (y_binn rfl rfl rfl (by simp only [InK, loK, hiK]; omega)) rfl ?_)
      ((apply fin_r); (repeat (first | exact .nil | exact .tmp rfl | apply ResL.cons)); (repeat (exact .refl _)))
theorem LeadingZeros32_c (x : Nat) (h0 : 0 < x) (hx : x < 4294967296) : Con Try.prog 80 [U x] (I (lz x)) := by
  refine con_of Try.func80 rfl rfl rfl rfl rfl ?_
  have hl : x.log2 < 32 := (Nat.log2_lt (by omega)).2 hx
  have e : (32 : Int) - len32 x = lz x := by unfold lz len32; rw [if_neg (by omega)]; omega
  have hr : len32 x ≤ 32 := by unfold len32; rw [if_neg (by omega)]; omega
  repeat (first | refine seq_ ?_ | refine region_ ?_ | refine nil_ ?_ | refine stepY (y_move rfl) rfl ?_ | refine stepY (y_assign rfl) rfl ?_)
  refine call_ Try.func94 rfl rfl (Len32_c x hx) rfl (by repeat (first | exact .refl _ | apply Les.cons | exact .nil)) rfl ?_
  repeat (first | refine nil_ ?_ | refine ret_ ?_ | refine stepY (y_assign rfl) rfl ?_ | refine stepY (y_binn rfl rfl rfl (by simp only [InK, loK, hiK]; omega)) rfl ?_)
  rw [e]
  ((apply fin_r); (repeat (first | exact .nil | exact .tmp rfl | apply ResL.cons)); (repeat (exact .refl _)))

/-! limbs.shifted -/
theorem shifted_r (a : List Int) (n : Nat) (ha : wf a) (hla : a.length < 4294967296) (hn : n ≤ 31) : ConR Try.prog 81 [Li a, I n] 57 .u32 (padd (a.length + 1) (val a * 2 ^ n)) := by
  refine conR_of Try.func81 rfl rfl rfl rfl rfl ?_
  repeat (first | refine seq_ ?_ | refine region_ ?_ | refine nil_ ?_ | refine stepY (y_move rfl) rfl ?_ | refine stepY (y_assign rfl) rfl ?_ | refine stepY (y_len_si rfl) rfl ?_ | refine stepY (y_binn rfl rfl rfl (by simp only [InK, loK, hiK]; omega)) rfl ?_)
  refine stepE (e_make rfl rfl (by omega) (by omega) rfl rfl) ?_
  repeat (first | refine seq_ ?_ | refine region_ ?_ | refine nil_ ?_ | refine block_ ?_ | refine stepY (y_move rfl) rfl ?_ | refine stepY (y_assign rfl) rfl ?_ | refine stepY (y_len_si rfl) rfl ?_)
  have ez : List.replicate (a.length + 1) (0 : Int) = padd (a.length + 1) ((val a % B ^ 0) * 2 ^ n) := by
    rw [Nat.pow_zero, Nat.mod_one, Nat.zero_mul]
    have := padd_val (wf_zero (a.length + 1))
    rw [val_zero, List.length_replicate] at this
    exact this.symm
  rw [show ((a.length : Int) + 1).toNat = a.length + 1 by omega, ez]
  refine loop_ (α := Nat) (fun i => ([(0, .p (Li a)), (1, .p (I n)), (5, .vec 12), (13, .p (Li a)), (14, .p (I a.length)), (15, .p (I i))], [(12, .vi 57 .u32 (padd (a.length + 1) ((val a % B ^ i) * 2 ^ n)))])) (fun i => i ≤ a.length) (fun i => a.length - i) 0 (Nat.zero_le _) ?_ ?_ ?_
  · (repeat (first | exact sub_nil | refine sub_cons rfl ?_))
  · (repeat (first | exact subH_nil | refine subH_cons rfl ?_))
  intro i hi
  by_cases hlt : i < a.length
  · have hl := padd_length (a.length + 1) ((val a % B ^ i) * 2 ^ n)
    have hy : dg (val a) i * 2 ^ n < 18446744073709551616 := by
      have h1 : 2 ^ n ≤ 2 ^ 31 := Nat.pow_le_pow_right (by decide) hn
      exact Nat.lt_of_lt_of_le (Nat.mul_lt_mul_of_lt_of_le (dg_lt _ _) h1 (by decide)) (by decide)
    have hd := dg_bd (val a) i
    have hs := shift_list (a := val a) (n := n) (i := i) (m := a.length + 1) hn (by omega)
    have ro : rd (padd (a.length + 1) ((val a % B ^ i) * 2 ^ n)) (i : Int) = (dg ((val a % B ^ i) * 2 ^ n) i : Int) := by
      have := rd_padd (k := a.length + 1) (n := (val a % B ^ i) * 2 ^ n) (i := (i : Int)) (by omega) (by omega)
      rwa [Int.toNat_natCast] at this
    generalize hq : dg (val a) i * 2 ^ n = y at *
    have hra : 0 ≤ rd a i ∧ rd a i < 4294967296 := by rw [rd_dgk ha i]; exact hd
    repeat (first | refine seq_ ?_ | refine region_ ?_ | refine nil_ ?_ | refine skip_ ?_ | refine block_ ?_ | refine cond_t rfl ?_ | refine stepY (y_move rfl) rfl ?_ | refine stepY (y_assign rfl) rfl ?_ | refine stepY (y_load_rc1 rfl rfl) rfl ?_ | refine stepY (y_convn rfl (by simp only [InK, loK, hiK]; omega)) rfl ?_ | refine stepY (y_index_si rfl rfl (by omega) (by omega)) rfl ?_ | refine stepY (y_cmpT rfl rfl rfl (by omega)) rfl ?_)
    rw [rd_dgk ha i]
    refine stepY (y_shln rfl rfl (by show (n : Int) ≤ 64; omega) (by simp only [InK, loK, hiK]; omega)) rfl ?_
    rw [hq]
    repeat (first | refine seq_ ?_ | refine region_ ?_ | refine nil_ ?_ | refine stepY (y_move rfl) rfl ?_ | refine stepY (y_assign rfl) rfl ?_ | refine stepY (y_load_vi rfl rfl (by omega) (by omega)) rfl ?_ | (first | refine stepY (y_convn rfl (by simp only [InK, loK, hiK]; omega)) rfl ?_ | refine stepY (y_conv rfl) rfl ?_) | refine stepY (y_index_vi rfl rfl rfl (by omega) (by omega)) rfl ?_ | refine stepY (y_binn rfl rfl rfl (by simp only [InK, loK, hiK]; omega)) rfl ?_ | refine stepY (y_shr32 rfl rfl (by decide)) rfl ?_ | refine stepY (y_bin rfl rfl rfl) rfl ?_ | refine stepE (e_store_vi rfl rfl rfl (by omega) (by omega)) ?_)
    have e1 : bits .or .u32 (rd (padd (a.length + 1) ((val a % B ^ i) * 2 ^ n)) (i : Int)) (IntKind.wrap .u32 (y : Int)) = ((dg ((val a % B ^ i) * 2 ^ n) i ||| y % B : Nat) : Int) := by
      rw [ro, wrap_u32, show (y : Int) % 4294967296 = ((y % B : Nat) : Int) by unfold B; omega]
      exact u32_or_nat _ _ (dg_lt _ _) (Nat.mod_lt _ B_pos)
    rw [e1]
    have hl' : ((padd (a.length + 1) ((val a % B ^ i) * 2 ^ n)).set i ((dg ((val a % B ^ i) * 2 ^ n) i ||| y % B : Nat) : Int)).length = a.length + 1 := by simp
    rw [Int.toNat_natCast]
    repeat (first | refine region_ ?_ | refine nil_ ?_ | refine stepY (y_move rfl) rfl ?_ | refine stepY (y_index_vi rfl rfl rfl (by omega) (by omega)) rfl ?_ | refine stepY (y_binn rfl rfl rfl (by simp only [InK, loK, hiK]; omega)) rfl ?_ | refine stepE (e_store_vi rfl rfl rfl (by omega) (by omega)) ?_)
    rw [show ((i : Int) + 1).toNat = i + 1 by omega, show (y : Int) / 4294967296 = ((y / B : Nat) : Int) by unfold B; omega, hs]
    refine ⟨i + 1, by omega, by omega, ?_, ?_⟩ <;> (repeat (first | exact sub_nil | exact subH_nil | refine sub_cons rfl ?_ | refine subH_cons rfl ?_))
  · obtain rfl : i = a.length := by omega
    repeat (first | refine seq_ ?_ | refine region_ ?_ | refine nil_ ?_ | refine exit_ ?_ | refine ret_ ?_ | refine cond_f rfl ?_ | refine stepY (y_move rfl) rfl ?_ | refine stepY (y_assign rfl) rfl ?_ | refine stepY (y_cmpF rfl rfl rfl (by omega)) rfl ?_)
    rw [Nat.mod_eq_of_lt (val_lt ha)]
    exact ⟨.inr rfl, _, _, rfl, rfl, rfl, rfl⟩
end Go.Av

import Derived.Test.YtckngipgcnhfpaaLe
import Derived.Test.YtckngipgcnhfpaaP5
set_option maxHeartbeats 8000000
set_option exponentiation.threshold 100000
set_option maxRecDepth 100000
set_option linter.unusedVariables false
set_option linter.unusedSimpArgs false
namespace Go.Av
open Go Go.Proofs
theorem bit_c (l : List Int) (i : Nat) (hw : wf l) (hi : i / 32 < l.length) (hl : l.length < 4294967296) : Con Try.prog 90 [Li l, I i] (U (val l / 2 ^ i % 2 : Nat)) := by
  refine con_of Try.func90 rfl rfl rfl rfl rfl ?_
  have hr := rd_bd hw (i / 32)
  have e1 : (i : Int) / 32 = ((i / 32 : Nat) : Int) := by omega
  have e2 : (i : Int) % 32 = ((i % 32 : Nat) : Int) := by omega
  have h32 : i % 32 < 32 := Nat.mod_lt _ (by decide)
  repeat (first | refine seq_ ?_ | refine region_ ?_ | refine nil_ ?_ | refine stepY (y_move rfl) rfl ?_ | refine stepY (y_assign rfl) rfl ?_ | refine stepY (y_load_rc1 rfl rfl) rfl ?_ | refine stepY (y_convn rfl (by simp only [InK, loK, hiK]; omega)) rfl ?_ | refine stepY (y_index_si rfl rfl (by omega) (by omega)) rfl ?_ | refine stepY (y_quop rfl rfl (by omega) (by omega) (by simp only [InK, loK, hiK]; omega)) rfl ?_ | refine stepY (y_remp rfl rfl (by omega) (by omega)) rfl ?_)
  rw [e1, rd_dgk hw, e2]
  refine stepY (y_shrn rfl rfl (by show ((i % 32 : Nat) : Int) ≤ 32; omega)) rfl ?_
  repeat (first | refine nil_ ?_ | refine ret_ ?_ | refine stepY (y_assign rfl) rfl ?_ | refine stepY (y_bin rfl rfl rfl) rfl ?_)
  have e3 : ((dg (val l) (i / 32) : Nat) : Int) / 2 ^ (i % 32) = ((dg (val l) (i / 32) / 2 ^ (i % 32) : Nat) : Int) := by simp
  have hd := dg_lt (val l) (i / 32)
  have e4 : bits .and .u32 ((dg (val l) (i / 32) / 2 ^ (i % 32) : Nat) : Int) 1 = ((dg (val l) (i / 32) / 2 ^ (i % 32) % 2 : Nat) : Int) := by
    have := u32_and_nat (dg (val l) (i / 32) / 2 ^ (i % 32)) 1 (Nat.lt_of_le_of_lt (Nat.div_le_self _ _) hd) (by decide)
    rw [Nat.and_one_is_mod] at this
    exact this
  rw [e3, e4, bit_dg]
  ((apply fin_r); (repeat (first | exact .nil | exact .tmp rfl | apply ResL.cons)); (repeat (exact .refl _)))

/-! barscanref02.half -/
theorem half_c (n : Nat) (hl : ln n < 4294967295) : Con Try.prog 59 [M n] (FM (n / 2)) := by
  refine con_of Try.func59 rfl rfl rfl rfl rfl ?_
  have hlen : ((limbs n).length : Int) = ln n := by rw [limbs_length]
  repeat (first | refine seq_ ?_ | refine region_ ?_ | refine nil_ ?_ | refine block_ ?_ | refine stepY (y_assign rfl) rfl ?_)
  refine nil_C (i := 3) 57 .u32 rfl rfl rfl ?_
  refine loop_ (α := Nat) (fun k => ([(0, .p (M n)), (3, .vec 3), (4, .p (I k))], [(3, .vi 57 .u32 (padd k (n / 2)))])) (fun k => k ≤ ln n) (fun k => ln n - k) 0 (Nat.zero_le _) ?_ ?_ ?_
  · (repeat (first | exact sub_nil | refine sub_cons rfl ?_))
  · (repeat (first | exact subH_nil | refine subH_cons rfl ?_))
  intro k hk
  have hlp : (padd k (n / 2)).length = k := padd_length _ _
  by_cases hlt : k < ln n
  · have r1 := rd_limbs n (i := (k : Int)) (by omega)
    rw [Int.toNat_natCast] at r1
    have b1 := dg_bd n k
    have b2 := dg_bd n (k + 1)
    have hh := half_dg n k
    have hb : 0 ≤ rd (limbs n) k ∧ rd (limbs n) k < 4294967296 := by rw [r1]; exact b1
    have hc := rlimb_c (limbs n) (k + 1) (wf_limbs n)
    rw [val_limbs, Int.natCast_add] at hc
    repeat (first | refine seq_ ?_ | refine region_ ?_ | refine nil_ ?_ | refine skip_ ?_ | refine block_ ?_ | refine cond_t rfl ?_ | refine stepY (y_move rfl) rfl ?_ | refine stepY (y_len_si rfl) rfl ?_ | refine stepY (y_cmpT rfl rfl rfl (by omega)) rfl ?_)
    refine draw_ [(0, true), (1, true), (2, true), (3, true), (4, true), (5, true), (6, true), (7, true), (8, true), (9, false), (10, true), (11, true), (12, true), (13, true), (14, false), (15, false), (16, true)] 1000 [] mixed (by kernel_rfl) rfl ?_
    ((refine dY rfl (y_move rfl) rfl rfl rfl rfl ?_); refine dY rfl (y_move rfl) rfl rfl rfl rfl ?_; refine dY rfl (y_move rfl) rfl rfl rfl rfl ?_; refine dY rfl (y_index_si rfl rfl (by omega) (by omega)) rfl rfl rfl rfl ?_; refine dY rfl (y_load_rc1 rfl rfl) rfl rfl rfl rfl ?_; refine dY rfl (y_quop rfl rfl (by omega) (by omega) (by simp only [InK, loK, hiK]; omega)) rfl rfl rfl rfl ?_; refine dY rfl (y_move rfl) rfl rfl rfl rfl ?_; refine dY rfl (y_move rfl) rfl rfl rfl rfl ?_; refine dY rfl (y_binn rfl rfl rfl (by simp only [InK, loK, hiK]; omega)) rfl rfl rfl rfl ?_)
    refine dC rfl Try.func73 rfl rfl hc rfl (by repeat (first | exact .refl _ | apply Les.cons | exact .nil)) rfl rfl ?_
    ((refine dY rfl (y_remp rfl rfl (by omega) (by omega)) rfl rfl rfl rfl ?_); refine dY rfl (y_convn rfl (by simp only [InK, loK, hiK]; omega)) rfl rfl rfl rfl ?_; refine dY rfl (y_binn rfl rfl rfl (by simp only [InK, loK, hiK]; omega)) rfl rfl rfl rfl ?_; refine dY rfl (y_binn rfl rfl rfl (by simp only [InK, loK, hiK]; omega)) rfl rfl rfl rfl ?_; (refine dE rfl (e_bs_vi (k := .u32) rfl rfl rfl rfl rfl) rfl rfl ?_))
    rw [r1, show (dg n k : Int) / 2 + (dg n (k + 1) : Int) % 2 * 2147483648 = ((dg (n / 2) k : Nat) : Int) by omega]
    refine dE rfl (e_app_vi rfl rfl rfl (src_vi rfl rfl) (by simp only [List.length_cons, List.length_nil]; omega) rfl rfl) rfl rfl ?_
    ((refine dY rfl (y_assign rfl) rfl rfl rfl rfl ?_); refine dEnd ?_)
    repeat (first | refine region_ ?_ | refine nil_ ?_ | refine stepY (y_move rfl) rfl ?_ | refine stepY (y_assign rfl) rfl ?_ | refine stepY (y_binn rfl rfl rfl (by simp only [InK, loK, hiK]; omega)) rfl ?_)
    rw [← padd_succ]
    refine ⟨k + 1, by omega, by omega, ?_, ?_⟩ <;> (repeat (first | exact sub_nil | exact subH_nil | refine sub_cons rfl ?_ | refine subH_cons rfl ?_))
  · obtain rfl : k = ln n := by omega
    repeat (first | refine seq_ ?_ | refine region_ ?_ | refine nil_ ?_ | refine exit_ ?_ | refine cond_f rfl ?_ | refine stepY (y_move rfl) rfl ?_ | refine stepY (y_len_si rfl) rfl ?_ | refine stepY (y_cmpF rfl rfl rfl (by omega)) rfl ?_)
    refine seal_L (i := 27) (h := 3) rfl rfl rfl rfl ?_
    have ht := RTrim_c (padd (ln n) (n / 2)) (wf_padd _ _) (by rw [padd_length]; omega)
    rw [val_padd, Nat.mod_eq_of_lt (Nat.lt_of_le_of_lt (Nat.div_le_self _ _) (lt_ln n))] at ht
    refine call_ Try.func91 rfl rfl ht rfl (by repeat (first | exact .tag _ _ | apply Les.cons | exact .nil)) rfl ?_
    repeat (first | refine nil_ ?_ | refine ret_ ?_ | refine stepY (y_assign rfl) rfl ?_)
    ((apply fin_r); (repeat (first | exact .nil | exact .tmp rfl | apply ResL.cons)); (repeat (exact .refl _)))
end Go.Av

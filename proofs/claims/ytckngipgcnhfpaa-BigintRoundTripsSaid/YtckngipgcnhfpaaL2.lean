import Derived.Test.YtckngipgcnhfpaaLi
import Derived.Test.YtckngipgcnhfpaaPm
set_option maxHeartbeats 4000000
set_option linter.unusedVariables false
set_option linter.unusedSimpArgs false
namespace Go.Av
open Go Go.Proofs
theorem wf_get {l : List Int} (h : wf l) {i : Nat} (hi : i < l.length) : 0 ≤ l[i] ∧ l[i] < 4294967296 := h _ (List.getElem_mem hi)
theorem rd_dg {l : List Int} (h : wf l) {i : Int} (h0 : 0 ≤ i) : rd l i = ((dg (val l) i.toNat : Nat) : Int) := rd_wf h h0
theorem rd_dgk {l : List Int} (h : wf l) (k : Nat) : rd l (k : Int) = ((dg (val l) k : Nat) : Int) := by rw [rd_wf' h]
  where rd_wf' {l : List Int} (h : wf l) {k : Nat} : rd l (k : Int) = ((dg (val l) k : Nat) : Int) := by have := rd_wf h (i := (k : Int)) (by omega); simpa [rd] using this
theorem dg_bd (n i : Nat) : 0 ≤ ((dg n i : Nat) : Int) ∧ ((dg n i : Nat) : Int) < 4294967296 := Int_dg n i

/-! math/bits.Add32, Sub32 -/
theorem Add32_c (x y c : Int) (hx : 0 ≤ x ∧ x < 4294967296) (hy : 0 ≤ y ∧ y < 4294967296) (hc : 0 ≤ c ∧ c ≤ 1) : Con Try.prog 86 [U x, U y, U c] (.tp [U ((x + y + c) % 4294967296), U ((x + y + c) / 4294967296)]) := by
  refine con_of Try.func86 rfl rfl rfl rfl rfl ?_
  repeat (first | refine seq_ ?_ | refine region_ ?_ | refine nil_ ?_ | refine ret_ ?_ | refine stepY (y_move rfl) rfl ?_ | refine stepY (y_assign rfl) rfl ?_ | (first | refine stepY (y_convn rfl (by simp only [InK, loK, hiK]; omega)) rfl ?_ | refine stepY (y_conv rfl) rfl ?_) | refine stepY (y_binn rfl rfl rfl (by simp only [InK, loK, hiK]; omega)) rfl ?_ | refine stepY (y_shr32 rfl rfl (by decide)) rfl ?_)
  ((apply fin_r); (repeat (first | exact .nil | exact .tmp rfl | apply ResL.cons)); (repeat (exact .refl _)))
theorem Sub32_c (x y c : Nat) (hx : x < 4294967296) (hy : y < 4294967296) (hc : c ≤ 1) : Con Try.prog 88 [U x, U y, U c] (.tp [U (((x : Int) - y - c) % 4294967296), U (if (x : Int) < y + c then 1 else 0)]) := by
  refine con_of Try.func88 rfl rfl rfl rfl rfl ?_
  rw [← sub32_bit hx hy hc]
  repeat (first | refine seq_ ?_ | refine region_ ?_ | refine nil_ ?_ | refine ret_ ?_ | refine stepY (y_move rfl) rfl ?_ | refine stepY (y_assign rfl) rfl ?_ | refine stepY (y_com rfl) rfl ?_ | refine stepY (y_bin rfl rfl rfl) rfl ?_ | refine stepY (y_shr31 rfl rfl (by decide)) rfl ?_ | refine stepY (y_bin rfl rfl rfl) rfl ?_)
  have e : IntKind.wrap .u32 (IntKind.wrap .u32 ((x : Int) - y) - c) = ((x : Int) - y - c) % 4294967296 := by simp only [wrap_u32]; omega
  rw [e]
  ((apply fin_r); (repeat (first | exact .nil | exact .tmp rfl | apply ResL.cons)); (repeat (exact .refl _)))
/-- one limb of a sum -/
theorem add_c (a b i : Nat) : Con Try.prog 86 [U (dg a i), U (dg b i), U (cy a b i)] (.tp [U (dg (a + b) i), U (cy a b (i + 1))]) := by
  have h1 := cy_step a b i
  have h2 := dg_lt (a + b) i
  have h3 := cy_le a b i
  have h := Add32_c (dg a i) (dg b i) (cy a b i) (dg_bd a i) (dg_bd b i) (by omega)
  have e : ((dg a i : Int) + dg b i + cy a b i) = dg (a + b) i + 4294967296 * cy a b (i + 1) := by unfold B at h1; omega
  rw [e] at h
  rw [show ((dg (a + b) i : Int) + 4294967296 * cy a b (i + 1)) % 4294967296 = dg (a + b) i by unfold B at h2; omega, show ((dg (a + b) i : Int) + 4294967296 * cy a b (i + 1)) / 4294967296 = cy a b (i + 1) by unfold B at h2; omega] at h
  exact h
/-- one limb of a difference -/
theorem sub_c {a b : Nat} (hab : b ≤ a) (i : Nat) : Con Try.prog 88 [U (dg a i), U (dg b i), U (bw a b i)] (.tp [U (dg (a - b) i), U (bw a b (i + 1))]) := by
  have h1 := bw_step hab i
  have h2 := dg_bd (a - b) i
  have h3 := bw_le a b i
  have h4 := bw_le a b (i + 1)
  have h := Sub32_c (dg a i) (dg b i) (bw a b i) (dg_lt a i) (dg_lt b i) h3
  rw [show ((dg a i : Int) - dg b i - bw a b i) % 4294967296 = dg (a - b) i by omega] at h
  have e : (if (dg a i : Int) < dg b i + bw a b i then (1 : Int) else 0) = bw a b (i + 1) := by split <;> omega
  rw [e] at h
  exact h

/-! limbs.Sum -/
theorem Sum_c (a b : List Int) (ha : wf a) (hb : wf b) (hla : a.length < 4294967296) (hlb : b.length < 4294967296) : Con Try.prog 52 [Li a, Li b] (FLi (padd (max a.length b.length + 1) (val a + val b))) := by
  refine con_of Try.func52 rfl rfl rfl rfl rfl ?_
  by_cases h : (a.length : Int) < b.length
  · rw [show max a.length b.length = b.length by omega, Nat.add_comm (val a)]
    repeat (first | refine seq_ ?_ | refine region_ ?_ | refine nil_ ?_ | refine cond_t rfl ?_ | refine stepY (y_move rfl) rfl ?_ | refine stepY (y_assign rfl) rfl ?_ | refine stepY (y_len_si rfl) rfl ?_ | refine stepY (y_binn rfl rfl rfl (by simp only [InK, loK, hiK]; omega)) rfl ?_ | refine stepY (y_cmpT rfl rfl rfl (by omega)) rfl ?_)
    refine stepE (e_make rfl rfl (by omega) (by omega) rfl rfl) ?_
    repeat (first | refine seq_ ?_ | refine region_ ?_ | refine nil_ ?_ | refine block_ ?_ | refine stepY (y_move rfl) rfl ?_ | refine stepY (y_assign rfl) rfl ?_ | refine stepY (y_len_si rfl) rfl ?_)
    have hm : (((b).length : Int) + 1).toNat = (b).length + 1 := by omega
    rw [hm, ← pz_zero ((b).length + 1) (val b + val a)]
    refine loop_ (α := Nat) (fun k => ([(0, .p (Li b)), (1, .p (Li a)), (5, .vec 18), (6, .p (U (cy (val b) (val a) k))), (20, .p (I (b).length)), (21, .p (I k))], [(18, .vi 57 .u32 (pz k ((b).length + 1) (val b + val a)))])) (fun k => k ≤ (b).length) (fun k => (b).length - k) 0 (Nat.zero_le _) ?_ ?_ ?_
    · rw [cy_zero]; (repeat (first | exact sub_nil | refine sub_cons rfl ?_))
    · (repeat (first | exact subH_nil | refine subH_cons rfl ?_))
    intro k hk
    have hl : (pz k ((b).length + 1) (val b + val a)).length = (b).length + 1 := pz_length (by omega)
    by_cases hlt : k < (b).length
    · repeat (first | refine seq_ ?_ | refine region_ ?_ | refine nil_ ?_ | refine skip_ ?_ | refine block_ ?_ | refine cond_t rfl ?_ | refine stepY (y_move rfl) rfl ?_ | refine stepY (y_assign rfl) rfl ?_ | refine stepY (y_cmpT rfl rfl rfl (by omega)) rfl ?_)
      refine draw_ [(0, true), (1, true), (2, true), (3, true), (4, true), (5, true), (6, true), (7, true), (9, true), (8, false), (10, false), (11, true), (12, true), (13, true), (14, true), (15, false), (16, true)] 1000 [] mixed (by kernel_rfl) rfl ?_
      ((refine dY rfl (y_move rfl) rfl rfl rfl rfl ?_); refine dY rfl (y_move rfl) rfl rfl rfl rfl ?_; refine dY rfl (y_move rfl) rfl rfl rfl rfl ?_; refine dY rfl (y_move rfl) rfl rfl rfl rfl ?_; refine dY rfl (y_index_si rfl rfl (by omega) (by omega)) rfl rfl rfl rfl ?_; refine dY rfl (y_load_rc1 rfl rfl) rfl rfl rfl rfl ?_; refine dY rfl (y_move rfl) rfl rfl rfl rfl ?_; refine dY rfl (y_move rfl) rfl rfl rfl rfl ?_; refine dY rfl (y_move rfl) rfl rfl rfl rfl ?_)
      refine dC rfl Try.func87 rfl rfl (limb_c a k (by omega)) rfl (by repeat (first | exact .refl _ | apply Les.cons | exact .nil)) rfl rfl ?_
      skip
      rw [rd_dgk hb k, rd_dgk ha k]
      refine dC rfl Try.func86 rfl rfl (add_c (val b) (val a) k) rfl (by repeat (first | exact .refl _ | apply Les.cons | exact .nil)) rfl rfl ?_
      ((refine dY rfl (y_move rfl) rfl rfl rfl rfl ?_); refine dY rfl (y_extract rfl rfl) rfl rfl rfl rfl ?_; refine dY rfl (y_extract rfl rfl) rfl rfl rfl rfl ?_; refine dY rfl (y_index_vi rfl rfl rfl (by omega) (by omega)) rfl rfl rfl rfl ?_; (refine dE rfl (e_store_vi rfl rfl rfl (by omega) (by omega)) rfl rfl ?_); refine dY rfl (y_assign rfl) rfl rfl rfl rfl ?_; refine dEnd ?_)
      repeat (first | refine region_ ?_ | refine nil_ ?_ | refine stepY (y_move rfl) rfl ?_ | refine stepY (y_binn rfl rfl rfl (by simp only [InK, loK, hiK]; omega)) rfl ?_)
      rw [Int.toNat_natCast, pz_set (by omega)]
      refine ⟨k + 1, by omega, by omega, ?_, ?_⟩ <;> (repeat (first | exact sub_nil | exact subH_nil | refine sub_cons rfl ?_ | refine subH_cons rfl ?_))
    · obtain rfl : k = (b).length := by omega
      repeat (first | refine seq_ ?_ | refine region_ ?_ | refine nil_ ?_ | refine exit_ ?_ | refine ret_ ?_ | refine cond_f rfl ?_ | refine stepY (y_move rfl) rfl ?_ | refine stepY (y_assign rfl) rfl ?_ | refine stepY (y_len_si rfl) rfl ?_ | refine stepY (y_index_vi rfl rfl rfl (by omega) (by omega)) rfl ?_ | refine stepY (y_cmpF rfl rfl rfl (by omega)) rfl ?_ | refine stepE (e_store_vi rfl rfl rfl (by omega) (by omega)) ?_)
      rw [cy_top (val_lt hb) (Nat.lt_of_lt_of_le (val_lt ha) (Nat.pow_le_pow_right B_pos (show (a).length ≤ (b).length by omega))), Int.toNat_natCast, pz_set (by omega), pz_full]
      ((apply fin_r); (repeat (first | exact .nil | exact .vi rfl rfl rfl | apply ResL.cons)); (repeat (exact .refl _)))
  · rw [show max a.length b.length = a.length by omega]
    repeat (first | refine seq_ ?_ | refine region_ ?_ | refine nil_ ?_ | refine skip_ ?_ | refine cond_f rfl ?_ | refine stepY (y_move rfl) rfl ?_ | refine stepY (y_assign rfl) rfl ?_ | refine stepY (y_len_si rfl) rfl ?_ | refine stepY (y_binn rfl rfl rfl (by simp only [InK, loK, hiK]; omega)) rfl ?_ | refine stepY (y_cmpF rfl rfl rfl (by omega)) rfl ?_)
    refine stepE (e_make rfl rfl (by omega) (by omega) rfl rfl) ?_
    repeat (first | refine seq_ ?_ | refine region_ ?_ | refine nil_ ?_ | refine block_ ?_ | refine stepY (y_move rfl) rfl ?_ | refine stepY (y_assign rfl) rfl ?_ | refine stepY (y_len_si rfl) rfl ?_)
    have hm : (((a).length : Int) + 1).toNat = (a).length + 1 := by omega
    rw [hm, ← pz_zero ((a).length + 1) (val a + val b)]
    refine loop_ (α := Nat) (fun k => ([(0, .p (Li a)), (1, .p (Li b)), (5, .vec 18), (6, .p (U (cy (val a) (val b) k))), (20, .p (I (a).length)), (21, .p (I k))], [(18, .vi 57 .u32 (pz k ((a).length + 1) (val a + val b)))])) (fun k => k ≤ (a).length) (fun k => (a).length - k) 0 (Nat.zero_le _) ?_ ?_ ?_
    · rw [cy_zero]; (repeat (first | exact sub_nil | refine sub_cons rfl ?_))
    · (repeat (first | exact subH_nil | refine subH_cons rfl ?_))
    intro k hk
    have hl : (pz k ((a).length + 1) (val a + val b)).length = (a).length + 1 := pz_length (by omega)
    by_cases hlt : k < (a).length
    · repeat (first | refine seq_ ?_ | refine region_ ?_ | refine nil_ ?_ | refine skip_ ?_ | refine block_ ?_ | refine cond_t rfl ?_ | refine stepY (y_move rfl) rfl ?_ | refine stepY (y_assign rfl) rfl ?_ | refine stepY (y_cmpT rfl rfl rfl (by omega)) rfl ?_)
      refine draw_ [(0, true), (1, true), (2, true), (3, true), (4, true), (5, true), (6, true), (7, true), (9, true), (8, false), (10, false), (11, true), (12, true), (13, true), (14, true), (15, false), (16, true)] 1000 [] mixed (by kernel_rfl) rfl ?_
      ((refine dY rfl (y_move rfl) rfl rfl rfl rfl ?_); refine dY rfl (y_move rfl) rfl rfl rfl rfl ?_; refine dY rfl (y_move rfl) rfl rfl rfl rfl ?_; refine dY rfl (y_move rfl) rfl rfl rfl rfl ?_; refine dY rfl (y_index_si rfl rfl (by omega) (by omega)) rfl rfl rfl rfl ?_; refine dY rfl (y_load_rc1 rfl rfl) rfl rfl rfl rfl ?_; refine dY rfl (y_move rfl) rfl rfl rfl rfl ?_; refine dY rfl (y_move rfl) rfl rfl rfl rfl ?_; refine dY rfl (y_move rfl) rfl rfl rfl rfl ?_)
      refine dC rfl Try.func87 rfl rfl (limb_c b k (by omega)) rfl (by repeat (first | exact .refl _ | apply Les.cons | exact .nil)) rfl rfl ?_
      skip
      rw [rd_dgk ha k, rd_dgk hb k]
      refine dC rfl Try.func86 rfl rfl (add_c (val a) (val b) k) rfl (by repeat (first | exact .refl _ | apply Les.cons | exact .nil)) rfl rfl ?_
      ((refine dY rfl (y_move rfl) rfl rfl rfl rfl ?_); refine dY rfl (y_extract rfl rfl) rfl rfl rfl rfl ?_; refine dY rfl (y_extract rfl rfl) rfl rfl rfl rfl ?_; refine dY rfl (y_index_vi rfl rfl rfl (by omega) (by omega)) rfl rfl rfl rfl ?_; (refine dE rfl (e_store_vi rfl rfl rfl (by omega) (by omega)) rfl rfl ?_); refine dY rfl (y_assign rfl) rfl rfl rfl rfl ?_; refine dEnd ?_)
      repeat (first | refine region_ ?_ | refine nil_ ?_ | refine stepY (y_move rfl) rfl ?_ | refine stepY (y_binn rfl rfl rfl (by simp only [InK, loK, hiK]; omega)) rfl ?_)
      rw [Int.toNat_natCast, pz_set (by omega)]
      refine ⟨k + 1, by omega, by omega, ?_, ?_⟩ <;> (repeat (first | exact sub_nil | exact subH_nil | refine sub_cons rfl ?_ | refine subH_cons rfl ?_))
    · obtain rfl : k = (a).length := by omega
      repeat (first | refine seq_ ?_ | refine region_ ?_ | refine nil_ ?_ | refine exit_ ?_ | refine ret_ ?_ | refine cond_f rfl ?_ | refine stepY (y_move rfl) rfl ?_ | refine stepY (y_assign rfl) rfl ?_ | refine stepY (y_len_si rfl) rfl ?_ | refine stepY (y_index_vi rfl rfl rfl (by omega) (by omega)) rfl ?_ | refine stepY (y_cmpF rfl rfl rfl (by omega)) rfl ?_ | refine stepE (e_store_vi rfl rfl rfl (by omega) (by omega)) ?_)
      rw [cy_top (val_lt ha) (Nat.lt_of_lt_of_le (val_lt hb) (Nat.pow_le_pow_right B_pos (show (b).length ≤ (a).length by omega))), Int.toNat_natCast, pz_set (by omega), pz_full]
      ((apply fin_r); (repeat (first | exact .nil | exact .vi rfl rfl rfl | apply ResL.cons)); (repeat (exact .refl _)))
end Go.Av

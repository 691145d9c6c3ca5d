import Derived.Test.YtckngipgcnhfpaaL6
set_option maxHeartbeats 4000000
set_option maxRecDepth 100000
set_option linter.unusedVariables false
set_option linter.unusedSimpArgs false
namespace Go.Av
open Go Go.Proofs

/-- the borrow of a difference that may be too large -/
theorem bw_up {W p j n : Nat} (h : j ≤ n) : bw (W + B ^ n) p j = bw W p j := by
  unfold bw
  obtain ⟨d, rfl⟩ : ∃ d, n = j + d := ⟨n - j, by omega⟩
  rw [Nat.pow_add, Nat.add_mul_mod_self_left]
theorem dg_up {W j n : Nat} (h : j < n) : dg (W + B ^ n) j = dg W j := by
  unfold dg
  obtain ⟨d, rfl⟩ : ∃ d, n = j + (d + 1) := ⟨n - j - 1, by omega⟩
  rw [Nat.pow_add, Nat.add_mul_div_left _ _ (Bp_pos j), Nat.pow_succ, Nat.add_mul_mod_self_right]

/-! limbs.subtract -/
theorem subtract_w (b : List Int) (hb : wf b) (m lo i n W q : Nat) (hm : m < 4294967296) (hin : i + n ≤ m) (hlo : lo < B ^ i) (hW : W < B ^ n) (hq : q < B) (hqV : q * val b < B ^ n) :
    ConW Try.prog 83 (.vw 1000000 i n) [Li b, UU q] 57 .u32 (padd m (lo + B ^ i * W)) (padd m (lo + B ^ i * win W (val b) n q)) (Bo (decide (W < q * val b))) := by
  refine conW_of Try.func83 rfl rfl rfl rfl rfl rfl rfl ?_
  have hle : q * val b ≤ W + B ^ n := by omega
  repeat (first | refine seq_ ?_ | refine region_ ?_ | refine nil_ ?_ | refine block_ ?_ | refine stepY (y_move rfl) rfl ?_ | refine stepY (y_assign rfl) rfl ?_ | refine stepY (y_len_vw rfl) rfl ?_)
  refine loop_ (α := Nat) (fun j => ([(0, .vw 1000000 i n), (1, .p (Li b)), (2, .p (UU q)), (7, .p (UU (mc q (val b) j))), (8, .p (U (bw W (q * val b) j))), (11, .p (I n)), (12, .p (I j))], [(1000000, .vi 57 .u32 (padd m (lo + B ^ i * mix (W + B ^ n - q * val b) W j)))])) (fun j => j ≤ n) (fun j => n - j) 0 (Nat.zero_le _) ?_ ?_ ?_
  · rw [mc_zero, bw_zero]; (repeat (first | exact sub_nil | refine sub_cons rfl ?_))
  · rw [mix_zero]; (repeat (first | exact subH_nil | refine subH_cons rfl ?_))
  intro j hj
  have hl : (padd m (lo + B ^ i * mix (W + B ^ n - q * val b) W j)).length = m := padd_length _ _
  by_cases hlt : j < n
  · have h0 := rd_dgk hb j
    have b0 := dg_bd (val b) j
    have hs := mc_step q (val b) j
    have hmc := mc_lt (v := val b) (j := j) hq
    have hmc' := mc_lt (v := val b) (j := j + 1) hq
    have hdg := dg_lt (q * val b) j
    have hq' := hq
    have hp : q * dg (val b) j ≤ 4294967295 * 4294967295 := Nat.mul_le_mul (by unfold B at hq; omega) (by omega)
    have ro : rd (padd m (lo + B ^ i * mix (W + B ^ n - q * val b) W j)) ((i : Int) + j) = (dg W j : Int) := by
      have := rd_padd (k := m) (n := lo + B ^ i * mix (W + B ^ n - q * val b) W j) (i := ((i : Int) + j)) (by omega) (by omega)
      rw [show ((i : Int) + j).toNat = i + j by omega, dg_hi hlo, dg_mix, if_neg (Nat.lt_irrefl j)] at this
      unfold rd
      rw [show ((i : Int) + j).toNat = i + j by omega]
      exact this
    have hc := sub_c (a := W + B ^ n) (b := q * val b) hle j
    rw [dg_up hlt, bw_up (by omega), bw_up (by omega)] at hc
    have e0 : (q : Int) * dg (val b) j = ((q * dg (val b) j : Nat) : Int) := by simp
    generalize hP : q * dg (val b) j = p at *
    unfold B at hmc hmc' hdg hq hs
    repeat (first | refine seq_ ?_ | refine region_ ?_ | refine nil_ ?_ | refine skip_ ?_ | refine block_ ?_ | refine cond_t rfl ?_ | refine stepY (y_move rfl) rfl ?_ | refine stepY (y_assign rfl) rfl ?_ | refine stepY (y_cmpT rfl rfl rfl (by omega)) rfl ?_)
    refine call_ Try.func87 rfl rfl (limb_c b j (by omega)) rfl (by repeat (first | exact .refl _ | apply Les.cons | exact .nil)) rfl ?_
    rw [h0]
    repeat (first | refine seq_ ?_ | refine region_ ?_ | refine nil_ ?_ | refine stepY (y_move rfl) rfl ?_ | refine stepY (y_assign rfl) rfl ?_ | refine stepY (y_load_vi rfl rfl (by omega) (by omega)) rfl ?_ | (first | refine stepY (y_convn rfl (by simp only [InK, loK, hiK]; omega)) rfl ?_ | refine stepY (y_conv rfl) rfl ?_) | refine stepY (y_index_vw rfl rfl (by omega) (by omega)) rfl ?_ | refine stepY (y_binn rfl rfl rfl (by simp only [InK, loK, hiK]; omega)) rfl ?_ | refine stepY (y_binn rfl rfl rfl (by simp only [InK, loK, hiK]; omega)) rfl ?_)
    rw [ro, e0]
    rw [show (mc q (val b) j : Int) + (p : Int) = ((dg (q * val b) j + B * mc q (val b) (j + 1) : Nat) : Int) by unfold B; omega]
    have ew : IntKind.wrap .u32 ((dg (q * val b) j + B * mc q (val b) (j + 1) : Nat) : Int) = ((dg (q * val b) j : Nat) : Int) := by rw [wrap_u32]; unfold B; omega
    rw [ew]
    refine call_ Try.func88 rfl rfl hc rfl (by repeat (first | exact .refl _ | apply Les.cons | exact .nil)) rfl ?_
    repeat (first | refine region_ ?_ | refine nil_ ?_ | refine stepY (y_move rfl) rfl ?_ | refine stepY (y_assign rfl) rfl ?_ | refine stepY (y_extract rfl rfl) rfl ?_ | refine stepY (y_index_vw rfl rfl (by omega) (by omega)) rfl ?_ | refine stepY (y_binn rfl rfl rfl (by simp only [InK, loK, hiK]; omega)) rfl ?_ | refine stepY (y_shr32 rfl rfl (by decide)) rfl ?_ | refine stepE (e_store_vi rfl rfl rfl (by omega) (by omega)) ?_)
    rw [show ((i : Int) + j).toNat = i + j by omega, mix_set hlo, show ((dg (q * val b) j + B * mc q (val b) (j + 1) : Nat) : Int) / 4294967296 = ((mc q (val b) (j + 1) : Nat) : Int) by unfold B; omega]
    refine ⟨j + 1, by omega, by omega, ?_, ?_⟩ <;> (repeat (first | exact sub_nil | exact subH_nil | refine sub_cons rfl ?_ | refine subH_cons rfl ?_))
  · obtain rfl : j = n := by omega
    have hbw : bw W (q * val b) j = if W < q * val b then 1 else 0 := by unfold bw; rw [Nat.mod_eq_of_lt hW, Nat.mod_eq_of_lt hqV]
    rw [mix_full hW, hbw]
    by_cases hlt' : W < q * val b
    · rw [if_pos hlt', show decide (W < q * val b) = true from decide_eq_true hlt']
      repeat (first | refine seq_ ?_ | refine region_ ?_ | refine nil_ ?_ | refine exit_ ?_ | refine ret_ ?_ | refine cond_f rfl ?_ | refine stepY (y_move rfl) rfl ?_ | refine stepY (y_assign rfl) rfl ?_ | refine stepY (y_cmpT rfl rfl rfl (by omega)) rfl ?_ | refine stepY (y_cmpF rfl rfl rfl (by omega)) rfl ?_)
      refine ⟨?_, rfl⟩
      ((apply fin_r); (repeat (first | exact .nil | exact .tmp rfl | apply ResL.cons)); (repeat (exact .refl _)))
    · rw [if_neg hlt', show decide (W < q * val b) = false from decide_eq_false hlt']
      repeat (first | refine seq_ ?_ | refine region_ ?_ | refine nil_ ?_ | refine exit_ ?_ | refine ret_ ?_ | refine cond_f rfl ?_ | refine stepY (y_move rfl) rfl ?_ | refine stepY (y_assign rfl) rfl ?_ | refine stepY (y_cmpF rfl rfl rfl (by omega)) rfl ?_ | refine stepY (y_cmpF rfl rfl rfl (by omega)) rfl ?_)
      refine ⟨?_, rfl⟩
      ((apply fin_r); (repeat (first | exact .nil | exact .tmp rfl | apply ResL.cons)); (repeat (exact .refl _)))

/-! limbs.restore -/
theorem restore_w (b : List Int) (hb : wf b) (m lo i n W : Nat) (hm : m < 4294967296) (hin : i + n ≤ m) (hlo : lo < B ^ i) (hW : W < B ^ n) (hV : val b < B ^ n) :
    ConW Try.prog 84 (.vw 1000000 i n) [Li b] 57 .u32 (padd m (lo + B ^ i * W)) (padd m (lo + B ^ i * ((W + val b) % B ^ n))) (Bo (decide (B ^ n ≤ W + val b))) := by
  refine conW_of Try.func84 rfl rfl rfl rfl rfl rfl rfl ?_
  repeat (first | refine seq_ ?_ | refine region_ ?_ | refine nil_ ?_ | refine block_ ?_ | refine stepY (y_move rfl) rfl ?_ | refine stepY (y_assign rfl) rfl ?_ | refine stepY (y_len_vw rfl) rfl ?_)
  refine loop_ (α := Nat) (fun j => ([(0, .vw 1000000 i n), (1, .p (Li b)), (5, .p (U (cy W (val b) j))), (8, .p (I n)), (9, .p (I j))], [(1000000, .vi 57 .u32 (padd m (lo + B ^ i * mix (W + val b) W j)))])) (fun j => j ≤ n) (fun j => n - j) 0 (Nat.zero_le _) ?_ ?_ ?_
  · rw [cy_zero]; (repeat (first | exact sub_nil | refine sub_cons rfl ?_))
  · rw [mix_zero]; (repeat (first | exact subH_nil | refine subH_cons rfl ?_))
  intro j hj
  have hl : (padd m (lo + B ^ i * mix (W + val b) W j)).length = m := padd_length _ _
  by_cases hlt : j < n
  · have h0 := rd_dgk hb j
    have ro : rd (padd m (lo + B ^ i * mix (W + val b) W j)) ((i : Int) + j) = (dg W j : Int) := by
      have := rd_padd (k := m) (n := lo + B ^ i * mix (W + val b) W j) (i := ((i : Int) + j)) (by omega) (by omega)
      rw [show ((i : Int) + j).toNat = i + j by omega, dg_hi hlo, dg_mix, if_neg (Nat.lt_irrefl j)] at this
      unfold rd
      rw [show ((i : Int) + j).toNat = i + j by omega]
      exact this
    repeat (first | refine seq_ ?_ | refine region_ ?_ | refine nil_ ?_ | refine skip_ ?_ | refine block_ ?_ | refine cond_t rfl ?_ | refine stepY (y_move rfl) rfl ?_ | refine stepY (y_assign rfl) rfl ?_ | refine stepY (y_cmpT rfl rfl rfl (by omega)) rfl ?_)
    refine draw_ [(0, true), (1, true), (2, true), (3, true), (4, true), (5, true), (6, true), (7, true), (9, true), (8, false), (10, false), (11, true), (12, true), (13, true), (14, true), (15, false), (16, true)] 15 [1000000] mixed (by kernel_rfl) rfl ?_
    ((refine dY rfl (y_move rfl) rfl rfl rfl rfl ?_); refine dY rfl (y_move rfl) rfl rfl rfl rfl ?_; refine dY rfl (y_move rfl) rfl rfl rfl rfl ?_; refine dY rfl (y_move rfl) rfl rfl rfl rfl ?_; refine dY rfl (y_index_vw rfl rfl (by omega) (by omega)) rfl rfl rfl rfl ?_; refine dY rfl (y_load_vi rfl rfl (by omega) (by omega)) rfl rfl rfl rfl ?_; refine dY rfl (y_move rfl) rfl rfl rfl rfl ?_; refine dY rfl (y_move rfl) rfl rfl rfl rfl ?_; refine dY rfl (y_move rfl) rfl rfl rfl rfl ?_)
    refine dC rfl Try.func87 rfl rfl (limb_c b j (by omega)) rfl (by repeat (first | exact .refl _ | apply Les.cons | exact .nil)) rfl rfl ?_
    skip
    rw [ro, h0]
    refine dC rfl Try.func86 rfl rfl (add_c W (val b) j) rfl (by repeat (first | exact .refl _ | apply Les.cons | exact .nil)) rfl rfl ?_
    ((refine dY rfl (y_move rfl) rfl rfl rfl rfl ?_); refine dY rfl (y_extract rfl rfl) rfl rfl rfl rfl ?_; refine dY rfl (y_extract rfl rfl) rfl rfl rfl rfl ?_; refine dY rfl (y_index_vw rfl rfl (by omega) (by omega)) rfl rfl rfl rfl ?_; (refine dX rfl (e_store_vi rfl rfl rfl (by omega) (by omega)) rfl rfl ?_); refine dY rfl (y_assign rfl) rfl rfl rfl rfl ?_; refine dEnd ?_)
    repeat (first | refine region_ ?_ | refine nil_ ?_ | refine stepY (y_move rfl) rfl ?_ | refine stepY (y_binn rfl rfl rfl (by simp only [InK, loK, hiK]; omega)) rfl ?_)
    rw [show ((i : Int) + j).toNat = i + j by omega, mix_set hlo]
    refine ⟨j + 1, by omega, by omega, ?_, ?_⟩ <;> (repeat (first | exact sub_nil | exact subH_nil | refine sub_cons rfl ?_ | refine subH_cons rfl ?_))
  · obtain rfl : j = n := by omega
    have hcy : cy W (val b) j = if B ^ j ≤ W + val b then 1 else 0 := by
      unfold cy
      rw [Nat.mod_eq_of_lt hW, Nat.mod_eq_of_lt hV]
      split
      · rename_i h
        rw [Nat.div_eq_sub_div (Bp_pos j) h, Nat.div_eq_of_lt (by omega)]
      · rename_i h
        exact Nat.div_eq_of_lt (by omega)
    rw [mix_full hW, hcy]
    by_cases hlt' : B ^ j ≤ W + val b
    · rw [if_pos hlt', show decide (B ^ j ≤ W + val b) = true from decide_eq_true hlt']
      repeat (first | refine seq_ ?_ | refine region_ ?_ | refine nil_ ?_ | refine exit_ ?_ | refine ret_ ?_ | refine cond_f rfl ?_ | refine stepY (y_move rfl) rfl ?_ | refine stepY (y_assign rfl) rfl ?_ | refine stepY (y_cmpT rfl rfl rfl (by omega)) rfl ?_ | refine stepY (y_cmpF rfl rfl rfl (by omega)) rfl ?_)
      refine ⟨?_, rfl⟩
      ((apply fin_r); (repeat (first | exact .nil | exact .tmp rfl | apply ResL.cons)); (repeat (exact .refl _)))
    · rw [if_neg hlt', show decide (B ^ j ≤ W + val b) = false from decide_eq_false hlt']
      repeat (first | refine seq_ ?_ | refine region_ ?_ | refine nil_ ?_ | refine exit_ ?_ | refine ret_ ?_ | refine cond_f rfl ?_ | refine stepY (y_move rfl) rfl ?_ | refine stepY (y_assign rfl) rfl ?_ | refine stepY (y_cmpF rfl rfl rfl (by omega)) rfl ?_ | refine stepY (y_cmpF rfl rfl rfl (by omega)) rfl ?_)
      refine ⟨?_, rfl⟩
      ((apply fin_r); (repeat (first | exact .nil | exact .tmp rfl | apply ResL.cons)); (repeat (exact .refl _)))
end Go.Av

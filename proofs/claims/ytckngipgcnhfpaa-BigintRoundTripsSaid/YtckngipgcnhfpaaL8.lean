import Derived.Test.YtckngipgcnhfpaaL7
set_option maxHeartbeats 8000000
set_option maxRecDepth 100000
set_option linter.unusedVariables false
set_option linter.unusedSimpArgs false
namespace Go.Av
open Go Go.Proofs
theorem val_one (x : Nat) : val [(x : Int)] = x := by simp [val]
theorem limbs_one {x : Nat} (h0 : 0 < x) (h : x < 4294967296) : limbs x = [(x : Int)] := by
  have hw : wf [(x : Int)] := by intro y hy; simp at hy; omega
  have := limbs_val hw (.inr (by simp; omega))
  rwa [show val [(x : Int)] = x by simp [val]] at this

/-! limbs.Division -/
theorem Division_c (a b : Nat) (hb0 : 0 < b) (hla : ln a < 2147483648) : Con Try.prog 51 [M a, M b] (.tp [M (a / b), M (a % b)]) := by
  refine con_of Try.func51 rfl rfl rfl rfl rfl ?_
  have hlb0 := ln_pos.2 hb0
  have lla : ((limbs a).length : Int) = ln a := by rw [limbs_length]
  have llb : ((limbs b).length : Int) = ln b := by rw [limbs_length]
  by_cases hab : a < b
  · have hs : sg a b = -1 := sg_lt hab
    repeat (first | refine seq_ ?_ | refine region_ ?_ | refine nil_ ?_ | refine stepY (y_move rfl) rfl ?_ | refine stepY (y_assign rfl) rfl ?_)
    refine call_ Try.func62 rfl rfl (Compare_c a b) rfl (by repeat (first | exact .refl _ | apply Les.cons | exact .nil)) rfl ?_
    rw [hs]
    repeat (first | refine seq_ ?_ | refine region_ ?_ | refine nil_ ?_ | refine ret_ ?_ | refine cond_t rfl ?_ | refine stepY (y_move rfl) rfl ?_ | refine stepY (y_assign rfl) rfl ?_ | refine stepY (y_cmpT rfl rfl rfl (by omega)) rfl ?_)
    rw [Nat.div_eq_of_lt hab, Nat.mod_eq_of_lt hab]
    ((apply fin_r); (repeat (first | exact .nil | exact .tmp rfl | apply ResL.cons)); (repeat (first | exact .refl _ | exact .nil _ _ | apply Le.tp | apply Les.cons | exact .nil)))
  · have hs : sg a b = 0 ∨ sg a b = 1 := by unfold sg; rw [if_neg hab]; split <;> simp
    have hle := ln_mono (show b ≤ a by omega)
    by_cases h1 : ln b = 1
    · have hbB : b < B := by have := lt_ln b; rwa [h1, Nat.pow_one] at this
      have hr : rd (limbs b) 0 = (b : Int) := by
        have := rd_limbs b (i := 0) (by omega)
        rw [this]; unfold dg; simp [Nat.mod_eq_of_lt hbB]
      have hd := Divided_c (limbs a) b (wf_limbs a) (by rw [limbs_length]; omega) hb0 hbB
      rw [val_limbs] at hd
      have hm := Nat.mod_lt a hb0
      have ht := Trim_c [((a % b : Nat) : Int)] (by intro y hy; simp only [List.mem_singleton] at hy; subst hy; unfold B at hbB; omega)
      rw [val_one] at ht
      repeat (first | refine seq_ ?_ | refine region_ ?_ | refine nil_ ?_ | refine stepY (y_move rfl) rfl ?_ | refine stepY (y_assign rfl) rfl ?_)
      refine call_ Try.func62 rfl rfl (Compare_c a b) rfl (by repeat (first | exact .refl _ | apply Les.cons | exact .nil)) rfl ?_
      repeat (first | refine seq_ ?_ | refine region_ ?_ | refine nil_ ?_ | refine skip_ ?_ | refine cond_t rfl ?_ | refine cond_f rfl ?_ | refine stepY (y_move rfl) rfl ?_ | refine stepY (y_load_rc1 rfl rfl) rfl ?_ | refine stepY (y_len_si rfl) rfl ?_ | refine stepY (y_index_si rfl rfl (by omega) (by omega)) rfl ?_ | refine stepY (y_cmpT rfl rfl rfl (by omega)) rfl ?_ | refine stepY (y_cmpF rfl rfl rfl (by omega)) rfl ?_)
      rw [hr]
      refine call_ Try.func78 rfl rfl hd rfl (by repeat (first | exact .refl _ | apply Les.cons | exact .nil)) rfl ?_
      repeat (first | refine seq_ ?_ | refine region_ ?_ | refine nil_ ?_ | refine stepY (y_move rfl) rfl ?_ | refine stepY (y_assign rfl) rfl ?_ | refine stepY (y_extract rfl rfl) rfl ?_ | refine stepE (e_bs_vi (k := .u32) rfl rfl rfl rfl rfl) ?_)
      refine seal_L (i := 35) (h := 35) rfl rfl rfl rfl ?_
      refine call_ Try.func79 rfl rfl ht rfl (by repeat (first | exact .tag _ _ | apply Les.cons | exact .nil)) rfl ?_
      repeat (first | refine nil_ ?_ | refine ret_ ?_ | refine stepY (y_assign rfl) rfl ?_)
      ((apply fin_r); (repeat (first | exact .nil | exact .tmp rfl | apply ResL.cons)); (repeat (exact .refl _)))
    · obtain ⟨k, hk⟩ : ∃ k, ln b = k + 2 := ⟨ln b - 2, by omega⟩
      obtain ⟨m, hm⟩ : ∃ m, ln a = m + (k + 1) := ⟨ln a - (k + 1), by omega⟩
      obtain ⟨hn1, hn2, hn3⟩ := norm_ok hb0
      have htop : rd (limbs b) ((limbs b).length - 1 : Int) = ((dg b (ln b - 1) : Nat) : Int) := by
        rw [llb, show ((ln b : Int) - 1) = ((ln b - 1 : Nat) : Int) by omega, rd_limbs b (by omega), Int.toNat_natCast]
      have htp := top_ne hb0
      have htl := dg_lt b (ln b - 1)
      have hlz := LeadingZeros32_c (dg b (ln b - 1)) (by omega) htl
      have hlz' := lz_le (dg b (ln b - 1))
      generalize lz (dg b (ln b - 1)) = n at *
      have hsa := shifted_r (limbs a) n (wf_limbs a) (by rw [limbs_length]; omega) hlz'
      have hsb := (shifted_r (limbs b) n (wf_limbs b) (by rw [limbs_length]; omega) hlz').con
      rw [val_limbs, limbs_length] at hsa hsb
      have htv := Trim_c (padd (ln b + 1) (b * 2 ^ n)) (wf_padd _ _)
      rw [val_padd, Nat.mod_eq_of_lt (Nat.lt_of_lt_of_le hn2 (Nat.pow_le_pow_right B_pos (by omega)))] at htv
      have hA := first_lt (a := a) (b := b) (n := n) (k := k + 1) (lt_ln a) hlz' (by rw [hk] at hn1; exact hn1) (by omega)
      rw [show ln a - (k + 1) = m by omega] at hA
      have hdivA : a * 2 ^ n / (b * 2 ^ n) = a / b := Nat.mul_div_mul_right _ _ (Nat.pow_pos (by decide))
      have hmodA : a * 2 ^ n % (b * 2 ^ n) = a % b * 2 ^ n := Nat.mul_mod_mul_right _ _ _
      generalize hV : b * 2 ^ n = V at *
      generalize hAA : a * 2 ^ n = A at *
      rw [hk] at hn2 hn3 hn1
      have hdV : 0 < dg V (k + 1) := by have := top_ne (n := V) (ln_pos.1 (by omega)); rw [hn3] at this; exact Nat.pos_of_ne_zero this
      have hV0 : 0 < V := ln_pos.1 (by omega)
      have llV : ((limbs V).length : Int) = k + 2 := by rw [limbs_length, hn3]; omega
      have llu : ((padd (ln a + 1) A).length : Int) = m + k + 2 := by rw [padd_length]; omega
      repeat (first | refine seq_ ?_ | refine region_ ?_ | refine nil_ ?_ | refine stepY (y_move rfl) rfl ?_ | refine stepY (y_assign rfl) rfl ?_)
      refine call_ Try.func62 rfl rfl (Compare_c a b) rfl (by repeat (first | exact .refl _ | apply Les.cons | exact .nil)) rfl ?_
      repeat (first | refine seq_ ?_ | refine region_ ?_ | refine nil_ ?_ | refine skip_ ?_ | refine cond_f rfl ?_ | refine stepY (y_move rfl) rfl ?_ | refine stepY (y_load_rc1 rfl rfl) rfl ?_ | refine stepY (y_len_si rfl) rfl ?_ | refine stepY (y_index_si rfl rfl (by omega) (by omega)) rfl ?_ | refine stepY (y_binn rfl rfl rfl (by simp only [InK, loK, hiK]; omega)) rfl ?_ | refine stepY (y_cmpF rfl rfl rfl (by omega)) rfl ?_ | refine stepY (y_cmpF rfl rfl rfl (by omega)) rfl ?_)
      rw [htop]
      refine call_ Try.func80 rfl rfl hlz rfl (by repeat (first | exact .refl _ | apply Les.cons | exact .nil)) rfl ?_
      repeat (first | refine seq_ ?_ | refine region_ ?_ | refine nil_ ?_ | refine stepY (y_move rfl) rfl ?_ | refine stepY (y_assign rfl) rfl ?_)
      refine callR_ Try.func81 rfl rfl hsa rfl (by repeat (first | exact .refl _ | apply Les.cons | exact .nil)) rfl rfl ?_
      repeat (refine stepY (y_move rfl) rfl ?_)
      refine call_ Try.func81 rfl rfl hsb rfl (by repeat (first | exact .refl _ | apply Les.cons | exact .nil)) rfl ?_
      refine call_ Try.func79 rfl rfl htv rfl (by repeat (first | exact .tag _ _ | apply Les.cons | exact .nil)) rfl ?_
      repeat (first | refine seq_ ?_ | refine region_ ?_ | refine nil_ ?_ | refine stepY (y_move rfl) rfl ?_ | refine stepY (y_assign rfl) rfl ?_ | (first | refine stepY (y_len_si rfl) rfl ?_ | refine stepY (y_len_vi rfl rfl) rfl ?_) | refine stepY (y_binn rfl rfl rfl (by simp only [InK, loK, hiK]; omega)) rfl ?_)
      refine stepE (e_make rfl rfl (by omega) (by omega) rfl rfl) ?_
      repeat (first | refine seq_ ?_ | refine region_ ?_ | refine nil_ ?_ | refine block_ ?_ | refine stepY (y_move rfl) rfl ?_ | refine stepY (y_assign rfl) rfl ?_ | refine stepY (y_len_vi rfl rfl) rfl ?_ | refine stepY (y_binn rfl rfl rfl (by simp only [InK, loK, hiK]; omega)) rfl ?_)
      rw [show (((padd (ln a + 1) A).length : Int) - ((limbs V).length : Int)).toNat = m by omega, ← dz_full m (A / V), llV, llu]
      refine loop_ (α := Nat) (fun j => ([(8, .p (I n)), (9, .vec 46), (10, .p (M V)), (11, .p (I (k + 2))), (12, .vec 57), (13, .p (I ((j : Int) - 1)))], [(46, .vi 57 .u32 (padd (ln a + 1) (A % (V * B ^ j)))), (57, .vi 57 .u32 (dz j m (A / V)))])) (fun j => j ≤ m) id m (Nat.le_refl _) ?_ ?_ ?_
      · (repeat (first | exact sub_nil | refine sub_cons rfl ?_ | refine sub_conse rfl (by (congr 3; omega)) ?_))
      · rw [Nat.mod_eq_of_lt hA]; (repeat (first | exact subH_nil | refine subH_cons rfl ?_))
      intro j hj
      by_cases h0 : j = 0
      · subst h0
        repeat (first | refine seq_ ?_ | refine region_ ?_ | refine nil_ ?_ | refine exit_ ?_ | refine cond_f rfl ?_ | refine stepY (y_move rfl) rfl ?_ | refine stepY (y_cmpF rfl rfl rfl (by omega)) rfl ?_)
        refine seal_C (i := 12) (h := 57) rfl rfl rfl rfl ?_
        refine seal_C (i := 9) (h := 46) rfl rfl rfl rfl ?_
        have hq := Trim_c (padd m (A / V)) (wf_padd _ _)
        rw [val_padd, Nat.mod_eq_of_lt (by rw [Nat.div_lt_iff_lt_mul hV0, Nat.mul_comm]; exact hA), hdivA] at hq
        have hlu : ((padd (ln a + 1) (A % (V * B ^ 0))).length : Int) = m + k + 2 := by rw [padd_length]; omega
        have hlow := lowered_c (padd (k + 2) (A % V)) n (wf_padd _ _) (by rw [padd_length]; omega) hlz'
        rw [val_padd, Nat.mod_eq_of_lt (Nat.lt_trans (Nat.mod_lt _ hV0) hn2), hmodA, Nat.mul_div_cancel _ (Nat.pow_pos (by decide))] at hlow
        rw [dz_zero, hdivA]
        refine draw_ [(0, true), (2, true), (3, true), (4, true), (5, true), (1, false), (6, false), (7, true), (8, true)] 1000 [] mixed (by kernel_rfl) rfl ?_
        ((refine dY rfl (y_move rfl) rfl rfl rfl rfl ?_); refine dY rfl (y_move rfl) rfl rfl rfl rfl ?_; refine dY rfl (y_move rfl) rfl rfl rfl rfl ?_; refine dY rfl (y_slice_si_h rfl rfl (by omega) (by omega)) rfl rfl rfl rfl ?_; refine dY rfl (y_move rfl) rfl rfl rfl rfl ?_)
        refine dC rfl Try.func79 rfl rfl hq rfl (by repeat (first | exact .tag _ _ | apply Les.cons | exact .nil)) rfl rfl ?_
        skip
        rw [show ((k : Int) + 2).toNat = k + 2 by omega, padd_take (by omega), Nat.pow_zero, Nat.mul_one, hmodA]
        refine dC rfl Try.func85 rfl rfl hlow rfl (by repeat (first | exact .refl _ | exact .tag _ _ | apply Les.cons | exact .nil)) rfl rfl ?_
        ((refine dY rfl (y_assign rfl) rfl rfl rfl rfl ?_); refine dY rfl (y_assign rfl) rfl rfl rfl rfl ?_; refine dEnd ?_)
        repeat (refine ret_ ?_)
        ((apply fin_r); (repeat (first | exact .nil | exact .tmp rfl | apply ResL.cons)); (repeat (exact .refl _)))
      · obtain ⟨i, rfl⟩ : ∃ i, j = i + 1 := ⟨j - 1, by omega⟩
        have hD := DS.of (A := A) (i := i) hn2 hV0
        have hWV : A % (V * B ^ (i + 1)) / B ^ i < V * B := by
          rw [Nat.div_lt_iff_lt_mul (Bp_pos i), Nat.mul_assoc, ← Nat.pow_succ']
          exact Nat.mod_lt _ (Nat.mul_pos hV0 (Bp_pos _))
        generalize A % (V * B ^ (i + 1)) / B ^ i = W at *
        generalize A % (V * B ^ (i + 1)) % B ^ i = lo at *
        rw [hD.hu, show (((i + 1 : Nat) : Int) - 1) = (i : Int) by omega]
        have hlo := hD.hlo
        have hW := hD.hw
        have hqV := hD.qv
        have hg := guess_ok hn2 hdV hWV hW hD.hq
        have hlu : ((padd (ln a + 1) (lo + B ^ i * W)).length : Int) = m + k + 2 := by rw [padd_length]; omega
        have hlo2 : (dz (i + 1) m (A / V)).length = m := dz_length (by omega)
        have rdu : ∀ t : Nat, t < k + 3 → rd (padd (ln a + 1) (lo + B ^ i * W)) ((i : Int) + t) = ((dg W t : Nat) : Int) := by
          intro t ht
          have := rd_padd (k := ln a + 1) (n := lo + B ^ i * W) (i := ((i : Int) + t)) (by omega) (by omega)
          rw [show ((i : Int) + t).toNat = i + t by omega, dg_hi hlo] at this
          unfold rd
          rw [show ((i : Int) + t).toNat = i + t by omega]
          exact this
        have rdv : ∀ t : Nat, rd (limbs V) (t : Int) = ((dg V t : Nat) : Int) := fun t => by rw [rd_limbs V (by omega), Int.toNat_natCast]
        have hgc := guess_c (dg W (k + 2)) (dg W (k + 1)) (dg W k) (dg V (k + 1)) (dg V k) (dg_lt _ _) (dg_lt _ _) (dg_lt _ _) (dg_lt _ _) (dg_lt _ _)
        generalize gs (dg W (k + 2)) (dg W (k + 1)) (dg W k) (dg V (k + 1)) (dg V k) = g at *
        have hsub := subtract_w (limbs V) (wf_limbs V) (ln a + 1) lo i (k + 3) W g (by omega) (by omega) hlo hW hg.2 (by rw [val_limbs]; exact Nat.lt_of_le_of_lt (Nat.mul_le_mul_right _ (by omega)) hqV)
        rw [val_limbs] at hsub
        repeat (first | refine seq_ ?_ | refine region_ ?_ | refine nil_ ?_ | refine skip_ ?_ | refine block_ ?_ | refine cond_t rfl ?_ | refine stepY (y_move rfl) rfl ?_ | refine stepY (y_assign rfl) rfl ?_ | refine stepY (y_slice_vi rfl rfl rfl rfl (by omega) (by omega) (by omega)) rfl ?_ | refine stepY (y_binn rfl rfl rfl (by simp only [InK, loK, hiK]; omega)) rfl ?_ | refine stepY (y_cmpT rfl rfl rfl (by omega)) rfl ?_)
        rw [Int.toNat_natCast, show ((i : Int) + (k + 2) + 1 - i).toNat = k + 3 by omega]
        refine draw_ [(0, true), (1, true), (2, true), (3, true), (4, true), (5, true), (6, true), (7, true), (8, true), (9, true), (10, true), (11, true), (12, true), (13, true), (14, true), (15, true), (16, true), (17, true), (18, true), (19, true), (20, true), (21, true), (22, true), (23, true), (24, false), (25, true)] 1000 [46] mixed (by kernel_rfl) rfl ?_
        ((refine dY rfl (y_move rfl) rfl rfl rfl rfl ?_); refine dY rfl (y_move rfl) rfl rfl rfl rfl ?_; refine dY rfl (y_index_vw rfl rfl (by omega) (by omega)) rfl rfl rfl rfl ?_; refine dY rfl (y_load_vi rfl rfl (by omega) (by omega)) rfl rfl rfl rfl ?_; refine dY rfl (y_move rfl) rfl rfl rfl rfl ?_; refine dY rfl (y_move rfl) rfl rfl rfl rfl ?_; refine dY rfl (y_binn rfl rfl rfl (by simp only [InK, loK, hiK]; omega)) rfl rfl rfl rfl ?_; refine dY rfl (y_index_vw rfl rfl (by omega) (by omega)) rfl rfl rfl rfl ?_; refine dY rfl (y_load_vi rfl rfl (by omega) (by omega)) rfl rfl rfl rfl ?_; refine dY rfl (y_move rfl) rfl rfl rfl rfl ?_; refine dY rfl (y_move rfl) rfl rfl rfl rfl ?_; refine dY rfl (y_binn rfl rfl rfl (by simp only [InK, loK, hiK]; omega)) rfl rfl rfl rfl ?_; refine dY rfl (y_index_vw rfl rfl (by omega) (by omega)) rfl rfl rfl rfl ?_; refine dY rfl (y_load_vi rfl rfl (by omega) (by omega)) rfl rfl rfl rfl ?_; refine dY rfl (y_move rfl) rfl rfl rfl rfl ?_; refine dY rfl (y_move rfl) rfl rfl rfl rfl ?_; refine dY rfl (y_binn rfl rfl rfl (by simp only [InK, loK, hiK]; omega)) rfl rfl rfl rfl ?_; refine dY rfl (y_index_si rfl rfl (by omega) (by omega)) rfl rfl rfl rfl ?_; refine dY rfl (y_load_rc1 rfl rfl) rfl rfl rfl rfl ?_; refine dY rfl (y_move rfl) rfl rfl rfl rfl ?_; refine dY rfl (y_move rfl) rfl rfl rfl rfl ?_; refine dY rfl (y_binn rfl rfl rfl (by simp only [InK, loK, hiK]; omega)) rfl rfl rfl rfl ?_; refine dY rfl (y_index_si rfl rfl (by omega) (by omega)) rfl rfl rfl rfl ?_; refine dY rfl (y_load_rc1 rfl rfl) rfl rfl rfl rfl ?_)
        rw [show ((i : Int) + (k + 2)) = ((i : Int) + ((k + 2 : Nat) : Int)) by omega, show ((i : Int) + (k + 2 - 1)) = ((i : Int) + ((k + 1 : Nat) : Int)) by omega, show ((i : Int) + (k + 2 - 2)) = ((i : Int) + ((k : Nat) : Int)) by omega, rdu _ (by omega), rdu _ (by omega), rdu _ (by omega), show ((k : Int) + 2 - 1) = ((k + 1 : Nat) : Int) by omega, show ((k : Int) + 2 - 2) = (k : Int) by omega, rdv, rdv]
        refine dC rfl Try.func82 rfl rfl hgc rfl (by repeat (first | exact .refl _ | apply Les.cons | exact .nil)) rfl rfl ?_
        ((refine dY rfl (y_assign rfl) rfl rfl rfl rfl ?_); refine dEnd ?_)
        repeat (first | refine seq_ ?_ | refine region_ ?_ | refine stepY (y_move rfl) rfl ?_)
        refine callW_ Try.func83 rfl rfl hsub rfl rfl rfl (by repeat (first | exact .refl _ | apply Les.cons | exact .nil)) rfl ?_
        repeat (first | refine nil_ ?_ | refine block_ ?_ | refine stepY (y_assign rfl) rfl ?_)
        refine loop_ (α := Nat) (fun x => ([(8, .p (I n)), (9, .vec 46), (10, .p (M V)), (11, .p (I (k + 2))), (12, .vec 57), (13, .p (I i)), (14, .vw 46 i (k + 3)), (15, .p (UU x)), (16, .p (Bo (decide (W < x * V))))], [(46, .vi 57 .u32 (padd (ln a + 1) (lo + B ^ i * win W V (k + 3) x))), (57, .vi 57 .u32 (dz (i + 1) m (A / V)))])) (fun x => W / V ≤ x ∧ x < B) id g hg ?_ ?_ ?_
        · (repeat (first | exact sub_nil | refine sub_cons rfl ?_))
        · (repeat (first | exact subH_nil | refine subH_cons rfl ?_))
        intro x ⟨hx1, hx2⟩
        by_cases hov : W < x * V
        · rw [show decide (W < x * V) = true from decide_eq_true hov]
          have hx0 : x ≠ 0 := by intro e; subst e; simp at hov
          obtain ⟨x', rfl⟩ : ∃ x', x = x' + 1 := ⟨x - 1, by omega⟩
          have hx3 : W / V ≤ x' := by
            rcases Nat.lt_or_ge x' (W / V) with h | h
            · exfalso
              have h2 : (x' + 1) * V ≤ W / V * V := Nat.mul_le_mul_right _ h
              have h3 := Nat.div_mul_le_self W V
              omega
            · exact h
          have hxV : (x' + 1) * V ≤ W + B ^ (k + 3) := by
            have : (x' + 1) * V ≤ (B - 1) * V := Nat.mul_le_mul_right _ (by omega)
            have h5 : B ^ (k + 2 + 1) = B ^ (k + 3) := rfl
            omega
          obtain ⟨hw1, hw2⟩ := win_back hov hxV hW
          have hres := restore_w (limbs V) (wf_limbs V) (ln a + 1) lo i (k + 3) (win W V (k + 3) (x' + 1)) (by omega) (by omega) hlo (win_lt _ _ _ _) (by rw [val_limbs]; exact Nat.lt_trans hn2 (Nat.pow_lt_pow_right (by decide) (by omega)))
          have hdec : decide (B ^ (k + 3) ≤ win W V (k + 3) (x' + 1) + V) = !decide (W < x' * V) := by rw [Bool.eq_iff_iff, decide_eq_true_iff, hw2]; simp
          rw [val_limbs, hw1, hdec] at hres
          unfold B at hx2
          repeat (first | refine seq_ ?_ | refine region_ ?_ | refine nil_ ?_ | refine skip_ ?_ | refine block_ ?_ | refine cond_t rfl ?_ | refine stepY (y_move rfl) rfl ?_ | refine stepY (y_assign rfl) rfl ?_ | refine stepY (y_binn rfl rfl rfl (by simp only [InK, loK, hiK]; omega)) rfl ?_)
          refine callW_ Try.func84 rfl rfl hres rfl rfl rfl (by repeat (first | exact .refl _ | apply Les.cons | exact .nil)) rfl ?_
          repeat (first | refine nil_ ?_ | refine stepY (y_assign rfl) rfl ?_ | refine stepY (y_not rfl) rfl ?_)
          rw [Bool.not_not]
          refine ⟨x', ⟨hx3, by unfold B; omega⟩, Nat.lt_succ_self x', ?_, ?_⟩ <;> (repeat (first | exact sub_nil | exact subH_nil | refine sub_cons rfl ?_ | refine subH_cons rfl ?_ | refine sub_conse rfl (by (congr 3; omega)) ?_))
        · rw [show decide (W < x * V) = false from decide_eq_false hov]
          have hxe : x = W / V := by
            refine Nat.le_antisymm ?_ hx1
            rw [Nat.le_div_iff_mul_le hV0]; omega
          subst hxe
          have hwe : win W V (k + 3) (W / V) = W % V := win_end hW
          rw [hwe]
          have hq := hD.hq
          have hdq := hD.dq
          have hnx := hD.nx
          unfold B at hq
          generalize W / V = qq at *
          repeat (first | refine seq_ ?_ | refine region_ ?_ | refine nil_ ?_ | refine exit_ ?_ | refine cond_f rfl ?_ | refine stepY (y_move rfl) rfl ?_ | refine stepY (y_assign rfl) rfl ?_ | refine stepY (y_convn rfl (by simp only [InK, loK, hiK]; omega)) rfl ?_ | refine stepY (y_index_vi rfl rfl rfl (by omega) (by omega)) rfl ?_ | refine stepY (y_binn rfl rfl rfl (by simp only [InK, loK, hiK]; omega)) rfl ?_ | refine stepE (e_store_vi rfl rfl rfl (by omega) (by omega)) ?_)
          rw [Int.toNat_natCast, ← hdq, dz_set (by omega)]
          refine ⟨i, by omega, Nat.lt_succ_self i, ?_, ?_⟩
          · (repeat (first | exact sub_nil | refine sub_cons rfl ?_))
          · rw [hnx]; (repeat (first | exact subH_nil | refine subH_cons rfl ?_))
end Go.Av

/- Contracts behind a law: no conditions beyond those in each statement. -/
import Derived.Test.YtnkkkeohhgbhnaaGreatHs
set_option maxHeartbeats 8000000
set_option exponentiation.threshold 100000
set_option maxRecDepth 100000
set_option linter.unusedVariables false
set_option linter.unusedSimpArgs false
namespace Go.Av
open Go Go.Proofs

open Go.RowKit
theorem tmod_bd (t : Int) {n : Int} (hn : 0 < n) : -n < t.tmod n ∧ t.tmod n < n := by
  have h1 := Int.tmod_lt_of_pos t hn
  have h2 := tmod_lt (a := t) (b := n) (by omega)
  omega
theorem GInsides_h (h9 : Con Tryz.prog 5 [] (Bo true)) (l : List Pt) (p : Pt) (t : Int) : Con Tryz.prog 3 [.ss false 2 (pts l), pt p, I t] (Bo true) := by
  refine con_of Tryz.func3 rfl rfl rfl (by simp [noTs, noT, noT_pts]) rfl ?_
  by_cases hl : 80 < l.length
  · repeat (first | refine seq_ ?_ | refine region_ ?_ | refine nil_ ?_ | refine cond_t rfl ?_ | refine stepY (y_move rfl) rfl ?_ | refine stepY (y_assign rfl) rfl ?_ | refine stepY (y_len_ps rfl) rfl ?_ | refine stepY (y_cmpT rfl rfl rfl (by omega)) rfl ?_ | refine stepE (e_box rfl rfl rfl rfl rfl rfl) ?_)
    refine call_ Tryz.func5 rfl rfl (h9) rfl (by repeat (exact .nil)) rfl ?_
    repeat (first | refine nil_ ?_ | refine ret_ ?_ | refine stepY (y_assign rfl) rfl ?_)
    ((apply fin_r); (repeat (first | exact .nil | exact .tmp rfl | apply ResL.cons)); (repeat (exact .refl _)))
  · have h1 := Inside_c l p
    have h2 := RInside_c l p
    have h3 := RHull_c l
    by_cases hc : (hlR l).2 = 0
    · have hg0 : 0 < (hlR l).1.length ∧ (hlR l).1.length ≤ l.length := by
        unfold hlR at hc ⊢
        by_cases c0 : chkR l = 0
        · rw [if_neg (not_not_intro c0)] at hc ⊢
          obtain ⟨hn, hall⟩ := chk_ok c0
          by_cases c1 : l.length = 0
          · rw [if_pos c1] at hc; cases hc
          · rw [if_neg c1]
            have hne : l ≠ [] := fun e => c1 (by rw [e]; rfl)
            exact ⟨(hull_head hne hall).1, hull_len hne hall⟩
        · rw [if_pos c0] at hc
          exact absurd hc c0
      rw [hc] at h3
      generalize (hlR l).1 = g at *
      obtain ⟨b1, b2⟩ := tmod_bd t (n := (g.length : Int)) (by omega)
      have hm0 : 0 ≤ (t.tmod (g.length : Int) + (g.length : Int)) % (g.length : Int) := Int.emod_nonneg _ (by omega)
      have hm1 : (t.tmod (g.length : Int) + (g.length : Int)) % (g.length : Int) < g.length := Int.emod_lt_of_pos _ (by omega)
      have h4 := Inside_c ([] ++ g.drop ((t.tmod (g.length : Int) + (g.length : Int)) % (g.length : Int)).toNat ++ g.take ((t.tmod (g.length : Int) + (g.length : Int)) % (g.length : Int)).toNat) p
      have h5 := RInside_c ([] ++ g.drop ((t.tmod (g.length : Int) + (g.length : Int)) % (g.length : Int)).toNat ++ g.take ((t.tmod (g.length : Int) + (g.length : Int)) % (g.length : Int)).toNat) p
      generalize insR l p = x at *
      generalize insR ([] ++ g.drop ((t.tmod (g.length : Int) + (g.length : Int)) % (g.length : Int)).toNat ++ g.take ((t.tmod (g.length : Int) + (g.length : Int)) % (g.length : Int)).toNat) p = y at *
      obtain ⟨xa, xe⟩ := x
      obtain ⟨ya, ye⟩ := y
      dsimp only at h1 h2 h4 h5
      cases xa <;> cases ya
      · repeat (first | refine seq_ ?_ | refine region_ ?_ | refine nil_ ?_ | refine skip_ ?_ | refine cond_f rfl ?_ | refine stepY (y_move rfl) rfl ?_ | refine stepY (y_assign rfl) rfl ?_ | refine stepY (y_loadA rfl rfl rfl) rfl ?_ | refine stepY (y_len_ps rfl) rfl ?_ | refine stepY (y_cmpF rfl rfl rfl (by omega)) rfl ?_ | refine stepE (e_box rfl rfl rfl rfl rfl rfl) ?_)
        refine call_ Tryz.func6 rfl rfl (h1) rfl (by repeat (first | exact .refl _ | apply Les.cons | exact .nil)) rfl ?_
        repeat (first | refine seq_ ?_ | refine region_ ?_ | refine nil_ ?_ | refine stepY (y_move rfl) rfl ?_ | refine stepY (y_assign rfl) rfl ?_ | refine stepY (y_loadA rfl rfl rfl) rfl ?_ | refine stepY (y_extract rfl rfl) rfl ?_)
        refine call_ Tryz.func7 rfl rfl (h2) rfl (by repeat (first | exact .refl _ | apply Les.cons | exact .nil)) rfl ?_
        repeat (first | refine seq_ ?_ | refine region_ ?_ | refine nil_ ?_ | refine skip_ ?_ | refine cond_f rfl ?_ | refine guard_t rfl rfl rfl ?_ | refine stepY (y_move rfl) rfl ?_ | refine stepY (y_assign rfl) rfl ?_ | refine stepY (y_extract rfl rfl) rfl ?_ | refine stepY (y_pick_f rfl rfl) rfl ?_ | (first | refine stepY (y_cmpF rfl rfl rfl (by omega)) rfl ?_ | refine stepY (y_neb rfl rfl) rfl ?_))
        refine call_ Tryz.func8 rfl rfl (h3) rfl (by repeat (first | exact .refl _ | apply Les.cons | exact .nil)) rfl ?_
        repeat (first | refine seq_ ?_ | refine region_ ?_ | refine nil_ ?_ | refine skip_ ?_ | refine cond_f rfl ?_ | refine stepY (y_move rfl) rfl ?_ | refine stepY (y_assign rfl) rfl ?_ | refine stepY (y_extract rfl rfl) rfl ?_ | refine stepY (y_len_ps rfl) rfl ?_ | refine stepY (y_binn rfl rfl rfl (by simp only [InK, loK, hiK]; omega)) rfl ?_ | (first | refine stepY (y_remp rfl rfl (by omega) (by omega)) rfl ?_ | refine stepY (y_rem rfl rfl (by omega)) rfl ?_) | refine stepY (y_cmpF rfl rfl rfl (by omega)) rfl ?_)
        refine draw_ [(1, true), (2, true), (3, true), (5, true), (6, true), (7, true), (0, false), (4, false), (8, false), (9, true)] 1000 [] mixed (by kernel_rfl) rfl ?_
        ((refine dY rfl (y_move rfl) rfl rfl rfl rfl ?_); refine dY rfl (y_move rfl) rfl rfl rfl rfl ?_; refine dY rfl (y_slice_ps_l rfl rfl (by omega) (by omega)) rfl rfl rfl rfl ?_; refine dY rfl (y_move rfl) rfl rfl rfl rfl ?_; refine dY rfl (y_move rfl) rfl rfl rfl rfl ?_; refine dY rfl (y_slice_ps_h rfl rfl (by omega) (by omega)) rfl rfl rfl rfl ?_; (refine dE rfl (e_bs_vs rfl rfl rfl rfl rfl rfl) rfl rfl ?_))
        refine dE rfl (e_app_pts (l := []) (l2 := g.drop ((t.tmod (g.length : Int) + (g.length : Int)) % (g.length : Int)).toNat) rfl rfl rfl (src_ss rfl (pts_ones _)) (by rw [List.length_drop, List.length_nil]; omega) rfl rfl) rfl rfl ?_
        refine dE rfl (e_app_pts (l := [] ++ g.drop ((t.tmod (g.length : Int) + (g.length : Int)) % (g.length : Int)).toNat) (l2 := g.take ((t.tmod (g.length : Int) + (g.length : Int)) % (g.length : Int)).toNat) rfl rfl rfl (src_ss rfl (pts_ones _)) (by rw [List.nil_append, List.length_drop, List.length_take]; omega) rfl rfl) rfl rfl ?_
        refine seal_Ds (i := 64) (h := 56) rfl rfl rfl rfl ?_
        skip
        ((refine dY rfl (y_assign rfl) rfl rfl rfl rfl ?_); refine dEnd ?_)
        repeat (first | refine seq_ ?_ | refine region_ ?_ | refine stepY (y_move rfl) rfl ?_ | refine stepY (y_loadA rfl rfl rfl) rfl ?_)
        refine call_ Tryz.func6 rfl rfl (h4) rfl (by repeat (first | exact .refl _ | exact .tags _ _ | apply Les.cons | exact .nil)) rfl ?_
        repeat (first | refine seq_ ?_ | refine region_ ?_ | refine nil_ ?_ | refine stepY (y_move rfl) rfl ?_ | refine stepY (y_assign rfl) rfl ?_ | refine stepY (y_loadA rfl rfl rfl) rfl ?_ | refine stepY (y_extract rfl rfl) rfl ?_)
        refine call_ Tryz.func7 rfl rfl (h5) rfl (by repeat (first | exact .refl _ | exact .tags _ _ | apply Les.cons | exact .nil)) rfl ?_
        repeat (first | refine seq_ ?_ | refine region_ ?_ | refine nil_ ?_ | refine guard_t rfl rfl rfl ?_ | refine stepY (y_move rfl) rfl ?_ | refine stepY (y_assign rfl) rfl ?_ | refine stepY (y_extract rfl rfl) rfl ?_ | refine stepY (y_pick_t rfl rfl) rfl ?_ | (first | refine stepY (y_cmpT rfl rfl rfl (by omega)) rfl ?_ | refine stepY (y_eqb rfl rfl) rfl ?_))
        refine call_ Tryz.func5 rfl rfl (h9) rfl (by repeat (exact .nil)) rfl ?_
        repeat (first | refine nil_ ?_ | refine ret_ ?_ | refine stepY (y_assign rfl) rfl ?_ | refine stepY (y_pick_t rfl rfl) rfl ?_)
        ((apply fin_r); (repeat (first | exact .nil | exact .tmp rfl | apply ResL.cons)); (repeat (exact .refl _)))
      · repeat (first | refine seq_ ?_ | refine region_ ?_ | refine nil_ ?_ | refine skip_ ?_ | refine cond_f rfl ?_ | refine stepY (y_move rfl) rfl ?_ | refine stepY (y_assign rfl) rfl ?_ | refine stepY (y_loadA rfl rfl rfl) rfl ?_ | refine stepY (y_len_ps rfl) rfl ?_ | refine stepY (y_cmpF rfl rfl rfl (by omega)) rfl ?_ | refine stepE (e_box rfl rfl rfl rfl rfl rfl) ?_)
        refine call_ Tryz.func6 rfl rfl (h1) rfl (by repeat (first | exact .refl _ | apply Les.cons | exact .nil)) rfl ?_
        repeat (first | refine seq_ ?_ | refine region_ ?_ | refine nil_ ?_ | refine stepY (y_move rfl) rfl ?_ | refine stepY (y_assign rfl) rfl ?_ | refine stepY (y_loadA rfl rfl rfl) rfl ?_ | refine stepY (y_extract rfl rfl) rfl ?_)
        refine call_ Tryz.func7 rfl rfl (h2) rfl (by repeat (first | exact .refl _ | apply Les.cons | exact .nil)) rfl ?_
        repeat (first | refine seq_ ?_ | refine region_ ?_ | refine nil_ ?_ | refine skip_ ?_ | refine cond_f rfl ?_ | refine guard_t rfl rfl rfl ?_ | refine stepY (y_move rfl) rfl ?_ | refine stepY (y_assign rfl) rfl ?_ | refine stepY (y_extract rfl rfl) rfl ?_ | refine stepY (y_pick_f rfl rfl) rfl ?_ | (first | refine stepY (y_cmpF rfl rfl rfl (by omega)) rfl ?_ | refine stepY (y_neb rfl rfl) rfl ?_))
        refine call_ Tryz.func8 rfl rfl (h3) rfl (by repeat (first | exact .refl _ | apply Les.cons | exact .nil)) rfl ?_
        repeat (first | refine seq_ ?_ | refine region_ ?_ | refine nil_ ?_ | refine skip_ ?_ | refine cond_f rfl ?_ | refine stepY (y_move rfl) rfl ?_ | refine stepY (y_assign rfl) rfl ?_ | refine stepY (y_extract rfl rfl) rfl ?_ | refine stepY (y_len_ps rfl) rfl ?_ | refine stepY (y_binn rfl rfl rfl (by simp only [InK, loK, hiK]; omega)) rfl ?_ | (first | refine stepY (y_remp rfl rfl (by omega) (by omega)) rfl ?_ | refine stepY (y_rem rfl rfl (by omega)) rfl ?_) | refine stepY (y_cmpF rfl rfl rfl (by omega)) rfl ?_)
        refine draw_ [(1, true), (2, true), (3, true), (5, true), (6, true), (7, true), (0, false), (4, false), (8, false), (9, true)] 1000 [] mixed (by kernel_rfl) rfl ?_
        ((refine dY rfl (y_move rfl) rfl rfl rfl rfl ?_); refine dY rfl (y_move rfl) rfl rfl rfl rfl ?_; refine dY rfl (y_slice_ps_l rfl rfl (by omega) (by omega)) rfl rfl rfl rfl ?_; refine dY rfl (y_move rfl) rfl rfl rfl rfl ?_; refine dY rfl (y_move rfl) rfl rfl rfl rfl ?_; refine dY rfl (y_slice_ps_h rfl rfl (by omega) (by omega)) rfl rfl rfl rfl ?_; (refine dE rfl (e_bs_vs rfl rfl rfl rfl rfl rfl) rfl rfl ?_))
        refine dE rfl (e_app_pts (l := []) (l2 := g.drop ((t.tmod (g.length : Int) + (g.length : Int)) % (g.length : Int)).toNat) rfl rfl rfl (src_ss rfl (pts_ones _)) (by rw [List.length_drop, List.length_nil]; omega) rfl rfl) rfl rfl ?_
        refine dE rfl (e_app_pts (l := [] ++ g.drop ((t.tmod (g.length : Int) + (g.length : Int)) % (g.length : Int)).toNat) (l2 := g.take ((t.tmod (g.length : Int) + (g.length : Int)) % (g.length : Int)).toNat) rfl rfl rfl (src_ss rfl (pts_ones _)) (by rw [List.nil_append, List.length_drop, List.length_take]; omega) rfl rfl) rfl rfl ?_
        refine seal_Ds (i := 64) (h := 56) rfl rfl rfl rfl ?_
        skip
        ((refine dY rfl (y_assign rfl) rfl rfl rfl rfl ?_); refine dEnd ?_)
        repeat (first | refine seq_ ?_ | refine region_ ?_ | refine stepY (y_move rfl) rfl ?_ | refine stepY (y_loadA rfl rfl rfl) rfl ?_)
        refine call_ Tryz.func6 rfl rfl (h4) rfl (by repeat (first | exact .refl _ | exact .tags _ _ | apply Les.cons | exact .nil)) rfl ?_
        repeat (first | refine seq_ ?_ | refine region_ ?_ | refine nil_ ?_ | refine stepY (y_move rfl) rfl ?_ | refine stepY (y_assign rfl) rfl ?_ | refine stepY (y_loadA rfl rfl rfl) rfl ?_ | refine stepY (y_extract rfl rfl) rfl ?_)
        refine call_ Tryz.func7 rfl rfl (h5) rfl (by repeat (first | exact .refl _ | exact .tags _ _ | apply Les.cons | exact .nil)) rfl ?_
        repeat (first | refine seq_ ?_ | refine region_ ?_ | refine nil_ ?_ | refine guard_t rfl rfl rfl ?_ | refine stepY (y_move rfl) rfl ?_ | refine stepY (y_assign rfl) rfl ?_ | refine stepY (y_extract rfl rfl) rfl ?_ | refine stepY (y_pick_t rfl rfl) rfl ?_ | (first | refine stepY (y_cmpT rfl rfl rfl (by omega)) rfl ?_ | refine stepY (y_eqb rfl rfl) rfl ?_))
        refine call_ Tryz.func5 rfl rfl (h9) rfl (by repeat (exact .nil)) rfl ?_
        repeat (first | refine nil_ ?_ | refine ret_ ?_ | refine stepY (y_assign rfl) rfl ?_ | refine stepY (y_pick_t rfl rfl) rfl ?_)
        ((apply fin_r); (repeat (first | exact .nil | exact .tmp rfl | apply ResL.cons)); (repeat (exact .refl _)))
      · repeat (first | refine seq_ ?_ | refine region_ ?_ | refine nil_ ?_ | refine skip_ ?_ | refine cond_f rfl ?_ | refine stepY (y_move rfl) rfl ?_ | refine stepY (y_assign rfl) rfl ?_ | refine stepY (y_loadA rfl rfl rfl) rfl ?_ | refine stepY (y_len_ps rfl) rfl ?_ | refine stepY (y_cmpF rfl rfl rfl (by omega)) rfl ?_ | refine stepE (e_box rfl rfl rfl rfl rfl rfl) ?_)
        refine call_ Tryz.func6 rfl rfl (h1) rfl (by repeat (first | exact .refl _ | apply Les.cons | exact .nil)) rfl ?_
        repeat (first | refine seq_ ?_ | refine region_ ?_ | refine nil_ ?_ | refine stepY (y_move rfl) rfl ?_ | refine stepY (y_assign rfl) rfl ?_ | refine stepY (y_loadA rfl rfl rfl) rfl ?_ | refine stepY (y_extract rfl rfl) rfl ?_)
        refine call_ Tryz.func7 rfl rfl (h2) rfl (by repeat (first | exact .refl _ | apply Les.cons | exact .nil)) rfl ?_
        repeat (first | refine seq_ ?_ | refine region_ ?_ | refine nil_ ?_ | refine skip_ ?_ | refine cond_f rfl ?_ | refine guard_t rfl rfl rfl ?_ | refine stepY (y_move rfl) rfl ?_ | refine stepY (y_assign rfl) rfl ?_ | refine stepY (y_extract rfl rfl) rfl ?_ | refine stepY (y_pick_f rfl rfl) rfl ?_ | (first | refine stepY (y_cmpF rfl rfl rfl (by omega)) rfl ?_ | refine stepY (y_neb rfl rfl) rfl ?_))
        refine call_ Tryz.func8 rfl rfl (h3) rfl (by repeat (first | exact .refl _ | apply Les.cons | exact .nil)) rfl ?_
        repeat (first | refine seq_ ?_ | refine region_ ?_ | refine nil_ ?_ | refine skip_ ?_ | refine cond_f rfl ?_ | refine stepY (y_move rfl) rfl ?_ | refine stepY (y_assign rfl) rfl ?_ | refine stepY (y_extract rfl rfl) rfl ?_ | refine stepY (y_len_ps rfl) rfl ?_ | refine stepY (y_binn rfl rfl rfl (by simp only [InK, loK, hiK]; omega)) rfl ?_ | (first | refine stepY (y_remp rfl rfl (by omega) (by omega)) rfl ?_ | refine stepY (y_rem rfl rfl (by omega)) rfl ?_) | refine stepY (y_cmpF rfl rfl rfl (by omega)) rfl ?_)
        refine draw_ [(1, true), (2, true), (3, true), (5, true), (6, true), (7, true), (0, false), (4, false), (8, false), (9, true)] 1000 [] mixed (by kernel_rfl) rfl ?_
        ((refine dY rfl (y_move rfl) rfl rfl rfl rfl ?_); refine dY rfl (y_move rfl) rfl rfl rfl rfl ?_; refine dY rfl (y_slice_ps_l rfl rfl (by omega) (by omega)) rfl rfl rfl rfl ?_; refine dY rfl (y_move rfl) rfl rfl rfl rfl ?_; refine dY rfl (y_move rfl) rfl rfl rfl rfl ?_; refine dY rfl (y_slice_ps_h rfl rfl (by omega) (by omega)) rfl rfl rfl rfl ?_; (refine dE rfl (e_bs_vs rfl rfl rfl rfl rfl rfl) rfl rfl ?_))
        refine dE rfl (e_app_pts (l := []) (l2 := g.drop ((t.tmod (g.length : Int) + (g.length : Int)) % (g.length : Int)).toNat) rfl rfl rfl (src_ss rfl (pts_ones _)) (by rw [List.length_drop, List.length_nil]; omega) rfl rfl) rfl rfl ?_
        refine dE rfl (e_app_pts (l := [] ++ g.drop ((t.tmod (g.length : Int) + (g.length : Int)) % (g.length : Int)).toNat) (l2 := g.take ((t.tmod (g.length : Int) + (g.length : Int)) % (g.length : Int)).toNat) rfl rfl rfl (src_ss rfl (pts_ones _)) (by rw [List.nil_append, List.length_drop, List.length_take]; omega) rfl rfl) rfl rfl ?_
        refine seal_Ds (i := 64) (h := 56) rfl rfl rfl rfl ?_
        skip
        ((refine dY rfl (y_assign rfl) rfl rfl rfl rfl ?_); refine dEnd ?_)
        repeat (first | refine seq_ ?_ | refine region_ ?_ | refine stepY (y_move rfl) rfl ?_ | refine stepY (y_loadA rfl rfl rfl) rfl ?_)
        refine call_ Tryz.func6 rfl rfl (h4) rfl (by repeat (first | exact .refl _ | exact .tags _ _ | apply Les.cons | exact .nil)) rfl ?_
        repeat (first | refine seq_ ?_ | refine region_ ?_ | refine nil_ ?_ | refine stepY (y_move rfl) rfl ?_ | refine stepY (y_assign rfl) rfl ?_ | refine stepY (y_loadA rfl rfl rfl) rfl ?_ | refine stepY (y_extract rfl rfl) rfl ?_)
        refine call_ Tryz.func7 rfl rfl (h5) rfl (by repeat (first | exact .refl _ | exact .tags _ _ | apply Les.cons | exact .nil)) rfl ?_
        repeat (first | refine seq_ ?_ | refine region_ ?_ | refine nil_ ?_ | refine guard_t rfl rfl rfl ?_ | refine stepY (y_move rfl) rfl ?_ | refine stepY (y_assign rfl) rfl ?_ | refine stepY (y_extract rfl rfl) rfl ?_ | refine stepY (y_pick_t rfl rfl) rfl ?_ | (first | refine stepY (y_cmpT rfl rfl rfl (by omega)) rfl ?_ | refine stepY (y_eqb rfl rfl) rfl ?_))
        refine call_ Tryz.func5 rfl rfl (h9) rfl (by repeat (exact .nil)) rfl ?_
        repeat (first | refine nil_ ?_ | refine ret_ ?_ | refine stepY (y_assign rfl) rfl ?_ | refine stepY (y_pick_t rfl rfl) rfl ?_)
        ((apply fin_r); (repeat (first | exact .nil | exact .tmp rfl | apply ResL.cons)); (repeat (exact .refl _)))
      · repeat (first | refine seq_ ?_ | refine region_ ?_ | refine nil_ ?_ | refine skip_ ?_ | refine cond_f rfl ?_ | refine stepY (y_move rfl) rfl ?_ | refine stepY (y_assign rfl) rfl ?_ | refine stepY (y_loadA rfl rfl rfl) rfl ?_ | refine stepY (y_len_ps rfl) rfl ?_ | refine stepY (y_cmpF rfl rfl rfl (by omega)) rfl ?_ | refine stepE (e_box rfl rfl rfl rfl rfl rfl) ?_)
        refine call_ Tryz.func6 rfl rfl (h1) rfl (by repeat (first | exact .refl _ | apply Les.cons | exact .nil)) rfl ?_
        repeat (first | refine seq_ ?_ | refine region_ ?_ | refine nil_ ?_ | refine stepY (y_move rfl) rfl ?_ | refine stepY (y_assign rfl) rfl ?_ | refine stepY (y_loadA rfl rfl rfl) rfl ?_ | refine stepY (y_extract rfl rfl) rfl ?_)
        refine call_ Tryz.func7 rfl rfl (h2) rfl (by repeat (first | exact .refl _ | apply Les.cons | exact .nil)) rfl ?_
        repeat (first | refine seq_ ?_ | refine region_ ?_ | refine nil_ ?_ | refine skip_ ?_ | refine cond_f rfl ?_ | refine guard_t rfl rfl rfl ?_ | refine stepY (y_move rfl) rfl ?_ | refine stepY (y_assign rfl) rfl ?_ | refine stepY (y_extract rfl rfl) rfl ?_ | refine stepY (y_pick_f rfl rfl) rfl ?_ | (first | refine stepY (y_cmpF rfl rfl rfl (by omega)) rfl ?_ | refine stepY (y_neb rfl rfl) rfl ?_))
        refine call_ Tryz.func8 rfl rfl (h3) rfl (by repeat (first | exact .refl _ | apply Les.cons | exact .nil)) rfl ?_
        repeat (first | refine seq_ ?_ | refine region_ ?_ | refine nil_ ?_ | refine skip_ ?_ | refine cond_f rfl ?_ | refine stepY (y_move rfl) rfl ?_ | refine stepY (y_assign rfl) rfl ?_ | refine stepY (y_extract rfl rfl) rfl ?_ | refine stepY (y_len_ps rfl) rfl ?_ | refine stepY (y_binn rfl rfl rfl (by simp only [InK, loK, hiK]; omega)) rfl ?_ | (first | refine stepY (y_remp rfl rfl (by omega) (by omega)) rfl ?_ | refine stepY (y_rem rfl rfl (by omega)) rfl ?_) | refine stepY (y_cmpF rfl rfl rfl (by omega)) rfl ?_)
        refine draw_ [(1, true), (2, true), (3, true), (5, true), (6, true), (7, true), (0, false), (4, false), (8, false), (9, true)] 1000 [] mixed (by kernel_rfl) rfl ?_
        ((refine dY rfl (y_move rfl) rfl rfl rfl rfl ?_); refine dY rfl (y_move rfl) rfl rfl rfl rfl ?_; refine dY rfl (y_slice_ps_l rfl rfl (by omega) (by omega)) rfl rfl rfl rfl ?_; refine dY rfl (y_move rfl) rfl rfl rfl rfl ?_; refine dY rfl (y_move rfl) rfl rfl rfl rfl ?_; refine dY rfl (y_slice_ps_h rfl rfl (by omega) (by omega)) rfl rfl rfl rfl ?_; (refine dE rfl (e_bs_vs rfl rfl rfl rfl rfl rfl) rfl rfl ?_))
        refine dE rfl (e_app_pts (l := []) (l2 := g.drop ((t.tmod (g.length : Int) + (g.length : Int)) % (g.length : Int)).toNat) rfl rfl rfl (src_ss rfl (pts_ones _)) (by rw [List.length_drop, List.length_nil]; omega) rfl rfl) rfl rfl ?_
        refine dE rfl (e_app_pts (l := [] ++ g.drop ((t.tmod (g.length : Int) + (g.length : Int)) % (g.length : Int)).toNat) (l2 := g.take ((t.tmod (g.length : Int) + (g.length : Int)) % (g.length : Int)).toNat) rfl rfl rfl (src_ss rfl (pts_ones _)) (by rw [List.nil_append, List.length_drop, List.length_take]; omega) rfl rfl) rfl rfl ?_
        refine seal_Ds (i := 64) (h := 56) rfl rfl rfl rfl ?_
        skip
        ((refine dY rfl (y_assign rfl) rfl rfl rfl rfl ?_); refine dEnd ?_)
        repeat (first | refine seq_ ?_ | refine region_ ?_ | refine stepY (y_move rfl) rfl ?_ | refine stepY (y_loadA rfl rfl rfl) rfl ?_)
        refine call_ Tryz.func6 rfl rfl (h4) rfl (by repeat (first | exact .refl _ | exact .tags _ _ | apply Les.cons | exact .nil)) rfl ?_
        repeat (first | refine seq_ ?_ | refine region_ ?_ | refine nil_ ?_ | refine stepY (y_move rfl) rfl ?_ | refine stepY (y_assign rfl) rfl ?_ | refine stepY (y_loadA rfl rfl rfl) rfl ?_ | refine stepY (y_extract rfl rfl) rfl ?_)
        refine call_ Tryz.func7 rfl rfl (h5) rfl (by repeat (first | exact .refl _ | exact .tags _ _ | apply Les.cons | exact .nil)) rfl ?_
        repeat (first | refine seq_ ?_ | refine region_ ?_ | refine nil_ ?_ | refine guard_t rfl rfl rfl ?_ | refine stepY (y_move rfl) rfl ?_ | refine stepY (y_assign rfl) rfl ?_ | refine stepY (y_extract rfl rfl) rfl ?_ | refine stepY (y_pick_t rfl rfl) rfl ?_ | (first | refine stepY (y_cmpT rfl rfl rfl (by omega)) rfl ?_ | refine stepY (y_eqb rfl rfl) rfl ?_))
        refine call_ Tryz.func5 rfl rfl (h9) rfl (by repeat (exact .nil)) rfl ?_
        repeat (first | refine nil_ ?_ | refine ret_ ?_ | refine stepY (y_assign rfl) rfl ?_ | refine stepY (y_pick_t rfl rfl) rfl ?_)
        ((apply fin_r); (repeat (first | exact .nil | exact .tmp rfl | apply ResL.cons)); (repeat (exact .refl _)))
    · generalize insR l p = x at *
      generalize hlR l = y at *
      obtain ⟨xa, xe⟩ := x
      dsimp only at h1 h2
      cases xa
      · repeat (first | refine seq_ ?_ | refine region_ ?_ | refine nil_ ?_ | refine skip_ ?_ | refine cond_f rfl ?_ | refine stepY (y_move rfl) rfl ?_ | refine stepY (y_assign rfl) rfl ?_ | refine stepY (y_loadA rfl rfl rfl) rfl ?_ | refine stepY (y_len_ps rfl) rfl ?_ | refine stepY (y_cmpF rfl rfl rfl (by omega)) rfl ?_ | refine stepE (e_box rfl rfl rfl rfl rfl rfl) ?_)
        refine call_ Tryz.func6 rfl rfl (h1) rfl (by repeat (first | exact .refl _ | apply Les.cons | exact .nil)) rfl ?_
        repeat (first | refine seq_ ?_ | refine region_ ?_ | refine nil_ ?_ | refine stepY (y_move rfl) rfl ?_ | refine stepY (y_assign rfl) rfl ?_ | refine stepY (y_loadA rfl rfl rfl) rfl ?_ | refine stepY (y_extract rfl rfl) rfl ?_)
        refine call_ Tryz.func7 rfl rfl (h2) rfl (by repeat (first | exact .refl _ | apply Les.cons | exact .nil)) rfl ?_
        repeat (first | refine seq_ ?_ | refine region_ ?_ | refine nil_ ?_ | refine skip_ ?_ | refine cond_f rfl ?_ | refine guard_t rfl rfl rfl ?_ | refine stepY (y_move rfl) rfl ?_ | refine stepY (y_assign rfl) rfl ?_ | refine stepY (y_extract rfl rfl) rfl ?_ | refine stepY (y_pick_f rfl rfl) rfl ?_ | (first | refine stepY (y_cmpF rfl rfl rfl (by omega)) rfl ?_ | refine stepY (y_neb rfl rfl) rfl ?_))
        refine call_ Tryz.func8 rfl rfl (h3) rfl (by repeat (first | exact .refl _ | apply Les.cons | exact .nil)) rfl ?_
        repeat (first | refine seq_ ?_ | refine region_ ?_ | refine nil_ ?_ | refine cond_t rfl ?_ | refine stepY (y_move rfl) rfl ?_ | refine stepY (y_assign rfl) rfl ?_ | refine stepY (y_extract rfl rfl) rfl ?_ | refine stepY (y_cmpT rfl rfl rfl (by omega)) rfl ?_)
        refine call_ Tryz.func5 rfl rfl (h9) rfl (by repeat (exact .nil)) rfl ?_
        repeat (first | refine nil_ ?_ | refine ret_ ?_ | refine stepY (y_assign rfl) rfl ?_)
        ((apply fin_r); (repeat (first | exact .nil | exact .tmp rfl | apply ResL.cons)); (repeat (exact .refl _)))
      · repeat (first | refine seq_ ?_ | refine region_ ?_ | refine nil_ ?_ | refine skip_ ?_ | refine cond_f rfl ?_ | refine stepY (y_move rfl) rfl ?_ | refine stepY (y_assign rfl) rfl ?_ | refine stepY (y_loadA rfl rfl rfl) rfl ?_ | refine stepY (y_len_ps rfl) rfl ?_ | refine stepY (y_cmpF rfl rfl rfl (by omega)) rfl ?_ | refine stepE (e_box rfl rfl rfl rfl rfl rfl) ?_)
        refine call_ Tryz.func6 rfl rfl (h1) rfl (by repeat (first | exact .refl _ | apply Les.cons | exact .nil)) rfl ?_
        repeat (first | refine seq_ ?_ | refine region_ ?_ | refine nil_ ?_ | refine stepY (y_move rfl) rfl ?_ | refine stepY (y_assign rfl) rfl ?_ | refine stepY (y_loadA rfl rfl rfl) rfl ?_ | refine stepY (y_extract rfl rfl) rfl ?_)
        refine call_ Tryz.func7 rfl rfl (h2) rfl (by repeat (first | exact .refl _ | apply Les.cons | exact .nil)) rfl ?_
        repeat (first | refine seq_ ?_ | refine region_ ?_ | refine nil_ ?_ | refine skip_ ?_ | refine cond_f rfl ?_ | refine guard_t rfl rfl rfl ?_ | refine stepY (y_move rfl) rfl ?_ | refine stepY (y_assign rfl) rfl ?_ | refine stepY (y_extract rfl rfl) rfl ?_ | refine stepY (y_pick_f rfl rfl) rfl ?_ | (first | refine stepY (y_cmpF rfl rfl rfl (by omega)) rfl ?_ | refine stepY (y_neb rfl rfl) rfl ?_))
        refine call_ Tryz.func8 rfl rfl (h3) rfl (by repeat (first | exact .refl _ | apply Les.cons | exact .nil)) rfl ?_
        repeat (first | refine seq_ ?_ | refine region_ ?_ | refine nil_ ?_ | refine cond_t rfl ?_ | refine stepY (y_move rfl) rfl ?_ | refine stepY (y_assign rfl) rfl ?_ | refine stepY (y_extract rfl rfl) rfl ?_ | refine stepY (y_cmpT rfl rfl rfl (by omega)) rfl ?_)
        refine call_ Tryz.func5 rfl rfl (h9) rfl (by repeat (exact .nil)) rfl ?_
        repeat (first | refine nil_ ?_ | refine ret_ ?_ | refine stepY (y_assign rfl) rfl ?_)
        ((apply fin_r); (repeat (first | exact .nil | exact .tmp rfl | apply ResL.cons)); (repeat (exact .refl _)))
end Go.Av

/- Contracts behind a law: no conditions beyond those in each statement. -/
import Derived.Test.YtnkkkeohhgbhnaaHr
set_option maxHeartbeats 8000000
set_option exponentiation.threshold 100000
set_option maxRecDepth 100000
set_option linter.unusedVariables false
set_option linter.unusedSimpArgs false
namespace Go.Av
open Go Go.Proofs

open Go.RowKit
theorem Inside_c (l : List Pt) (p : Pt) : Con Try.prog 13 [.ss false 2 (pts l), pt p] (.tp [Bo (insR l p).1, E_ (insR l p).2]) := by
  have hc := check_c l
  have hc2 := within_c [p]
  rw [wit1] at hc2
  unfold insR
  by_cases h0 : chkR l = 0
  · rw [if_neg (not_not_intro h0)]
    rw [h0] at hc
    obtain ⟨hn, hall⟩ := chk_ok h0
    by_cases hs : sm p
    · rw [if_neg (not_not_intro hs)]
      rw [if_pos hs] at hc2
      by_cases h3 : l.length < 3
      · rw [if_pos h3]
        refine con_of Try.func13 rfl rfl rfl (by simp [noTs, noT, noT_pts]) rfl ?_
        repeat (first | refine seq_ ?_ | refine region_ ?_ | refine nil_ ?_ | refine stepY (y_move rfl) rfl ?_ | refine stepY (y_assign rfl) rfl ?_ | refine stepE (e_box rfl rfl rfl rfl rfl rfl) ?_)
        refine call_ Try.func32 rfl rfl (hc) rfl (by repeat (first | exact .refl _ | apply Les.cons | exact .nil)) rfl ?_
        repeat (first | refine seq_ ?_ | refine region_ ?_ | refine nil_ ?_ | refine skip_ ?_ | refine cond_f rfl ?_ | refine stepY (y_move rfl) rfl ?_ | refine stepY (y_assign rfl) rfl ?_ | refine stepY (y_loadA rfl rfl rfl) rfl ?_ | refine stepY (y_cmpF rfl rfl rfl (by omega)) rfl ?_ | refine stepE (e_bs_vs rfl rfl rfl rfl rfl rfl) ?_)
        refine seal_Ls (i := 18) (h := 18) rfl rfl rfl rfl ?_
        refine call_ Try.func35 rfl rfl (hc2) rfl (by repeat (first | exact .tags _ _ | apply Les.cons | exact .nil)) rfl ?_
        repeat (first | refine seq_ ?_ | refine region_ ?_ | refine nil_ ?_ | refine skip_ ?_ | refine ret_ ?_ | refine cond_t rfl ?_ | refine cond_f rfl ?_ | refine stepY (y_move rfl) rfl ?_ | refine stepY (y_assign rfl) rfl ?_ | refine stepY (y_len_ps rfl) rfl ?_ | refine stepY (y_cmpF rfl rfl rfl (by omega)) rfl ?_ | refine stepY (y_cmpT rfl rfl rfl (by omega)) rfl ?_)
        ((apply fin_r); (repeat (first | exact .nil | exact .tmp rfl | apply ResL.cons)); (repeat (exact .refl _)))
      · rw [if_neg h3]
        have hne : l ≠ [] := fun e => h3 (by rw [e]; decide)
        have hh := ConRM.con (stab_pts _) (hull_c l hne hall hn)
        obtain ⟨hp, hmem⟩ := hull_head hne hall
        have hlen := hull_len hne hall
        have hlt := ix_lt hmem
        have hix := Index_c l (at_ (hullF l) 0) hmem
        have hcv : cvx l = decide (hullF l = rotP l (ix l (at_ (hullF l) 0))) := rfl
        have hrl := rot_len l (k := ix l (at_ (hullF l) 0)) (by omega)
        generalize hullF l = g at *
        generalize hA : ix l (at_ g 0) = A at *
        have hcl := CloneP_c (l.drop ((A : Int)).toNat) (by rw [List.length_drop]; omega) (by rw [List.length_drop]; omega)
        have heq := Equal_c g (l.drop ((A : Int)).toNat ++ l.take ((A : Int)).toNat)
        have hrot : l.drop ((A : Int)).toNat ++ l.take ((A : Int)).toNat = rotP l A := by unfold rotP; rw [Int.toNat_natCast]
        by_cases hl : g.length = l.length
        · by_cases hg : g = rotP l A
          · rw [hcv, decide_eq_true hg, if_neg (by decide)]
            rw [decide_eq_true (by rw [hrot]; exact hg)] at heq
            refine con_of Try.func13 rfl rfl rfl (by simp [noTs, noT, noT_pts]) rfl ?_
            repeat (first | refine seq_ ?_ | refine region_ ?_ | refine nil_ ?_ | refine stepY (y_move rfl) rfl ?_ | refine stepY (y_assign rfl) rfl ?_ | refine stepE (e_box rfl rfl rfl rfl rfl rfl) ?_)
            refine call_ Try.func32 rfl rfl (hc) rfl (by repeat (first | exact .refl _ | apply Les.cons | exact .nil)) rfl ?_
            repeat (first | refine seq_ ?_ | refine region_ ?_ | refine nil_ ?_ | refine skip_ ?_ | refine cond_f rfl ?_ | refine stepY (y_move rfl) rfl ?_ | refine stepY (y_assign rfl) rfl ?_ | refine stepY (y_loadA rfl rfl rfl) rfl ?_ | refine stepY (y_cmpF rfl rfl rfl (by omega)) rfl ?_ | refine stepE (e_bs_vs rfl rfl rfl rfl rfl rfl) ?_)
            refine seal_Ls (i := 18) (h := 18) rfl rfl rfl rfl ?_
            refine call_ Try.func35 rfl rfl (hc2) rfl (by repeat (first | exact .tags _ _ | apply Les.cons | exact .nil)) rfl ?_
            repeat (first | refine seq_ ?_ | refine region_ ?_ | refine nil_ ?_ | refine skip_ ?_ | refine cond_f rfl ?_ | refine stepY (y_move rfl) rfl ?_ | refine stepY (y_assign rfl) rfl ?_ | refine stepY (y_len_ps rfl) rfl ?_ | refine stepY (y_cmpF rfl rfl rfl (by omega)) rfl ?_ | refine stepY (y_cmpF rfl rfl rfl (by omega)) rfl ?_)
            refine call_ Try.func33 rfl rfl (hh) rfl (by repeat (first | exact .refl _ | apply Les.cons | exact .nil)) rfl ?_
            repeat (first | refine seq_ ?_ | refine region_ ?_ | refine nil_ ?_ | refine stepY (y_move rfl) rfl ?_ | refine stepY (y_assign rfl) rfl ?_ | refine stepY (y_load_rcA rfl rfl) rfl ?_ | refine stepY (y_index_ps rfl rfl (by omega) (by omega)) rfl ?_)
            refine call_ Try.func36 rfl rfl (hix) rfl (by repeat (first | exact .refl _ | apply Les.cons | exact .nil)) rfl ?_
            repeat (first | refine seq_ ?_ | refine nil_ ?_ | refine stepY (y_assign rfl) rfl ?_)
            refine draw_ [(0, true), (1, true), (2, true), (3, true), (4, true), (5, true), (6, true), (7, true), (8, true), (9, true), (10, true), (11, true), (12, true), (13, true), (14, true), (16, true), (17, true), (18, true), (15, false), (19, false), (20, false), (21, true), (22, true)] 1000 [] mixed (by kernel_rfl) rfl ?_
            ((refine dY rfl (y_move rfl) rfl rfl rfl rfl ?_); refine dY rfl (y_len_ps rfl) rfl rfl rfl rfl ?_; refine dY rfl (y_move rfl) rfl rfl rfl rfl ?_; refine dY rfl (y_len_ps rfl) rfl rfl rfl rfl ?_; refine dY rfl (y_cmpF rfl rfl rfl (by omega)) rfl rfl rfl rfl ?_; refine dY rfl (y_move rfl) rfl rfl rfl rfl ?_; refine dY rfl (y_move rfl) rfl rfl rfl rfl ?_; refine dY rfl (y_len_ps rfl) rfl rfl rfl rfl ?_; refine dY rfl (y_cmpF rfl rfl rfl (by omega)) rfl rfl rfl rfl ?_; refine dY rfl (y_pick_f rfl rfl) rfl rfl rfl rfl ?_; refine dY rfl (y_move rfl) rfl rfl rfl rfl ?_; refine dY rfl (y_move rfl) rfl rfl rfl rfl ?_; refine dY rfl (y_move rfl) rfl rfl rfl rfl ?_; refine dY rfl (y_move rfl) rfl rfl rfl rfl ?_; refine dY rfl (y_slice_ps_l rfl rfl (by omega) (by omega)) rfl rfl rfl rfl ?_; refine dY rfl (y_move rfl) rfl rfl rfl rfl ?_; refine dY rfl (y_move rfl) rfl rfl rfl rfl ?_; refine dY rfl (y_slice_ps_h rfl rfl (by omega) (by omega)) rfl rfl rfl rfl ?_)
            refine dCM rfl Try.func38 rfl rfl (show stabM (.vs 28 2 (pts (l.drop ((A : Int)).toNat))) = true from stab_pts _) hcl rfl (by repeat (first | exact .refl _ | apply Les.cons | exact .nil)) rfl rfl rfl ?_
            skip
            refine dE rfl (e_app_pts (l := l.drop ((A : Int)).toNat) (l2 := l.take ((A : Int)).toNat) rfl rfl rfl (src_ss rfl (pts_ones _)) (by rw [List.length_drop, List.length_take]; omega) rfl rfl) rfl rfl ?_
            refine seal_Ds (i := 52) (h := 48) rfl rfl rfl rfl ?_
            skip
            refine dC rfl Try.func37 rfl rfl (heq) rfl (by repeat (first | exact .tags _ _ | apply Les.cons | exact .nil)) rfl rfl ?_
            ((refine dY rfl (y_not rfl) rfl rfl rfl rfl ?_); refine dY rfl (y_pick_f rfl rfl) rfl rfl rfl rfl ?_; refine dEnd ?_)
            repeat (first | refine seq_ ?_ | refine region_ ?_ | refine nil_ ?_ | refine skip_ ?_ | refine block_ ?_ | refine cond_f rfl ?_ | refine stepY (y_move rfl) rfl ?_ | refine stepY (y_len_ps rfl) rfl ?_)
            refine loop_ (α := Nat) (fun k => ([(0, .p (.ss false 2 (pts l))), (3, .ptr 3 0), (56, .p (.ss false 2 (pts l))), (57, .p (I l.length)), (58, .p (I k))], [(3, .bx [I p.1, I p.2])])) (fun k => k ≤ l.length ∧ ∀ j : Nat, j < k → 0 ≤ edg l p j) (fun k => l.length - k) 0 ⟨by omega, fun j h => absurd h (by omega)⟩ ?_ ?_ ?_
            · (repeat (first | exact sub_nil | refine sub_cons rfl ?_))
            · (repeat (first | exact subH_nil | refine subH_cons rfl ?_))
            rintro k ⟨hk, hall2⟩
            by_cases h : k < l.length
            · have hm0 : 0 ≤ ((k : Int) + 1) % (l.length : Int) := Int.emod_nonneg _ (by omega)
              have hm1 : ((k : Int) + 1) % (l.length : Int) < l.length := Int.emod_lt_of_pos _ (by omega)
              have s1 := at_all hall (n := (k : Int)) (by omega) (by omega)
              have s2 := at_all hall hm0 hm1
              have hx := cross_c (at_ l (k : Int)) (at_ l (((k : Int) + 1) % (l.length : Int))) p s1 s2 hs
              have he : crossP (at_ l (k : Int)) (at_ l (((k : Int) + 1) % (l.length : Int))) p = edg l p k := rfl
              rw [he] at hx
              by_cases hc : edg l p k < 0
              · have hA : allE l p = false := decide_eq_false (fun g => by have := g k h; omega)
                rw [hA]
                repeat (first | refine seq_ ?_ | refine region_ ?_ | refine nil_ ?_ | refine skip_ ?_ | refine block_ ?_ | refine cond_t rfl ?_ | refine stepY (y_move rfl) rfl ?_ | refine stepY (y_assign rfl) rfl ?_ | refine stepY (y_load_rcA rfl rfl) rfl ?_ | refine stepY (y_index_ps rfl rfl (by omega) (by omega)) rfl ?_ | refine stepY (y_cmpT rfl rfl rfl (by omega)) rfl ?_ | refine stepE (e_alloc rfl rfl rfl) ?_ | refine stepE (e_store rfl rfl rfl rfl rfl rfl rfl) ?_)
                refine draw_ [(0, true), (1, true), (2, true), (3, true), (4, true), (5, true), (6, true), (7, true), (8, true), (9, true), (10, false), (11, true)] 1000 [3, 11] mixed (by kernel_rfl) rfl ?_
                ((refine dY rfl (y_loadA rfl rfl rfl) rfl rfl rfl rfl ?_); refine dY rfl (y_move rfl) rfl rfl rfl rfl ?_; refine dY rfl (y_move rfl) rfl rfl rfl rfl ?_; refine dY rfl (y_binn rfl rfl rfl (by simp only [InK, loK, hiK]; omega)) rfl rfl rfl rfl ?_; refine dY rfl (y_move rfl) rfl rfl rfl rfl ?_; refine dY rfl (y_len_ps rfl) rfl rfl rfl rfl ?_; refine dY rfl (y_remp rfl rfl (by omega) (by omega)) rfl rfl rfl rfl ?_; refine dY rfl (y_index_ps rfl rfl (by omega) (by omega)) rfl rfl rfl rfl ?_; refine dY rfl (y_load_rcA rfl rfl) rfl rfl rfl rfl ?_; refine dY rfl (y_loadA rfl rfl rfl) rfl rfl rfl rfl ?_)
                refine dC rfl Try.func34 rfl rfl (hx) rfl (by repeat (first | exact .refl _ | apply Les.cons | exact .nil)) rfl rfl ?_
                ((refine dY rfl (y_cmpT rfl rfl rfl (by omega)) rfl rfl rfl rfl ?_); refine dEnd ?_)
                repeat (first | refine seq_ ?_ | refine region_ ?_ | refine nil_ ?_ | refine ret_ ?_ | refine cond_t rfl ?_ | refine stepY (y_assign rfl) rfl ?_)
                ((apply fin_r); (repeat (first | exact .nil | exact .tmp rfl | apply ResL.cons)); (repeat (exact .refl _)))
              · repeat (first | refine seq_ ?_ | refine region_ ?_ | refine nil_ ?_ | refine skip_ ?_ | refine block_ ?_ | refine cond_t rfl ?_ | refine stepY (y_move rfl) rfl ?_ | refine stepY (y_assign rfl) rfl ?_ | refine stepY (y_load_rcA rfl rfl) rfl ?_ | refine stepY (y_index_ps rfl rfl (by omega) (by omega)) rfl ?_ | refine stepY (y_cmpT rfl rfl rfl (by omega)) rfl ?_ | refine stepE (e_alloc rfl rfl rfl) ?_ | refine stepE (e_store rfl rfl rfl rfl rfl rfl rfl) ?_)
                refine draw_ [(0, true), (1, true), (2, true), (3, true), (4, true), (5, true), (6, true), (7, true), (8, true), (9, true), (10, false), (11, true)] 1000 [3, 11] mixed (by kernel_rfl) rfl ?_
                ((refine dY rfl (y_loadA rfl rfl rfl) rfl rfl rfl rfl ?_); refine dY rfl (y_move rfl) rfl rfl rfl rfl ?_; refine dY rfl (y_move rfl) rfl rfl rfl rfl ?_; refine dY rfl (y_binn rfl rfl rfl (by simp only [InK, loK, hiK]; omega)) rfl rfl rfl rfl ?_; refine dY rfl (y_move rfl) rfl rfl rfl rfl ?_; refine dY rfl (y_len_ps rfl) rfl rfl rfl rfl ?_; refine dY rfl (y_remp rfl rfl (by omega) (by omega)) rfl rfl rfl rfl ?_; refine dY rfl (y_index_ps rfl rfl (by omega) (by omega)) rfl rfl rfl rfl ?_; refine dY rfl (y_load_rcA rfl rfl) rfl rfl rfl rfl ?_; refine dY rfl (y_loadA rfl rfl rfl) rfl rfl rfl rfl ?_)
                refine dC rfl Try.func34 rfl rfl (hx) rfl (by repeat (first | exact .refl _ | apply Les.cons | exact .nil)) rfl rfl ?_
                ((refine dY rfl (y_cmpF rfl rfl rfl (by omega)) rfl rfl rfl rfl ?_); refine dEnd ?_)
                repeat (first | refine region_ ?_ | refine nil_ ?_ | refine skip_ ?_ | refine cond_f rfl ?_ | refine stepY (y_move rfl) rfl ?_ | refine stepY (y_binn rfl rfl rfl (by simp only [InK, loK, hiK]; omega)) rfl ?_)
                refine ⟨k + 1, ⟨by omega, fun j hj => ?_⟩, by omega, ?_, ?_⟩
                · by_cases hjk : j < k
                  · exact hall2 j hjk
                  · have : j = k := by omega
                    subst this
                    omega
                · (repeat (first | exact sub_nil | refine sub_cons rfl ?_))
                · (repeat (first | exact subH_nil | refine subH_cons rfl ?_))
            · have e : k = l.length := by omega
              subst e
              have hA : allE l p = true := decide_eq_true hall2
              rw [hA]
              repeat (first | refine seq_ ?_ | refine region_ ?_ | refine nil_ ?_ | refine exit_ ?_ | refine ret_ ?_ | refine cond_f rfl ?_ | refine stepY (y_assign rfl) rfl ?_ | refine stepY (y_cmpF rfl rfl rfl (by omega)) rfl ?_)
              ((apply fin_r); (repeat (first | exact .nil | exact .tmp rfl | apply ResL.cons)); (repeat (exact .refl _)))
          · rw [hcv, decide_eq_false hg, if_pos rfl]
            rw [decide_eq_false (by rw [hrot]; exact hg)] at heq
            refine con_of Try.func13 rfl rfl rfl (by simp [noTs, noT, noT_pts]) rfl ?_
            repeat (first | refine seq_ ?_ | refine region_ ?_ | refine nil_ ?_ | refine stepY (y_move rfl) rfl ?_ | refine stepY (y_assign rfl) rfl ?_ | refine stepE (e_box rfl rfl rfl rfl rfl rfl) ?_)
            refine call_ Try.func32 rfl rfl (hc) rfl (by repeat (first | exact .refl _ | apply Les.cons | exact .nil)) rfl ?_
            repeat (first | refine seq_ ?_ | refine region_ ?_ | refine nil_ ?_ | refine skip_ ?_ | refine cond_f rfl ?_ | refine stepY (y_move rfl) rfl ?_ | refine stepY (y_assign rfl) rfl ?_ | refine stepY (y_loadA rfl rfl rfl) rfl ?_ | refine stepY (y_cmpF rfl rfl rfl (by omega)) rfl ?_ | refine stepE (e_bs_vs rfl rfl rfl rfl rfl rfl) ?_)
            refine seal_Ls (i := 18) (h := 18) rfl rfl rfl rfl ?_
            refine call_ Try.func35 rfl rfl (hc2) rfl (by repeat (first | exact .tags _ _ | apply Les.cons | exact .nil)) rfl ?_
            repeat (first | refine seq_ ?_ | refine region_ ?_ | refine nil_ ?_ | refine skip_ ?_ | refine cond_f rfl ?_ | refine stepY (y_move rfl) rfl ?_ | refine stepY (y_assign rfl) rfl ?_ | refine stepY (y_len_ps rfl) rfl ?_ | refine stepY (y_cmpF rfl rfl rfl (by omega)) rfl ?_ | refine stepY (y_cmpF rfl rfl rfl (by omega)) rfl ?_)
            refine call_ Try.func33 rfl rfl (hh) rfl (by repeat (first | exact .refl _ | apply Les.cons | exact .nil)) rfl ?_
            repeat (first | refine seq_ ?_ | refine region_ ?_ | refine nil_ ?_ | refine stepY (y_move rfl) rfl ?_ | refine stepY (y_assign rfl) rfl ?_ | refine stepY (y_load_rcA rfl rfl) rfl ?_ | refine stepY (y_index_ps rfl rfl (by omega) (by omega)) rfl ?_)
            refine call_ Try.func36 rfl rfl (hix) rfl (by repeat (first | exact .refl _ | apply Les.cons | exact .nil)) rfl ?_
            repeat (first | refine seq_ ?_ | refine nil_ ?_ | refine stepY (y_assign rfl) rfl ?_)
            refine draw_ [(0, true), (1, true), (2, true), (3, true), (4, true), (5, true), (6, true), (7, true), (8, true), (9, true), (10, true), (11, true), (12, true), (13, true), (14, true), (16, true), (17, true), (18, true), (15, false), (19, false), (20, false), (21, true), (22, true)] 1000 [] mixed (by kernel_rfl) rfl ?_
            ((refine dY rfl (y_move rfl) rfl rfl rfl rfl ?_); refine dY rfl (y_len_ps rfl) rfl rfl rfl rfl ?_; refine dY rfl (y_move rfl) rfl rfl rfl rfl ?_; refine dY rfl (y_len_ps rfl) rfl rfl rfl rfl ?_; refine dY rfl (y_cmpF rfl rfl rfl (by omega)) rfl rfl rfl rfl ?_; refine dY rfl (y_move rfl) rfl rfl rfl rfl ?_; refine dY rfl (y_move rfl) rfl rfl rfl rfl ?_; refine dY rfl (y_len_ps rfl) rfl rfl rfl rfl ?_; refine dY rfl (y_cmpF rfl rfl rfl (by omega)) rfl rfl rfl rfl ?_; refine dY rfl (y_pick_f rfl rfl) rfl rfl rfl rfl ?_; refine dY rfl (y_move rfl) rfl rfl rfl rfl ?_; refine dY rfl (y_move rfl) rfl rfl rfl rfl ?_; refine dY rfl (y_move rfl) rfl rfl rfl rfl ?_; refine dY rfl (y_move rfl) rfl rfl rfl rfl ?_; refine dY rfl (y_slice_ps_l rfl rfl (by omega) (by omega)) rfl rfl rfl rfl ?_; refine dY rfl (y_move rfl) rfl rfl rfl rfl ?_; refine dY rfl (y_move rfl) rfl rfl rfl rfl ?_; refine dY rfl (y_slice_ps_h rfl rfl (by omega) (by omega)) rfl rfl rfl rfl ?_)
            refine dCM rfl Try.func38 rfl rfl (show stabM (.vs 28 2 (pts (l.drop ((A : Int)).toNat))) = true from stab_pts _) hcl rfl (by repeat (first | exact .refl _ | apply Les.cons | exact .nil)) rfl rfl rfl ?_
            skip
            refine dE rfl (e_app_pts (l := l.drop ((A : Int)).toNat) (l2 := l.take ((A : Int)).toNat) rfl rfl rfl (src_ss rfl (pts_ones _)) (by rw [List.length_drop, List.length_take]; omega) rfl rfl) rfl rfl ?_
            refine seal_Ds (i := 52) (h := 48) rfl rfl rfl rfl ?_
            skip
            refine dC rfl Try.func37 rfl rfl (heq) rfl (by repeat (first | exact .tags _ _ | apply Les.cons | exact .nil)) rfl rfl ?_
            ((refine dY rfl (y_not rfl) rfl rfl rfl rfl ?_); refine dY rfl (y_pick_f rfl rfl) rfl rfl rfl rfl ?_; refine dEnd ?_)
            repeat (first | refine seq_ ?_ | refine region_ ?_ | refine nil_ ?_ | refine ret_ ?_ | refine cond_t rfl ?_ | refine stepY (y_assign rfl) rfl ?_)
            ((apply fin_r); (repeat (first | exact .nil | exact .tmp rfl | apply ResL.cons)); (repeat (exact .refl _)))
        · rw [hcv, decide_eq_false (fun e => hl (by rw [e, hrl])), if_pos rfl]
          refine con_of Try.func13 rfl rfl rfl (by simp [noTs, noT, noT_pts]) rfl ?_
          repeat (first | refine seq_ ?_ | refine region_ ?_ | refine nil_ ?_ | refine stepY (y_move rfl) rfl ?_ | refine stepY (y_assign rfl) rfl ?_ | refine stepE (e_box rfl rfl rfl rfl rfl rfl) ?_)
          refine call_ Try.func32 rfl rfl (hc) rfl (by repeat (first | exact .refl _ | apply Les.cons | exact .nil)) rfl ?_
          repeat (first | refine seq_ ?_ | refine region_ ?_ | refine nil_ ?_ | refine skip_ ?_ | refine cond_f rfl ?_ | refine stepY (y_move rfl) rfl ?_ | refine stepY (y_assign rfl) rfl ?_ | refine stepY (y_loadA rfl rfl rfl) rfl ?_ | refine stepY (y_cmpF rfl rfl rfl (by omega)) rfl ?_ | refine stepE (e_bs_vs rfl rfl rfl rfl rfl rfl) ?_)
          refine seal_Ls (i := 18) (h := 18) rfl rfl rfl rfl ?_
          refine call_ Try.func35 rfl rfl (hc2) rfl (by repeat (first | exact .tags _ _ | apply Les.cons | exact .nil)) rfl ?_
          repeat (first | refine seq_ ?_ | refine region_ ?_ | refine nil_ ?_ | refine skip_ ?_ | refine cond_f rfl ?_ | refine stepY (y_move rfl) rfl ?_ | refine stepY (y_assign rfl) rfl ?_ | refine stepY (y_len_ps rfl) rfl ?_ | refine stepY (y_cmpF rfl rfl rfl (by omega)) rfl ?_ | refine stepY (y_cmpF rfl rfl rfl (by omega)) rfl ?_)
          refine call_ Try.func33 rfl rfl (hh) rfl (by repeat (first | exact .refl _ | apply Les.cons | exact .nil)) rfl ?_
          repeat (first | refine seq_ ?_ | refine region_ ?_ | refine nil_ ?_ | refine stepY (y_move rfl) rfl ?_ | refine stepY (y_assign rfl) rfl ?_ | refine stepY (y_load_rcA rfl rfl) rfl ?_ | refine stepY (y_index_ps rfl rfl (by omega) (by omega)) rfl ?_)
          refine call_ Try.func36 rfl rfl (hix) rfl (by repeat (first | exact .refl _ | apply Les.cons | exact .nil)) rfl ?_
          repeat (first | refine seq_ ?_ | refine nil_ ?_ | refine stepY (y_assign rfl) rfl ?_)
          refine draw_ [(0, true), (1, true), (2, true), (3, true), (4, true), (5, true), (6, true), (7, true), (8, true), (9, true), (10, true), (11, true), (12, true), (13, true), (14, true), (16, true), (17, true), (18, true), (15, false), (19, false), (20, false), (21, true), (22, true)] 1000 [] mixed (by kernel_rfl) rfl ?_
          ((refine dY rfl (y_move rfl) rfl rfl rfl rfl ?_); refine dY rfl (y_len_ps rfl) rfl rfl rfl rfl ?_; refine dY rfl (y_move rfl) rfl rfl rfl rfl ?_; refine dY rfl (y_len_ps rfl) rfl rfl rfl rfl ?_; refine dY rfl (y_cmpT rfl rfl rfl (by omega)) rfl rfl rfl rfl ?_; refine dY rfl (y_move rfl) rfl rfl rfl rfl ?_; (refine dSkip rfl rfl rfl rfl ?_); (refine dSkip rfl rfl rfl rfl ?_); (refine dSkip rfl rfl rfl rfl ?_); refine dY rfl (y_pick_t rfl rfl) rfl rfl rfl rfl ?_; refine dY rfl (y_move rfl) rfl rfl rfl rfl ?_; (refine dSkip rfl rfl rfl rfl ?_); (refine dSkip rfl rfl rfl rfl ?_); (refine dSkip rfl rfl rfl rfl ?_); (refine dSkip rfl rfl rfl rfl ?_); (refine dSkip rfl rfl rfl rfl ?_); (refine dSkip rfl rfl rfl rfl ?_); (refine dSkip rfl rfl rfl rfl ?_))
          first | refine dSkip rfl rfl rfl rfl ?_ | refine dSkip1 rfl rfl rfl rfl ?_
          skip
          first | refine dSkip rfl rfl rfl rfl ?_ | refine dSkip1 rfl rfl rfl rfl ?_
          skip
          first | refine dSkip rfl rfl rfl rfl ?_ | refine dSkip1 rfl rfl rfl rfl ?_
          ((refine dSkip rfl rfl rfl rfl ?_); refine dY rfl (y_pick_t rfl rfl) rfl rfl rfl rfl ?_; refine dEnd ?_)
          repeat (first | refine seq_ ?_ | refine region_ ?_ | refine nil_ ?_ | refine ret_ ?_ | refine cond_t rfl ?_ | refine stepY (y_assign rfl) rfl ?_)
          ((apply fin_r); (repeat (first | exact .nil | exact .tmp rfl | apply ResL.cons)); (repeat (exact .refl _)))
    · rw [if_pos hs]
      rw [if_neg hs] at hc2
      refine con_of Try.func13 rfl rfl rfl (by simp [noTs, noT, noT_pts]) rfl ?_
      repeat (first | refine seq_ ?_ | refine region_ ?_ | refine nil_ ?_ | refine stepY (y_move rfl) rfl ?_ | refine stepY (y_assign rfl) rfl ?_ | refine stepE (e_box rfl rfl rfl rfl rfl rfl) ?_)
      refine call_ Try.func32 rfl rfl (hc) rfl (by repeat (first | exact .refl _ | apply Les.cons | exact .nil)) rfl ?_
      repeat (first | refine seq_ ?_ | refine region_ ?_ | refine nil_ ?_ | refine skip_ ?_ | refine cond_f rfl ?_ | refine stepY (y_move rfl) rfl ?_ | refine stepY (y_assign rfl) rfl ?_ | refine stepY (y_loadA rfl rfl rfl) rfl ?_ | refine stepY (y_cmpF rfl rfl rfl (by omega)) rfl ?_ | refine stepE (e_bs_vs rfl rfl rfl rfl rfl rfl) ?_)
      refine seal_Ls (i := 18) (h := 18) rfl rfl rfl rfl ?_
      refine call_ Try.func35 rfl rfl (hc2) rfl (by repeat (first | exact .tags _ _ | apply Les.cons | exact .nil)) rfl ?_
      repeat (first | refine seq_ ?_ | refine region_ ?_ | refine nil_ ?_ | refine ret_ ?_ | refine cond_t rfl ?_ | refine stepY (y_move rfl) rfl ?_ | refine stepY (y_assign rfl) rfl ?_ | refine stepY (y_cmpT rfl rfl rfl (by omega)) rfl ?_)
      ((apply fin_r); (repeat (first | exact .nil | exact .tmp rfl | apply ResL.cons)); (repeat (exact .refl _)))
  · rw [if_pos h0]
    refine con_of Try.func13 rfl rfl rfl (by simp [noTs, noT, noT_pts]) rfl ?_
    repeat (first | refine seq_ ?_ | refine region_ ?_ | refine nil_ ?_ | refine stepY (y_move rfl) rfl ?_ | refine stepY (y_assign rfl) rfl ?_ | refine stepE (e_box rfl rfl rfl rfl rfl rfl) ?_)
    refine call_ Try.func32 rfl rfl (hc) rfl (by repeat (first | exact .refl _ | apply Les.cons | exact .nil)) rfl ?_
    repeat (first | refine seq_ ?_ | refine region_ ?_ | refine nil_ ?_ | refine ret_ ?_ | refine cond_t rfl ?_ | refine stepY (y_move rfl) rfl ?_ | refine stepY (y_assign rfl) rfl ?_ | refine stepY (y_cmpT rfl rfl rfl (by omega)) rfl ?_)
    ((apply fin_r); (repeat (first | exact .nil | exact .tmp rfl | apply ResL.cons)); (repeat (exact .refl _)))
end Go.Av

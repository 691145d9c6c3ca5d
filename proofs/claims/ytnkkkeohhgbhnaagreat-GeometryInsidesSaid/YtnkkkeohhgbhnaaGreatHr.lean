/- Contracts behind a law: no conditions beyond those in each statement. -/
import Derived.Test.YtnkkkeohhgbhnaaGreatHq
set_option maxHeartbeats 8000000
set_option exponentiation.threshold 100000
set_option maxRecDepth 100000
set_option linter.unusedVariables false
set_option linter.unusedSimpArgs false
namespace Go.Av
open Go Go.Proofs

open Go.RowKit
/-! Inside -/
def edg (l : List Pt) (p : Pt) (k : Nat) : Int := crossP (at_ l (k : Int)) (at_ l (((k : Int) + 1) % (l.length : Int))) p
def allE (l : List Pt) (p : Pt) : Bool := decide (∀ k : Nat, k < l.length → 0 ≤ edg l p k)
def insR (l : List Pt) (p : Pt) : Bool × Int := if chkR l ≠ 0 then (false, chkR l) else if ¬ sm p then (false, 3) else if l.length < 3 then (false, 7) else if cvx l = false then (false, 9) else (allE l p, 0)
theorem chk1 (p : Pt) : chkR [p] = if sm p then 0 else 3 := by
  simp only [chkR, witR, smB, List.length_cons, List.length_nil, List.all_cons, List.all_nil, Bool.and_true]
  rw [if_neg (by omega)]
  simp only [decide_eq_true_eq]
theorem wit1 (p : Pt) : witR [p] = if sm p then 0 else 3 := by
  simp only [witR, smB, List.all_cons, List.all_nil, Bool.and_true]
  simp only [decide_eq_true_eq]
theorem RInside_c (l : List Pt) (p : Pt) : Con Tryz.prog 7 [.ss false 2 (pts l), pt p] (.tp [Bo (insR l p).1, E_ (insR l p).2]) := by
  have hc := right_c l
  have hc2 := right_c [p]
  rw [chk1] at hc2
  unfold insR
  by_cases h0 : chkR l = 0
  · rw [if_neg (not_not_intro h0)]
    rw [h0] at hc
    obtain ⟨hn, hall⟩ := chk_ok h0
    by_cases hs : sm p
    · rw [if_neg (not_not_intro hs)]
      rw [if_pos hs] at hc2
      by_cases h3 : l.length < 3
      · rw [if_pos h3]
        refine con_of Tryz.func7 rfl rfl rfl (by simp [noTs, noT, noT_pts]) rfl ?_
        repeat (first | refine seq_ ?_ | refine region_ ?_ | refine nil_ ?_ | refine stepY (y_move rfl) rfl ?_ | refine stepY (y_assign rfl) rfl ?_ | refine stepE (e_box rfl rfl rfl rfl rfl rfl) ?_)
        refine call_ Tryz.func27 rfl rfl (hc) rfl (by repeat (first | exact .refl _ | apply Les.cons | exact .nil)) rfl ?_
        repeat (first | refine seq_ ?_ | refine region_ ?_ | refine nil_ ?_ | refine skip_ ?_ | refine cond_f rfl ?_ | refine stepY (y_move rfl) rfl ?_ | refine stepY (y_assign rfl) rfl ?_ | refine stepY (y_loadA rfl rfl rfl) rfl ?_ | refine stepY (y_cmpF rfl rfl rfl (by omega)) rfl ?_ | refine stepE (e_bs_vs rfl rfl rfl rfl rfl rfl) ?_)
        refine seal_Ls (i := 15) (h := 15) rfl rfl rfl rfl ?_
        refine call_ Tryz.func27 rfl rfl (hc2) rfl (by repeat (first | exact .tags _ _ | apply Les.cons | exact .nil)) rfl ?_
        repeat (first | refine seq_ ?_ | refine region_ ?_ | refine nil_ ?_ | refine skip_ ?_ | refine ret_ ?_ | refine cond_t rfl ?_ | refine cond_f rfl ?_ | refine stepY (y_move rfl) rfl ?_ | refine stepY (y_assign rfl) rfl ?_ | refine stepY (y_len_ps rfl) rfl ?_ | refine stepY (y_cmpF rfl rfl rfl (by omega)) rfl ?_ | refine stepY (y_cmpT rfl rfl rfl (by omega)) rfl ?_)
        ((apply fin_r); (repeat (first | exact .nil | exact .tmp rfl | apply ResL.cons)); (repeat (exact .refl _)))
      · rw [if_neg h3]
        have hcv := Convex_c l (fun e => h3 (by rw [e]; decide)) hall hn
        cases hv : cvx l with
        | false =>
          rw [hv] at hcv
          rw [if_pos rfl]
          refine con_of Tryz.func7 rfl rfl rfl (by simp [noTs, noT, noT_pts]) rfl ?_
          repeat (first | refine seq_ ?_ | refine region_ ?_ | refine nil_ ?_ | refine stepY (y_move rfl) rfl ?_ | refine stepY (y_assign rfl) rfl ?_ | refine stepE (e_box rfl rfl rfl rfl rfl rfl) ?_)
          refine call_ Tryz.func27 rfl rfl (hc) rfl (by repeat (first | exact .refl _ | apply Les.cons | exact .nil)) rfl ?_
          repeat (first | refine seq_ ?_ | refine region_ ?_ | refine nil_ ?_ | refine skip_ ?_ | refine cond_f rfl ?_ | refine stepY (y_move rfl) rfl ?_ | refine stepY (y_assign rfl) rfl ?_ | refine stepY (y_loadA rfl rfl rfl) rfl ?_ | refine stepY (y_cmpF rfl rfl rfl (by omega)) rfl ?_ | refine stepE (e_bs_vs rfl rfl rfl rfl rfl rfl) ?_)
          refine seal_Ls (i := 15) (h := 15) rfl rfl rfl rfl ?_
          refine call_ Tryz.func27 rfl rfl (hc2) rfl (by repeat (first | exact .tags _ _ | apply Les.cons | exact .nil)) rfl ?_
          repeat (first | refine seq_ ?_ | refine region_ ?_ | refine nil_ ?_ | refine skip_ ?_ | refine cond_f rfl ?_ | refine stepY (y_move rfl) rfl ?_ | refine stepY (y_assign rfl) rfl ?_ | refine stepY (y_len_ps rfl) rfl ?_ | refine stepY (y_cmpF rfl rfl rfl (by omega)) rfl ?_ | refine stepY (y_cmpF rfl rfl rfl (by omega)) rfl ?_)
          refine call_ Tryz.func28 rfl rfl (hcv) rfl (by repeat (first | exact .refl _ | apply Les.cons | exact .nil)) rfl ?_
          repeat (first | refine seq_ ?_ | refine region_ ?_ | refine nil_ ?_ | refine ret_ ?_ | refine cond_t rfl ?_ | refine stepY (y_assign rfl) rfl ?_ | refine stepY (y_not rfl) rfl ?_)
          ((apply fin_r); (repeat (first | exact .nil | exact .tmp rfl | apply ResL.cons)); (repeat (exact .refl _)))
        | true =>
          rw [hv] at hcv
          rw [if_neg (by decide)]
          refine con_of Tryz.func7 rfl rfl rfl (by simp [noTs, noT, noT_pts]) rfl ?_
          repeat (first | refine seq_ ?_ | refine region_ ?_ | refine nil_ ?_ | refine stepY (y_move rfl) rfl ?_ | refine stepY (y_assign rfl) rfl ?_ | refine stepE (e_box rfl rfl rfl rfl rfl rfl) ?_)
          refine call_ Tryz.func27 rfl rfl (hc) rfl (by repeat (first | exact .refl _ | apply Les.cons | exact .nil)) rfl ?_
          repeat (first | refine seq_ ?_ | refine region_ ?_ | refine nil_ ?_ | refine skip_ ?_ | refine cond_f rfl ?_ | refine stepY (y_move rfl) rfl ?_ | refine stepY (y_assign rfl) rfl ?_ | refine stepY (y_loadA rfl rfl rfl) rfl ?_ | refine stepY (y_cmpF rfl rfl rfl (by omega)) rfl ?_ | refine stepE (e_bs_vs rfl rfl rfl rfl rfl rfl) ?_)
          refine seal_Ls (i := 15) (h := 15) rfl rfl rfl rfl ?_
          refine call_ Tryz.func27 rfl rfl (hc2) rfl (by repeat (first | exact .tags _ _ | apply Les.cons | exact .nil)) rfl ?_
          repeat (first | refine seq_ ?_ | refine region_ ?_ | refine nil_ ?_ | refine skip_ ?_ | refine cond_f rfl ?_ | refine stepY (y_move rfl) rfl ?_ | refine stepY (y_assign rfl) rfl ?_ | refine stepY (y_len_ps rfl) rfl ?_ | refine stepY (y_cmpF rfl rfl rfl (by omega)) rfl ?_ | refine stepY (y_cmpF rfl rfl rfl (by omega)) rfl ?_)
          refine call_ Tryz.func28 rfl rfl (hcv) rfl (by repeat (first | exact .refl _ | apply Les.cons | exact .nil)) rfl ?_
          repeat (first | refine seq_ ?_ | refine region_ ?_ | refine nil_ ?_ | refine skip_ ?_ | refine block_ ?_ | refine cond_f rfl ?_ | refine stepY (y_assign rfl) rfl ?_ | refine stepY (y_not rfl) rfl ?_)
          refine loop_ (α := Nat) (fun k => ([(0, .p (.ss false 2 (pts l))), (3, .ptr 3 0), (8, .p (I k))], [(3, .bx [I p.1, I p.2])])) (fun k => k ≤ l.length ∧ ∀ j : Nat, j < k → 0 ≤ edg l p j) (fun k => l.length - k) 0 ⟨by omega, fun j h => absurd h (by omega)⟩ ?_ ?_ ?_
          · (repeat (first | exact sub_nil | refine sub_cons rfl ?_))
          · (repeat (first | exact subH_nil | refine subH_cons rfl ?_))
          rintro k ⟨hk, hall2⟩
          by_cases h : k < l.length
          · have hm0 : 0 ≤ ((k : Int) + 1) % (l.length : Int) := Int.emod_nonneg _ (by omega)
            have hm1 : ((k : Int) + 1) % (l.length : Int) < l.length := Int.emod_lt_of_pos _ (by omega)
            have s1 := at_all hall (n := (k : Int)) (by omega) (by omega)
            have s2 := at_all hall hm0 hm1
            have hx := Rcross_c (at_ l (k : Int)) (at_ l (((k : Int) + 1) % (l.length : Int))) p s1 s2 hs
            have he : crossP (at_ l (k : Int)) (at_ l (((k : Int) + 1) % (l.length : Int))) p = edg l p k := rfl
            rw [he] at hx
            by_cases hc : edg l p k < 0
            · have hA : allE l p = false := decide_eq_false (fun g => by have := g k h; omega)
              rw [hA]
              repeat (first | refine seq_ ?_ | refine region_ ?_ | refine nil_ ?_ | refine skip_ ?_ | refine block_ ?_ | refine cond_t rfl ?_ | refine stepY (y_move rfl) rfl ?_ | refine stepY (y_len_ps rfl) rfl ?_ | refine stepY (y_cmpT rfl rfl rfl (by omega)) rfl ?_)
              refine draw_ [(0, true), (1, true), (2, true), (3, true), (4, true), (5, true), (6, true), (7, true), (8, true), (9, true), (10, true), (11, true), (12, true), (13, false), (14, true)] 1000 [3] mixed (by kernel_rfl) rfl ?_
              ((refine dY rfl (y_move rfl) rfl rfl rfl rfl ?_); refine dY rfl (y_move rfl) rfl rfl rfl rfl ?_; refine dY rfl (y_index_ps rfl rfl (by omega) (by omega)) rfl rfl rfl rfl ?_; refine dY rfl (y_load_rcA rfl rfl) rfl rfl rfl rfl ?_; refine dY rfl (y_move rfl) rfl rfl rfl rfl ?_; refine dY rfl (y_move rfl) rfl rfl rfl rfl ?_; refine dY rfl (y_binn rfl rfl rfl (by simp only [InK, loK, hiK]; omega)) rfl rfl rfl rfl ?_; refine dY rfl (y_move rfl) rfl rfl rfl rfl ?_; refine dY rfl (y_len_ps rfl) rfl rfl rfl rfl ?_; refine dY rfl (y_remp rfl rfl (by omega) (by omega)) rfl rfl rfl rfl ?_; refine dY rfl (y_index_ps rfl rfl (by omega) (by omega)) rfl rfl rfl rfl ?_; refine dY rfl (y_load_rcA rfl rfl) rfl rfl rfl rfl ?_; refine dY rfl (y_loadA rfl rfl rfl) rfl rfl rfl rfl ?_)
              refine dC rfl Tryz.func29 rfl rfl (hx) rfl (by repeat (first | exact .refl _ | apply Les.cons | exact .nil)) rfl rfl ?_
              ((refine dY rfl (y_cmpT rfl rfl rfl (by omega)) rfl rfl rfl rfl ?_); refine dEnd ?_)
              repeat (first | refine seq_ ?_ | refine region_ ?_ | refine nil_ ?_ | refine ret_ ?_ | refine cond_t rfl ?_ | refine stepY (y_assign rfl) rfl ?_)
              ((apply fin_r); (repeat (first | exact .nil | exact .tmp rfl | apply ResL.cons)); (repeat (exact .refl _)))
            · repeat (first | refine seq_ ?_ | refine region_ ?_ | refine nil_ ?_ | refine skip_ ?_ | refine block_ ?_ | refine cond_t rfl ?_ | refine stepY (y_move rfl) rfl ?_ | refine stepY (y_len_ps rfl) rfl ?_ | refine stepY (y_cmpT rfl rfl rfl (by omega)) rfl ?_)
              refine draw_ [(0, true), (1, true), (2, true), (3, true), (4, true), (5, true), (6, true), (7, true), (8, true), (9, true), (10, true), (11, true), (12, true), (13, false), (14, true)] 1000 [3] mixed (by kernel_rfl) rfl ?_
              ((refine dY rfl (y_move rfl) rfl rfl rfl rfl ?_); refine dY rfl (y_move rfl) rfl rfl rfl rfl ?_; refine dY rfl (y_index_ps rfl rfl (by omega) (by omega)) rfl rfl rfl rfl ?_; refine dY rfl (y_load_rcA rfl rfl) rfl rfl rfl rfl ?_; refine dY rfl (y_move rfl) rfl rfl rfl rfl ?_; refine dY rfl (y_move rfl) rfl rfl rfl rfl ?_; refine dY rfl (y_binn rfl rfl rfl (by simp only [InK, loK, hiK]; omega)) rfl rfl rfl rfl ?_; refine dY rfl (y_move rfl) rfl rfl rfl rfl ?_; refine dY rfl (y_len_ps rfl) rfl rfl rfl rfl ?_; refine dY rfl (y_remp rfl rfl (by omega) (by omega)) rfl rfl rfl rfl ?_; refine dY rfl (y_index_ps rfl rfl (by omega) (by omega)) rfl rfl rfl rfl ?_; refine dY rfl (y_load_rcA rfl rfl) rfl rfl rfl rfl ?_; refine dY rfl (y_loadA rfl rfl rfl) rfl rfl rfl rfl ?_)
              refine dC rfl Tryz.func29 rfl rfl (hx) rfl (by repeat (first | exact .refl _ | apply Les.cons | exact .nil)) rfl rfl ?_
              ((refine dY rfl (y_cmpF rfl rfl rfl (by omega)) rfl rfl rfl rfl ?_); refine dEnd ?_)
              repeat (first | refine region_ ?_ | refine nil_ ?_ | refine skip_ ?_ | refine cond_f rfl ?_ | refine stepY (y_move rfl) rfl ?_ | refine stepY (y_assign rfl) rfl ?_ | refine stepY (y_binn rfl rfl rfl (by simp only [InK, loK, hiK]; omega)) rfl ?_)
              refine ⟨k + 1, ⟨by omega, fun j hj => ?_⟩, by omega, ?_, ?_⟩
              · by_cases hjk : j < k
                · exact hall2 j hjk
                · have : j = k := by omega
                  subst this
                  omega
              · (repeat (first | exact sub_nil | refine sub_cons rfl ?_))
              · (repeat (first | exact subH_nil | refine subH_cons rfl ?_))
          · have e : k = l.length := by omega
            subst e
            have hA : allE l p = true := decide_eq_true hall2
            rw [hA]
            repeat (first | refine seq_ ?_ | refine region_ ?_ | refine nil_ ?_ | refine exit_ ?_ | refine ret_ ?_ | refine cond_f rfl ?_ | refine stepY (y_move rfl) rfl ?_ | refine stepY (y_assign rfl) rfl ?_ | refine stepY (y_len_ps rfl) rfl ?_ | refine stepY (y_cmpF rfl rfl rfl (by omega)) rfl ?_)
            ((apply fin_r); (repeat (first | exact .nil | exact .tmp rfl | apply ResL.cons)); (repeat (exact .refl _)))
    · rw [if_pos hs]
      rw [if_neg hs] at hc2
      refine con_of Tryz.func7 rfl rfl rfl (by simp [noTs, noT, noT_pts]) rfl ?_
      repeat (first | refine seq_ ?_ | refine region_ ?_ | refine nil_ ?_ | refine stepY (y_move rfl) rfl ?_ | refine stepY (y_assign rfl) rfl ?_ | refine stepE (e_box rfl rfl rfl rfl rfl rfl) ?_)
      refine call_ Tryz.func27 rfl rfl (hc) rfl (by repeat (first | exact .refl _ | apply Les.cons | exact .nil)) rfl ?_
      repeat (first | refine seq_ ?_ | refine region_ ?_ | refine nil_ ?_ | refine skip_ ?_ | refine cond_f rfl ?_ | refine stepY (y_move rfl) rfl ?_ | refine stepY (y_assign rfl) rfl ?_ | refine stepY (y_loadA rfl rfl rfl) rfl ?_ | refine stepY (y_cmpF rfl rfl rfl (by omega)) rfl ?_ | refine stepE (e_bs_vs rfl rfl rfl rfl rfl rfl) ?_)
      refine seal_Ls (i := 15) (h := 15) rfl rfl rfl rfl ?_
      refine call_ Tryz.func27 rfl rfl (hc2) rfl (by repeat (first | exact .tags _ _ | apply Les.cons | exact .nil)) rfl ?_
      repeat (first | refine seq_ ?_ | refine region_ ?_ | refine nil_ ?_ | refine ret_ ?_ | refine cond_t rfl ?_ | refine stepY (y_move rfl) rfl ?_ | refine stepY (y_assign rfl) rfl ?_ | refine stepY (y_cmpT rfl rfl rfl (by omega)) rfl ?_)
      ((apply fin_r); (repeat (first | exact .nil | exact .tmp rfl | apply ResL.cons)); (repeat (exact .refl _)))
  · rw [if_pos h0]
    refine con_of Tryz.func7 rfl rfl rfl (by simp [noTs, noT, noT_pts]) rfl ?_
    repeat (first | refine seq_ ?_ | refine region_ ?_ | refine nil_ ?_ | refine stepY (y_move rfl) rfl ?_ | refine stepY (y_assign rfl) rfl ?_ | refine stepE (e_box rfl rfl rfl rfl rfl rfl) ?_)
    refine call_ Tryz.func27 rfl rfl (hc) rfl (by repeat (first | exact .refl _ | apply Les.cons | exact .nil)) rfl ?_
    repeat (first | refine seq_ ?_ | refine region_ ?_ | refine nil_ ?_ | refine ret_ ?_ | refine cond_t rfl ?_ | refine stepY (y_move rfl) rfl ?_ | refine stepY (y_assign rfl) rfl ?_ | refine stepY (y_cmpT rfl rfl rfl (by omega)) rfl ?_)
    ((apply fin_r); (repeat (first | exact .nil | exact .tmp rfl | apply ResL.cons)); (repeat (exact .refl _)))
end Go.Av

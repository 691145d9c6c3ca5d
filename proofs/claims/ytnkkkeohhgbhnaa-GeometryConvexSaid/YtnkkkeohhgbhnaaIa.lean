/- Contracts behind a law: no conditions beyond those in each statement. -/
import Derived.Test.YtnkkkeohhgbhnaaHz
set_option maxHeartbeats 8000000
set_option exponentiation.threshold 100000
set_option maxRecDepth 100000
set_option linter.unusedVariables false
set_option linter.unusedSimpArgs false
namespace Go.Av
open Go Go.Proofs

open Go.RowKit
theorem tmod_bd2 (t : Int) {n : Int} (hn : 0 < n) : -n < t.tmod n ∧ t.tmod n < n := by
  have h1 := Int.tmod_lt_of_pos t hn
  have h2 := tmod_lt (a := t) (b := n) (by omega)
  omega
def inS (l : List Pt) (p : Pt) : Nat → Bool
  | 0 => false
  | k + 1 => inS l p k || decide (at_ l (k : Int) = p)
theorem inS_has {l : List Pt} {p : Pt} : ∀ {j k : Nat}, j < k → at_ l (j : Int) = p → inS l p k = true
  | j, k + 1, h, e => by
    unfold inS
    by_cases c : j = k
    · subst c; rw [decide_eq_true e, Bool.or_true]
    · rw [inS_has (k := k) (by omega) e, Bool.true_or]
theorem inS_all {l : List Pt} {p : Pt} (h : p ∈ l) : inS l p l.length = true := inS_has (ix_lt h) (ix_at h)
theorem GConvex_h (h9 : Con Try.prog 9 [] (Bo true)) (l : List Pt) (t : Int) : Con Try.prog 3 [.ss false 2 (pts l), I t] (Bo true) := by
  refine con_of Try.func3 rfl rfl rfl (by simp [noTs, noT, noT_pts]) rfl ?_
  by_cases hl : 60 < l.length
  · repeat (first | refine seq_ ?_ | refine region_ ?_ | refine nil_ ?_ | refine cond_t rfl ?_ | refine stepY (y_move rfl) rfl ?_ | refine stepY (y_assign rfl) rfl ?_ | refine stepY (y_len_ps rfl) rfl ?_ | refine stepY (y_cmpT rfl rfl rfl (by omega)) rfl ?_)
    refine call_ Try.func9 rfl rfl (h9) rfl (by repeat (exact .nil)) rfl ?_
    repeat (first | refine nil_ ?_ | refine ret_ ?_ | refine stepY (y_assign rfl) rfl ?_)
    ((apply fin_r); (repeat (first | exact .nil | exact .tmp rfl | apply ResL.cons)); (repeat (exact .refl _)))
  · have h1 := Hull_c l
    by_cases c0 : chkR l = 0
    · obtain ⟨hn, hs⟩ := chk_ok c0
      by_cases c1 : l.length = 0
      · have e1 : hlR l = ([], 5) := by unfold hlR; rw [if_neg (not_not_intro c0), if_pos c1]
        rw [e1] at h1
        have h1 : Con Try.prog 10 [.ss false 2 (pts l)] (.tp [.ss true 2 (pts []), E_ 5]) := h1
        repeat (first | refine seq_ ?_ | refine region_ ?_ | refine nil_ ?_ | refine skip_ ?_ | refine cond_f rfl ?_ | refine stepY (y_move rfl) rfl ?_ | refine stepY (y_assign rfl) rfl ?_ | refine stepY (y_len_ps rfl) rfl ?_ | refine stepY (y_cmpF rfl rfl rfl (by omega)) rfl ?_)
        refine call_ Try.func10 rfl rfl (h1) rfl (by repeat (first | exact .refl _ | apply Les.cons | exact .nil)) rfl ?_
        repeat (first | refine seq_ ?_ | refine region_ ?_ | refine nil_ ?_ | refine cond_t rfl ?_ | refine guard_t rfl rfl rfl ?_ | refine stepY (y_move rfl) rfl ?_ | refine stepY (y_assign rfl) rfl ?_ | refine stepY (y_extract rfl rfl) rfl ?_ | refine stepY (y_len_ps rfl) rfl ?_ | refine stepY (y_cmpT rfl rfl rfl (by omega)) rfl ?_ | refine stepY (y_bin rfl rfl rfl) rfl ?_)
        refine call_ Try.func9 rfl rfl (h9) rfl (by repeat (exact .nil)) rfl ?_
        repeat (first | refine nil_ ?_ | refine ret_ ?_ | refine stepY (y_assign rfl) rfl ?_ | refine stepY (y_pick_t rfl rfl) rfl ?_)
        ((apply fin_r); (repeat (first | exact .nil | exact .tmp rfl | apply ResL.cons)); (repeat (exact .refl _)))
      · have h0 : l ≠ [] := fun e => c1 (by rw [e]; rfl)
        have e1 : hlR l = (hullF l, 0) := by unfold hlR; rw [if_neg (not_not_intro c0), if_neg c1]
        rw [e1] at h1
        have h1 : Con Try.prog 10 [.ss false 2 (pts l)] (.tp [.ss true 2 (pts (hullF l)), E_ 0]) := h1
        obtain ⟨b1, b2⟩ := tmod_bd2 t (n := (l.length : Int)) (by omega)
        have hm0 : 0 ≤ (t.tmod (l.length : Int) + (l.length : Int)) % (l.length : Int) := Int.emod_nonneg _ (by omega)
        have hm1 : (t.tmod (l.length : Int) + (l.length : Int)) % (l.length : Int) < l.length := Int.emod_lt_of_pos _ (by omega)
        have hoth := Hull_c (othS l ((t.tmod (l.length : Int) + (l.length : Int)) % (l.length : Int)) l.length)
        rw [oth_hull h0 hs hm0 hm1 hn] at hoth
        have hhull := Hull_c (hullF l)
        rw [hull_hull h0 hs hn] at hhull
        have hP := Points_c (hullF l) (hullF l)
        rw [decide_eq_true rfl] at hP
        have hturn := @hull_turn l h0 hs
        have hins := @hull_ins l h0 hs hn
        have hsub := hull_sub h0 hs
        have hall := hull_all h0 hs
        have hhd := (hull_head h0 hs).1
        have hlen := hull_len h0 hs
        generalize hullF l = g at *
        have hoth : Con Try.prog 10 [.ss false 2 (pts (othS l ((t.tmod (l.length : Int) + (l.length : Int)) % (l.length : Int)) l.length))] (.tp [.ss true 2 (pts g), E_ 0]) := hoth
        have hhull : Con Try.prog 10 [.ss false 2 (pts g)] (.tp [.ss true 2 (pts g), E_ 0]) := hhull
        have hin : ∀ p, p ∈ l → ¬ g.length < 3 → Con Try.prog 13 [.ss false 2 (pts g), pt p] (.tp [Bo true, E_ 0]) := fun p hp h3 => by
          have := Inside_c g p
          rw [hins h3 hp] at this
          exact this
        repeat (first | refine seq_ ?_ | refine region_ ?_ | refine nil_ ?_ | refine skip_ ?_ | refine cond_f rfl ?_ | refine stepY (y_move rfl) rfl ?_ | refine stepY (y_assign rfl) rfl ?_ | refine stepY (y_len_ps rfl) rfl ?_ | refine stepY (y_cmpF rfl rfl rfl (by omega)) rfl ?_)
        refine call_ Try.func10 rfl rfl (h1) rfl (by repeat (first | exact .refl _ | apply Les.cons | exact .nil)) rfl ?_
        repeat (first | refine seq_ ?_ | refine region_ ?_ | refine nil_ ?_ | refine skip_ ?_ | refine block_ ?_ | refine cond_f rfl ?_ | refine stepY (y_move rfl) rfl ?_ | refine stepY (y_assign rfl) rfl ?_ | refine stepY (y_extract rfl rfl) rfl ?_ | refine stepY (y_len_ps rfl) rfl ?_ | refine stepY (y_binn rfl rfl rfl (by simp only [InK, loK, hiK]; omega)) rfl ?_ | (first | refine stepY (y_remp rfl rfl (by omega) (by omega)) rfl ?_ | refine stepY (y_rem rfl rfl (by omega)) rfl ?_) | refine stepY (y_cmpF rfl rfl rfl (by omega)) rfl ?_)
        generalize hkk : (t.tmod (l.length : Int) + (l.length : Int)) % (l.length : Int) = kk at *
        have holen := othS_len l kk
        refine nil_Cp (i := 8) 28 2 rfl rfl rfl ?_
        refine loop_ (α := Nat) (fun i => ([(0, .p (.ss false 2 (pts l))), (5, .p (.ss true 2 (pts g))), (7, .p (I kk)), (8, .vec 8), (50, .p (I l.length)), (51, .p (I i))], [(8, .vs 28 2 (pts (othS l kk i)))])) (fun i => i ≤ l.length) (fun i => l.length - i) 0 (by omega) ?_ ?_ ?_
        · (repeat (first | exact sub_nil | refine sub_cons rfl ?_))
        · (repeat (first | exact subH_nil | refine subH_cons rfl ?_))
        intro i hi
        by_cases hil : i < l.length
        · have hil2 := holen i
          have hob := othI_bd (l := l) (by omega) kk i
          unfold othI at hob
          obtain ⟨hob1, hob2⟩ := hob
          have hst : othS l kk (i + 1) = othS l kk i ++ [at_ l ((kk + (l.length : Int) - (i : Int)) % (l.length : Int))] := rfl
          repeat (first | refine seq_ ?_ | refine region_ ?_ | refine nil_ ?_ | refine skip_ ?_ | refine block_ ?_ | refine cond_t rfl ?_ | refine stepY (y_move rfl) rfl ?_ | refine stepY (y_assign rfl) rfl ?_ | refine stepY (y_load_rcA rfl rfl) rfl ?_ | refine stepY (y_len_ps rfl) rfl ?_ | refine stepY (y_index_ps rfl rfl (by omega) (by omega)) rfl ?_ | refine stepY (y_binn rfl rfl rfl (by simp only [InK, loK, hiK]; omega)) rfl ?_ | refine stepY (y_binn rfl rfl rfl (by simp only [InK, loK, hiK]; omega)) rfl ?_ | refine stepY (y_remp rfl rfl (by omega) (by omega)) rfl ?_ | refine stepY (y_cmpT rfl rfl rfl (by omega)) rfl ?_ | refine stepE (e_bs_vs rfl rfl rfl rfl rfl rfl) ?_)
          refine stepE (e_app_pts (l2 := [at_ l ((kk + (l.length : Int) - (i : Int)) % (l.length : Int))]) rfl rfl rfl (src_vs rfl rfl) (by simp only [List.length_cons, List.length_nil]; omega) rfl rfl) ?_
          repeat (first | refine region_ ?_ | refine nil_ ?_ | refine stepY (y_move rfl) rfl ?_ | refine stepY (y_assign rfl) rfl ?_ | refine stepY (y_binn rfl rfl rfl (by simp only [InK, loK, hiK]; omega)) rfl ?_)
          rw [← hst]
          refine ⟨i + 1, by omega, by omega, ?_, ?_⟩
          · (repeat (first | exact sub_nil | refine sub_cons rfl ?_))
          · (repeat (first | exact subH_nil | refine subH_cons rfl ?_))
        · have e : i = l.length := by omega
          subst e
          repeat (first | refine seq_ ?_ | refine region_ ?_ | refine nil_ ?_ | refine exit_ ?_ | refine cond_f rfl ?_ | refine stepY (y_move rfl) rfl ?_ | refine stepY (y_cmpF rfl rfl rfl (by omega)) rfl ?_)
          refine seal_Ls (i := 71) (h := 8) rfl rfl rfl rfl ?_
          refine call_ Try.func10 rfl rfl (hoth) rfl (by repeat (first | exact .tags _ _ | apply Les.cons | exact .nil)) rfl ?_
          repeat (first | refine seq_ ?_ | refine region_ ?_ | refine nil_ ?_ | refine stepY (y_move rfl) rfl ?_ | refine stepY (y_assign rfl) rfl ?_ | refine stepY (y_extract rfl rfl) rfl ?_)
          refine call_ Try.func10 rfl rfl (hhull) rfl (by repeat (first | exact .tags _ _ | apply Les.cons | exact .nil)) rfl ?_
          repeat (first | refine seq_ ?_ | refine region_ ?_ | refine nil_ ?_ | refine guard_t rfl rfl rfl ?_ | refine stepY (y_move rfl) rfl ?_ | refine stepY (y_assign rfl) rfl ?_ | refine stepY (y_extract rfl rfl) rfl ?_ | refine stepY (y_pick_f rfl rfl) rfl ?_ | refine stepY (y_cmpF rfl rfl rfl (by omega)) rfl ?_)
          refine call_ Try.func11 rfl rfl (hP) rfl (by repeat (first | exact .tags _ _ | apply Les.cons | exact .nil)) rfl ?_
          repeat (first | refine guard_t rfl rfl rfl ?_ | refine stepY (y_move rfl) rfl ?_ | refine stepY (y_not rfl) rfl ?_ | refine stepY (y_pick_f rfl rfl) rfl ?_)
          refine call_ Try.func11 rfl rfl (hP) rfl (by repeat (first | exact .tags _ _ | apply Les.cons | exact .nil)) rfl ?_
          repeat (first | refine seq_ ?_ | refine region_ ?_ | refine nil_ ?_ | refine skip_ ?_ | refine block_ ?_ | refine cond_f rfl ?_ | refine guard_t rfl rfl rfl ?_ | refine stepY (y_move rfl) rfl ?_ | refine stepY (y_len_ps rfl) rfl ?_ | refine stepY (y_not rfl) rfl ?_ | refine stepY (y_pick_f rfl rfl) rfl ?_ | refine stepY (y_cmpF rfl rfl rfl (by omega)) rfl ?_)
          refine loop_ (α := Nat) (fun a => ([(0, .p (.ss false 2 (pts l))), (5, .p (.ss true 2 (pts g))), (104, .p (I g.length)), (105, .p (I a))], [])) (fun a => a ≤ g.length) (fun a => g.length - a) 0 (by omega) ?_ ?_ ?_
          · (repeat (first | exact sub_nil | refine sub_cons rfl ?_))
          · (repeat (exact subH_nil))
          intro a ha
          by_cases hal : a < g.length
          · have hpm : at_ g (a : Int) ∈ l := hsub _ (at_mem (by omega) (by omega))
            have hin1 := inS_all hpm
            have hm2 : 0 ≤ ((a : Int) + 1) % (g.length : Int) := Int.emod_nonneg _ (by omega)
            have hm3 : ((a : Int) + 1) % (g.length : Int) < g.length := Int.emod_lt_of_pos _ (by omega)
            have hm4 : 0 ≤ ((a : Int) + 2) % (g.length : Int) := Int.emod_nonneg _ (by omega)
            have hm5 : ((a : Int) + 2) % (g.length : Int) < g.length := Int.emod_lt_of_pos _ (by omega)
            have s1 := at_all hall (n := (a : Int)) (by omega) (by omega)
            have s2 := at_all hall hm2 hm3
            have s3 := at_all hall hm4 hm5
            have hcr := Cross_c (at_ g (a : Int)) (at_ g (((a : Int) + 1) % (g.length : Int))) (at_ g (((a : Int) + 2) % (g.length : Int)))
            unfold crR at hcr
            rw [if_pos ⟨s1, s2, s3⟩] at hcr
            have hcr : Con Try.prog 12 [pt (at_ g (a : Int)), pt (at_ g (((a : Int) + 1) % (g.length : Int))), pt (at_ g (((a : Int) + 2) % (g.length : Int)))] (.tp [I (crossP (at_ g (a : Int)) (at_ g (((a : Int) + 1) % (g.length : Int))) (at_ g (((a : Int) + 2) % (g.length : Int)))), E_ 0]) := hcr
            have htu : 2 < g.length → 0 < crossP (at_ g (a : Int)) (at_ g (((a : Int) + 1) % (g.length : Int))) (at_ g (((a : Int) + 2) % (g.length : Int))) := fun h3 => hturn h3 hal
            generalize crossP (at_ g (a : Int)) (at_ g (((a : Int) + 1) % (g.length : Int))) (at_ g (((a : Int) + 2) % (g.length : Int))) = c at *
            repeat (first | refine seq_ ?_ | refine region_ ?_ | refine nil_ ?_ | refine skip_ ?_ | refine block_ ?_ | refine cond_t rfl ?_ | refine stepY (y_move rfl) rfl ?_ | refine stepY (y_assign rfl) rfl ?_ | refine stepY (y_len_ps rfl) rfl ?_ | refine stepY (y_cmpT rfl rfl rfl (by omega)) rfl ?_)
            refine loop_ (α := Nat) (fun b => ([(0, .p (.ss false 2 (pts l))), (5, .p (.ss true 2 (pts g))), (14, .p (I a)), (15, .p (Bo (inS l (at_ g (a : Int)) b))), (104, .p (I g.length)), (105, .p (I a)), (109, .p (I l.length)), (110, .p (I b))], [])) (fun b => b ≤ l.length) (fun b => l.length - b) 0 (by omega) ?_ ?_ ?_
            · (repeat (first | exact sub_nil | refine sub_cons rfl ?_))
            · (repeat (exact subH_nil))
            intro b hb
            by_cases hbl : b < l.length
            · have hst : inS l (at_ g (a : Int)) (b + 1) = (inS l (at_ g (a : Int)) b || decide (at_ l (b : Int) = at_ g (a : Int))) := rfl
              have hq := eqI_pt (at_ l (b : Int)) (at_ g (a : Int))
              cases hv : inS l (at_ g (a : Int)) b with
              | true =>
                rw [hv, Bool.true_or] at hst
                repeat (first | refine seq_ ?_ | refine region_ ?_ | refine nil_ ?_ | refine skip_ ?_ | refine block_ ?_ | refine cond_t rfl ?_ | refine stepY (y_move rfl) rfl ?_ | refine stepY (y_assign rfl) rfl ?_ | refine stepY (y_cmpT rfl rfl rfl (by omega)) rfl ?_)
                refine draw_ [(0, true), (1, true), (2, true), (3, true), (4, true), (5, true), (6, true), (7, true), (8, true), (9, true), (10, true), (11, true), (12, true)] 1000 [] mixed (by kernel_rfl) rfl ?_
                ((refine dY rfl (y_move rfl) rfl rfl rfl rfl ?_); refine dY rfl (y_move rfl) rfl rfl rfl rfl ?_; (refine dSkip rfl rfl rfl rfl ?_); (refine dSkip rfl rfl rfl rfl ?_); (refine dSkip rfl rfl rfl rfl ?_); (refine dSkip rfl rfl rfl rfl ?_); (refine dSkip rfl rfl rfl rfl ?_); (refine dSkip rfl rfl rfl rfl ?_); (refine dSkip rfl rfl rfl rfl ?_); (refine dSkip rfl rfl rfl rfl ?_); (refine dSkip rfl rfl rfl rfl ?_); refine dY rfl (y_pick_t rfl rfl) rfl rfl rfl rfl ?_; refine dY rfl (y_assign rfl) rfl rfl rfl rfl ?_; refine dEnd ?_)
                repeat (first | refine region_ ?_ | refine nil_ ?_ | refine stepY (y_move rfl) rfl ?_ | refine stepY (y_binn rfl rfl rfl (by simp only [InK, loK, hiK]; omega)) rfl ?_)
                refine ⟨b + 1, by omega, by omega, ?_, ?_⟩
                · rw [hst]
                  (repeat (first | exact sub_nil | refine sub_cons rfl ?_))
                · (repeat (exact subH_nil))
              | false =>
                rw [hv, Bool.false_or] at hst
                by_cases e2 : at_ l (b : Int) = at_ g (a : Int)
                · rw [decide_eq_true e2] at hq hst
                  repeat (first | refine seq_ ?_ | refine region_ ?_ | refine nil_ ?_ | refine skip_ ?_ | refine block_ ?_ | refine cond_t rfl ?_ | refine stepY (y_move rfl) rfl ?_ | refine stepY (y_assign rfl) rfl ?_ | refine stepY (y_cmpT rfl rfl rfl (by omega)) rfl ?_)
                  refine draw_ [(0, true), (1, true), (2, true), (3, true), (4, true), (5, true), (6, true), (7, true), (8, true), (9, true), (10, true), (11, true), (12, true)] 1000 [] mixed (by kernel_rfl) rfl ?_
                  ((refine dY rfl (y_move rfl) rfl rfl rfl rfl ?_); refine dY rfl (y_move rfl) rfl rfl rfl rfl ?_; refine dY rfl (y_move rfl) rfl rfl rfl rfl ?_; refine dY rfl (y_move rfl) rfl rfl rfl rfl ?_; refine dY rfl (y_index_ps rfl rfl (by omega) (by omega)) rfl rfl rfl rfl ?_; refine dY rfl (y_load_rcA rfl rfl) rfl rfl rfl rfl ?_; refine dY rfl (y_move rfl) rfl rfl rfl rfl ?_; refine dY rfl (y_move rfl) rfl rfl rfl rfl ?_; refine dY rfl (y_index_ps rfl rfl (by omega) (by omega)) rfl rfl rfl rfl ?_; refine dY rfl (y_load_rcA rfl rfl) rfl rfl rfl rfl ?_; refine dY rfl (y_eqI rfl rfl rfl rfl rfl rfl (by assumption)) rfl rfl rfl rfl ?_; refine dY rfl (y_pick_f rfl rfl) rfl rfl rfl rfl ?_; refine dY rfl (y_assign rfl) rfl rfl rfl rfl ?_; refine dEnd ?_)
                  repeat (first | refine region_ ?_ | refine nil_ ?_ | refine stepY (y_move rfl) rfl ?_ | refine stepY (y_binn rfl rfl rfl (by simp only [InK, loK, hiK]; omega)) rfl ?_)
                  refine ⟨b + 1, by omega, by omega, ?_, ?_⟩
                  · rw [hst]
                    (repeat (first | exact sub_nil | refine sub_cons rfl ?_))
                  · (repeat (exact subH_nil))
                · rw [decide_eq_false e2] at hq hst
                  repeat (first | refine seq_ ?_ | refine region_ ?_ | refine nil_ ?_ | refine skip_ ?_ | refine block_ ?_ | refine cond_t rfl ?_ | refine stepY (y_move rfl) rfl ?_ | refine stepY (y_assign rfl) rfl ?_ | refine stepY (y_cmpT rfl rfl rfl (by omega)) rfl ?_)
                  refine draw_ [(0, true), (1, true), (2, true), (3, true), (4, true), (5, true), (6, true), (7, true), (8, true), (9, true), (10, true), (11, true), (12, true)] 1000 [] mixed (by kernel_rfl) rfl ?_
                  ((refine dY rfl (y_move rfl) rfl rfl rfl rfl ?_); refine dY rfl (y_move rfl) rfl rfl rfl rfl ?_; refine dY rfl (y_move rfl) rfl rfl rfl rfl ?_; refine dY rfl (y_move rfl) rfl rfl rfl rfl ?_; refine dY rfl (y_index_ps rfl rfl (by omega) (by omega)) rfl rfl rfl rfl ?_; refine dY rfl (y_load_rcA rfl rfl) rfl rfl rfl rfl ?_; refine dY rfl (y_move rfl) rfl rfl rfl rfl ?_; refine dY rfl (y_move rfl) rfl rfl rfl rfl ?_; refine dY rfl (y_index_ps rfl rfl (by omega) (by omega)) rfl rfl rfl rfl ?_; refine dY rfl (y_load_rcA rfl rfl) rfl rfl rfl rfl ?_; refine dY rfl (y_eqI rfl rfl rfl rfl rfl rfl (by assumption)) rfl rfl rfl rfl ?_; refine dY rfl (y_pick_f rfl rfl) rfl rfl rfl rfl ?_; refine dY rfl (y_assign rfl) rfl rfl rfl rfl ?_; refine dEnd ?_)
                  repeat (first | refine region_ ?_ | refine nil_ ?_ | refine stepY (y_move rfl) rfl ?_ | refine stepY (y_binn rfl rfl rfl (by simp only [InK, loK, hiK]; omega)) rfl ?_)
                  refine ⟨b + 1, by omega, by omega, ?_, ?_⟩
                  · rw [hst]
                    (repeat (first | exact sub_nil | refine sub_cons rfl ?_))
                  · (repeat (exact subH_nil))
            · have e : b = l.length := by omega
              subst e
              rw [hin1]
              by_cases h3 : 2 < g.length
              · have htu2 := htu h3
                repeat (first | refine seq_ ?_ | refine region_ ?_ | refine nil_ ?_ | refine exit_ ?_ | refine cond_f rfl ?_ | refine stepY (y_cmpF rfl rfl rfl (by omega)) rfl ?_)
                refine draw_ [(0, true), (1, true), (2, true), (3, true), (4, true), (5, true), (6, true), (7, true), (8, true), (9, true), (10, true), (11, true), (12, true), (13, true), (14, true), (15, true), (16, true), (17, true), (18, true), (19, true), (20, false), (21, true), (22, true), (23, true), (24, true), (25, true)] 1000 [] mixed (by kernel_rfl) rfl ?_
                ((refine dY rfl (y_move rfl) rfl rfl rfl rfl ?_); refine dY rfl (y_move rfl) rfl rfl rfl rfl ?_; refine dY rfl (y_index_ps rfl rfl (by omega) (by omega)) rfl rfl rfl rfl ?_; refine dY rfl (y_load_rcA rfl rfl) rfl rfl rfl rfl ?_; refine dY rfl (y_move rfl) rfl rfl rfl rfl ?_; refine dY rfl (y_move rfl) rfl rfl rfl rfl ?_; refine dY rfl (y_binn rfl rfl rfl (by simp only [InK, loK, hiK]; omega)) rfl rfl rfl rfl ?_; refine dY rfl (y_move rfl) rfl rfl rfl rfl ?_; refine dY rfl (y_len_ps rfl) rfl rfl rfl rfl ?_; refine dY rfl (y_remp rfl rfl (by omega) (by omega)) rfl rfl rfl rfl ?_; refine dY rfl (y_index_ps rfl rfl (by omega) (by omega)) rfl rfl rfl rfl ?_; refine dY rfl (y_load_rcA rfl rfl) rfl rfl rfl rfl ?_; refine dY rfl (y_move rfl) rfl rfl rfl rfl ?_; refine dY rfl (y_move rfl) rfl rfl rfl rfl ?_; refine dY rfl (y_binn rfl rfl rfl (by simp only [InK, loK, hiK]; omega)) rfl rfl rfl rfl ?_; refine dY rfl (y_move rfl) rfl rfl rfl rfl ?_; refine dY rfl (y_len_ps rfl) rfl rfl rfl rfl ?_; refine dY rfl (y_remp rfl rfl (by omega) (by omega)) rfl rfl rfl rfl ?_; refine dY rfl (y_index_ps rfl rfl (by omega) (by omega)) rfl rfl rfl rfl ?_; refine dY rfl (y_load_rcA rfl rfl) rfl rfl rfl rfl ?_)
                refine dC rfl Try.func12 rfl rfl (hcr) rfl (by repeat (first | exact .refl _ | apply Les.cons | exact .nil)) rfl rfl ?_
                ((refine dY rfl (y_move rfl) rfl rfl rfl rfl ?_); refine dY rfl (y_extract rfl rfl) rfl rfl rfl rfl ?_; refine dY rfl (y_extract rfl rfl) rfl rfl rfl rfl ?_; refine dY rfl (y_assign rfl) rfl rfl rfl rfl ?_; refine dY rfl (y_assign rfl) rfl rfl rfl rfl ?_; refine dEnd ?_)
                repeat (first | refine seq_ ?_ | refine region_ ?_ | refine nil_ ?_ | refine skip_ ?_ | refine cond_f rfl ?_ | refine guard_t rfl rfl rfl ?_ | refine stepY (y_move rfl) rfl ?_ | refine stepY (y_len_ps rfl) rfl ?_ | refine stepY (y_not rfl) rfl ?_ | (first | refine stepY (y_pick_t rfl rfl) rfl ?_ | refine stepY (y_pick_f rfl rfl) rfl ?_) | refine stepY (y_binn rfl rfl rfl (by simp only [InK, loK, hiK]; omega)) rfl ?_ | refine stepY (y_cmpF rfl rfl rfl (by omega)) rfl ?_ | refine stepY (y_cmpF rfl rfl rfl (by omega)) rfl ?_ | refine stepY (y_cmpT rfl rfl rfl (by omega)) rfl ?_)
                refine ⟨a + 1, by omega, by omega, ?_, ?_⟩
                · (repeat (first | exact sub_nil | refine sub_cons rfl ?_))
                · (repeat (exact subH_nil))
              · repeat (first | refine seq_ ?_ | refine region_ ?_ | refine nil_ ?_ | refine exit_ ?_ | refine cond_f rfl ?_ | refine stepY (y_cmpF rfl rfl rfl (by omega)) rfl ?_)
                refine draw_ [(0, true), (1, true), (2, true), (3, true), (4, true), (5, true), (6, true), (7, true), (8, true), (9, true), (10, true), (11, true), (12, true), (13, true), (14, true), (15, true), (16, true), (17, true), (18, true), (19, true), (20, false), (21, true), (22, true), (23, true), (24, true), (25, true)] 1000 [] mixed (by kernel_rfl) rfl ?_
                ((refine dY rfl (y_move rfl) rfl rfl rfl rfl ?_); refine dY rfl (y_move rfl) rfl rfl rfl rfl ?_; refine dY rfl (y_index_ps rfl rfl (by omega) (by omega)) rfl rfl rfl rfl ?_; refine dY rfl (y_load_rcA rfl rfl) rfl rfl rfl rfl ?_; refine dY rfl (y_move rfl) rfl rfl rfl rfl ?_; refine dY rfl (y_move rfl) rfl rfl rfl rfl ?_; refine dY rfl (y_binn rfl rfl rfl (by simp only [InK, loK, hiK]; omega)) rfl rfl rfl rfl ?_; refine dY rfl (y_move rfl) rfl rfl rfl rfl ?_; refine dY rfl (y_len_ps rfl) rfl rfl rfl rfl ?_; refine dY rfl (y_remp rfl rfl (by omega) (by omega)) rfl rfl rfl rfl ?_; refine dY rfl (y_index_ps rfl rfl (by omega) (by omega)) rfl rfl rfl rfl ?_; refine dY rfl (y_load_rcA rfl rfl) rfl rfl rfl rfl ?_; refine dY rfl (y_move rfl) rfl rfl rfl rfl ?_; refine dY rfl (y_move rfl) rfl rfl rfl rfl ?_; refine dY rfl (y_binn rfl rfl rfl (by simp only [InK, loK, hiK]; omega)) rfl rfl rfl rfl ?_; refine dY rfl (y_move rfl) rfl rfl rfl rfl ?_; refine dY rfl (y_len_ps rfl) rfl rfl rfl rfl ?_; refine dY rfl (y_remp rfl rfl (by omega) (by omega)) rfl rfl rfl rfl ?_; refine dY rfl (y_index_ps rfl rfl (by omega) (by omega)) rfl rfl rfl rfl ?_; refine dY rfl (y_load_rcA rfl rfl) rfl rfl rfl rfl ?_)
                refine dC rfl Try.func12 rfl rfl (hcr) rfl (by repeat (first | exact .refl _ | apply Les.cons | exact .nil)) rfl rfl ?_
                ((refine dY rfl (y_move rfl) rfl rfl rfl rfl ?_); refine dY rfl (y_extract rfl rfl) rfl rfl rfl rfl ?_; refine dY rfl (y_extract rfl rfl) rfl rfl rfl rfl ?_; refine dY rfl (y_assign rfl) rfl rfl rfl rfl ?_; refine dY rfl (y_assign rfl) rfl rfl rfl rfl ?_; refine dEnd ?_)
                repeat (first | refine seq_ ?_ | refine region_ ?_ | refine nil_ ?_ | refine skip_ ?_ | refine cond_f rfl ?_ | refine guard_t rfl rfl rfl ?_ | refine guard_f rfl rfl rfl rfl ?_ | refine stepY (y_move rfl) rfl ?_ | refine stepY (y_len_ps rfl) rfl ?_ | refine stepY (y_not rfl) rfl ?_ | refine stepY (y_pick_f rfl rfl) rfl ?_ | refine stepY (y_binn rfl rfl rfl (by simp only [InK, loK, hiK]; omega)) rfl ?_ | refine stepY (y_cmpF rfl rfl rfl (by omega)) rfl ?_ | refine stepY (y_cmpF rfl rfl rfl (by omega)) rfl ?_)
                refine ⟨a + 1, by omega, by omega, ?_, ?_⟩
                · (repeat (first | exact sub_nil | refine sub_cons rfl ?_))
                · (repeat (exact subH_nil))
          · have e : a = g.length := by omega
            subst e
            repeat (first | refine seq_ ?_ | refine region_ ?_ | refine nil_ ?_ | refine exit_ ?_ | refine block_ ?_ | refine cond_f rfl ?_ | refine stepY (y_move rfl) rfl ?_ | refine stepY (y_len_ps rfl) rfl ?_ | refine stepY (y_cmpF rfl rfl rfl (by omega)) rfl ?_)
            refine loop_ (α := Nat) (fun b => ([(0, .p (.ss false 2 (pts l))), (5, .p (.ss true 2 (pts g))), (167, .p (I l.length)), (168, .p (I b))], [])) (fun b => b ≤ l.length) (fun b => l.length - b) 0 (by omega) ?_ ?_ ?_
            · (repeat (first | exact sub_nil | refine sub_cons rfl ?_))
            · (repeat (exact subH_nil))
            intro b hb
            by_cases hbl : b < l.length
            · by_cases h3 : g.length < 3
              · repeat (first | refine seq_ ?_ | refine region_ ?_ | refine nil_ ?_ | refine skip_ ?_ | refine exit_ ?_ | refine block_ ?_ | refine cond_t rfl ?_ | refine stepY (y_move rfl) rfl ?_ | refine stepY (y_assign rfl) rfl ?_ | refine stepY (y_len_ps rfl) rfl ?_ | refine stepY (y_cmpT rfl rfl rfl (by omega)) rfl ?_)
                refine call_ Try.func9 rfl rfl (h9) rfl (by repeat (exact .nil)) rfl ?_
                repeat (first | refine nil_ ?_ | refine ret_ ?_ | refine stepY (y_assign rfl) rfl ?_)
                ((apply fin_r); (repeat (first | exact .nil | exact .tmp rfl | apply ResL.cons)); (repeat (exact .refl _)))
              · have hin2 := hin (at_ l (b : Int)) (at_mem (by omega) (by omega)) h3
                repeat (first | refine seq_ ?_ | refine region_ ?_ | refine nil_ ?_ | refine skip_ ?_ | refine block_ ?_ | refine cond_t rfl ?_ | refine cond_f rfl ?_ | refine stepY (y_move rfl) rfl ?_ | refine stepY (y_assign rfl) rfl ?_ | refine stepY (y_load_rcA rfl rfl) rfl ?_ | refine stepY (y_len_ps rfl) rfl ?_ | refine stepY (y_index_ps rfl rfl (by omega) (by omega)) rfl ?_ | (first | refine stepY (y_cmpT rfl rfl rfl (by omega)) rfl ?_ | refine stepY (y_cmpF rfl rfl rfl (by omega)) rfl ?_))
                refine call_ Try.func13 rfl rfl (hin2) rfl (by repeat (first | exact .refl _ | exact .tags _ _ | apply Les.cons | exact .nil)) rfl ?_
                repeat (first | refine seq_ ?_ | refine region_ ?_ | refine nil_ ?_ | refine skip_ ?_ | refine cond_f rfl ?_ | refine guard_t rfl rfl rfl ?_ | refine stepY (y_move rfl) rfl ?_ | refine stepY (y_assign rfl) rfl ?_ | refine stepY (y_extract rfl rfl) rfl ?_ | refine stepY (y_not rfl) rfl ?_ | refine stepY (y_pick_f rfl rfl) rfl ?_ | refine stepY (y_binn rfl rfl rfl (by simp only [InK, loK, hiK]; omega)) rfl ?_ | refine stepY (y_cmpF rfl rfl rfl (by omega)) rfl ?_)
                refine ⟨b + 1, by omega, by omega, ?_, ?_⟩
                · (repeat (first | exact sub_nil | refine sub_cons rfl ?_))
                · (repeat (exact subH_nil))
            · have e : b = l.length := by omega
              subst e
              repeat (first | refine seq_ ?_ | refine region_ ?_ | refine nil_ ?_ | refine exit_ ?_ | refine cond_f rfl ?_ | refine stepY (y_cmpF rfl rfl rfl (by omega)) rfl ?_)
              refine call_ Try.func9 rfl rfl (h9) rfl (by repeat (exact .nil)) rfl ?_
              repeat (first | refine nil_ ?_ | refine ret_ ?_ | refine stepY (y_assign rfl) rfl ?_)
              ((apply fin_r); (repeat (first | exact .nil | exact .tmp rfl | apply ResL.cons)); (repeat (exact .refl _)))
    · have e1 : hlR l = ([], chkR l) := by unfold hlR; rw [if_pos c0]
      rw [e1] at h1
      have h1 : Con Try.prog 10 [.ss false 2 (pts l)] (.tp [.ss true 2 (pts []), E_ (chkR l)]) := h1
      generalize chkR l = e at *
      repeat (first | refine seq_ ?_ | refine region_ ?_ | refine nil_ ?_ | refine skip_ ?_ | refine cond_f rfl ?_ | refine stepY (y_move rfl) rfl ?_ | refine stepY (y_assign rfl) rfl ?_ | refine stepY (y_len_ps rfl) rfl ?_ | refine stepY (y_cmpF rfl rfl rfl (by omega)) rfl ?_)
      refine call_ Try.func10 rfl rfl (h1) rfl (by repeat (first | exact .refl _ | apply Les.cons | exact .nil)) rfl ?_
      repeat (first | refine seq_ ?_ | refine region_ ?_ | refine nil_ ?_ | refine cond_t rfl ?_ | refine guard_t rfl rfl rfl ?_ | refine stepY (y_move rfl) rfl ?_ | refine stepY (y_assign rfl) rfl ?_ | refine stepY (y_extract rfl rfl) rfl ?_ | refine stepY (y_len_ps rfl) rfl ?_ | refine stepY (y_cmpT rfl rfl rfl (by omega)) rfl ?_ | refine stepY (y_bin rfl rfl rfl) rfl ?_)
      refine call_ Try.func9 rfl rfl (h9) rfl (by repeat (exact .nil)) rfl ?_
      repeat (first | refine nil_ ?_ | refine ret_ ?_ | refine stepY (y_assign rfl) rfl ?_ | refine stepY (y_pick_t rfl rfl) rfl ?_)
      ((apply fin_r); (repeat (first | exact .nil | exact .tmp rfl | apply ResL.cons)); (repeat (exact .refl _)))
end Go.Av

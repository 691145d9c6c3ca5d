/- Contracts of functions that the laws on fractions reach, and the plain arithmetic behind them: no conditions beyond those in each statement. -/
import Derived.Test.YtnkkkeohhgbhnaaGreatJ2
import Derived.Test.YtnkkkeohhgbhnaaGreatJ1
set_option maxHeartbeats 8000000
set_option exponentiation.threshold 100000
set_option maxRecDepth 100000
set_option linter.unusedVariables false
set_option linter.unusedSimpArgs false
namespace Go.Av
open Go Go.Proofs

open Go.RowKit
theorem Order_c (a b c : Pt) : Con Tryz.prog 15 [pt a, pt b, pt c] (.tp [p3 (orR a b c).1, E_ (orR a b c).2]) := by
  unfold orR
  have hc := check_c [a, b, c]
  rw [chk3] at hc
  by_cases hs : sm a ∧ sm b ∧ sm c
  · rw [if_pos hs] at hc
    rw [if_neg (not_not_intro hs)]
    obtain ⟨ha, hb, hcc⟩ := hs
    have hx := cross_c a b c ha hb hcc
    have sac := square_c a c ha hcc
    have sbc := square_c b c hb hcc
    have sab := square_c a b ha hb
    refine con_of Tryz.func15 rfl rfl rfl rfl rfl ?_
    by_cases h0 : crossP a b c = 0
    · rw [if_pos h0]
      repeat (first | refine seq_ ?_ | refine region_ ?_ | refine nil_ ?_ | refine stepY (y_assign rfl) rfl ?_ | refine stepY (y_loadA rfl rfl rfl) rfl ?_ | refine stepE (e_box rfl rfl rfl rfl rfl rfl) ?_ | refine stepE (e_alloc rfl rfl rfl) ?_ | refine stepE (e_bs_vs rfl rfl rfl rfl rfl rfl) ?_)
      refine seal_Ls (i := 15) (h := 15) rfl rfl rfl rfl ?_
      refine call_ Tryz.func20 rfl rfl (hc) rfl (by repeat (first | exact .tags _ _ | apply Les.cons | exact .nil)) rfl ?_
      repeat (first | refine seq_ ?_ | refine region_ ?_ | refine nil_ ?_ | refine skip_ ?_ | refine cond_f rfl ?_ | refine stepY (y_move rfl) rfl ?_ | refine stepY (y_assign rfl) rfl ?_ | refine stepY (y_loadA rfl rfl rfl) rfl ?_ | refine stepY (y_cmpF rfl rfl rfl (by omega)) rfl ?_)
      refine call_ Tryz.func26 rfl rfl (hx) rfl (by repeat (first | exact .refl _ | apply Les.cons | exact .nil)) rfl ?_
      repeat (first | refine seq_ ?_ | refine region_ ?_ | refine nil_ ?_ | refine ret_ ?_ | refine cond_t rfl ?_ | refine stepY (y_assign rfl) rfl ?_ | refine stepY (y_build_arrb rfl rfl rfl rfl) rfl ?_ | refine stepY (y_cmpT rfl rfl rfl (by omega)) rfl ?_ | refine stepE (e_store rfl rfl rfl rfl rfl rfl rfl) ?_)
      ((apply fin_r); (repeat (first | exact .nil | exact .tmp rfl | exact .agg rfl rfl rfl | apply ResL.cons)); (repeat (exact .refl _)))
    · rw [if_neg h0]
      unfold ord1
      by_cases g1 : farP a c > farP b c
      · rw [if_pos g1]
        unfold ord2
        dsimp only
        by_cases g2 : farP a b > farP a c
        · rw [if_pos g2]
          unfold ord3
          by_cases g3 : crossP c a b < 0
          · rw [if_pos g3]
            have hx2 := cross_c c a b hcc ha hb
            repeat (first | refine seq_ ?_ | refine region_ ?_ | refine nil_ ?_ | refine stepY (y_assign rfl) rfl ?_ | refine stepY (y_loadA rfl rfl rfl) rfl ?_ | refine stepE (e_box rfl rfl rfl rfl rfl rfl) ?_ | refine stepE (e_alloc rfl rfl rfl) ?_ | refine stepE (e_bs_vs rfl rfl rfl rfl rfl rfl) ?_)
            refine seal_Ls (i := 15) (h := 15) rfl rfl rfl rfl ?_
            refine call_ Tryz.func20 rfl rfl (hc) rfl (by repeat (first | exact .tags _ _ | apply Les.cons | exact .nil)) rfl ?_
            repeat (first | refine seq_ ?_ | refine region_ ?_ | refine nil_ ?_ | refine skip_ ?_ | refine cond_f rfl ?_ | refine stepY (y_move rfl) rfl ?_ | refine stepY (y_assign rfl) rfl ?_ | refine stepY (y_loadA rfl rfl rfl) rfl ?_ | refine stepY (y_cmpF rfl rfl rfl (by omega)) rfl ?_)
            refine call_ Tryz.func26 rfl rfl (hx) rfl (by repeat (first | exact .refl _ | apply Les.cons | exact .nil)) rfl ?_
            repeat (first | refine seq_ ?_ | refine nil_ ?_ | refine skip_ ?_ | refine cond_f rfl ?_ | refine stepY (y_cmpF rfl rfl rfl (by omega)) rfl ?_)
            refine cut_ [(3, .ptr 3 0), (4, .ptr 4 0), (5, .ptr 5 0), (6, .ptr 6 0), (7, .p (E_ 0)), (9, .ptr 9 0), (10, .ptr 10 0), (11, .ptr 11 0)] [(3, .bx [I a.1, I a.2]), (4, .bx [I b.1, I b.2]), (5, .bx [I c.1, I c.2]), (6, .bx [I 0, I 0, I 0, I 0, I 0, I 0]), (9, .bx [I a.1, I a.2]), (10, .bx [I b.1, I b.2]), (11, .bx [I c.1, I c.2])] ?_ ?_
            · refine xDraw 1000 [3, 4, 5, 6] mixed ?_
              refine xY (i := 0) (op := .load _ _) rfl (by (exact y_loadA rfl rfl rfl)) rfl rfl rfl rfl (by kernel_rfl) ?_
              refine xY (i := 1) (op := .load _ _) rfl (by (exact y_loadA rfl rfl rfl)) rfl rfl rfl rfl (by kernel_rfl) ?_
              refine xY (i := 2) (op := .load _ _) rfl (by (exact y_loadA rfl rfl rfl)) rfl rfl rfl rfl (by kernel_rfl) ?_
              refine xAll (rs := [3, 4, 5]) (by kernel_rfl) rfl ⟨?_, ?_, ?_, trivial⟩
              · (refine iE rfl (e_alloc rfl rfl rfl) rfl rfl ?_)
                refine xAll (rs := [4, 5]) (by kernel_rfl) rfl ⟨?_, ?_, trivial⟩
                · (refine iE rfl (e_alloc rfl rfl rfl) rfl rfl ?_)
                  refine xAll (rs := [5]) (by kernel_rfl) rfl ⟨?_, trivial⟩
                  · (refine iE rfl (e_alloc rfl rfl rfl) rfl rfl ?_)
                    refine xAll (rs := [6]) (by kernel_rfl) rfl ⟨?_, trivial⟩
                    · (refine iE rfl (e_store rfl rfl rfl rfl rfl rfl rfl) rfl rfl ?_)
                      refine xAll (rs := [7]) (by kernel_rfl) rfl ⟨?_, trivial⟩
                      · (refine iE rfl (e_store rfl rfl rfl rfl rfl rfl rfl) rfl rfl ?_)
                        refine xAll (rs := [8]) (by kernel_rfl) rfl ⟨?_, trivial⟩
                        · (refine iE rfl (e_store rfl rfl rfl rfl rfl rfl rfl) rfl rfl ?_)
                          exact xEnd (by kernel_rfl) ⟨rfl, by (repeat (first | exact sub_nil | refine sub_cons rfl ?_)), by (repeat (first | exact subH_nil | refine subH_cons rfl ?_))⟩
                · (refine iE rfl (e_alloc rfl rfl rfl) rfl rfl ?_)
                  refine xAll (rs := [4]) (by kernel_rfl) rfl ⟨?_, trivial⟩
                  · (refine iE rfl (e_alloc rfl rfl rfl) rfl rfl ?_)
                    refine xAll (rs := [6]) (by kernel_rfl) rfl ⟨?_, trivial⟩
                    · (refine iE rfl (e_store rfl rfl rfl rfl rfl rfl rfl) rfl rfl ?_)
                      refine xAll (rs := [7]) (by kernel_rfl) rfl ⟨?_, trivial⟩
                      · (refine iE rfl (e_store rfl rfl rfl rfl rfl rfl rfl) rfl rfl ?_)
                        refine xAll (rs := [8]) (by kernel_rfl) rfl ⟨?_, trivial⟩
                        · (refine iE rfl (e_store rfl rfl rfl rfl rfl rfl rfl) rfl rfl ?_)
                          exact xEnd (by kernel_rfl) ⟨rfl, by (repeat (first | exact sub_nil | refine sub_cons rfl ?_)), by (repeat (first | exact subH_nil | refine subH_cons rfl ?_))⟩
              · (refine iE rfl (e_alloc rfl rfl rfl) rfl rfl ?_)
                refine xAll (rs := [3, 5]) (by kernel_rfl) rfl ⟨?_, ?_, trivial⟩
                · (refine iE rfl (e_alloc rfl rfl rfl) rfl rfl ?_)
                  refine xAll (rs := [5]) (by kernel_rfl) rfl ⟨?_, trivial⟩
                  · (refine iE rfl (e_alloc rfl rfl rfl) rfl rfl ?_)
                    refine xAll (rs := [6]) (by kernel_rfl) rfl ⟨?_, trivial⟩
                    · (refine iE rfl (e_store rfl rfl rfl rfl rfl rfl rfl) rfl rfl ?_)
                      refine xAll (rs := [7]) (by kernel_rfl) rfl ⟨?_, trivial⟩
                      · (refine iE rfl (e_store rfl rfl rfl rfl rfl rfl rfl) rfl rfl ?_)
                        refine xAll (rs := [8]) (by kernel_rfl) rfl ⟨?_, trivial⟩
                        · (refine iE rfl (e_store rfl rfl rfl rfl rfl rfl rfl) rfl rfl ?_)
                          exact xEnd (by kernel_rfl) ⟨rfl, by (repeat (first | exact sub_nil | refine sub_cons rfl ?_)), by (repeat (first | exact subH_nil | refine subH_cons rfl ?_))⟩
                · (refine iE rfl (e_alloc rfl rfl rfl) rfl rfl ?_)
                  refine xAll (rs := [3]) (by kernel_rfl) rfl ⟨?_, trivial⟩
                  · (refine iE rfl (e_alloc rfl rfl rfl) rfl rfl ?_)
                    refine xAll (rs := [6]) (by kernel_rfl) rfl ⟨?_, trivial⟩
                    · (refine iE rfl (e_store rfl rfl rfl rfl rfl rfl rfl) rfl rfl ?_)
                      refine xAll (rs := [7]) (by kernel_rfl) rfl ⟨?_, trivial⟩
                      · (refine iE rfl (e_store rfl rfl rfl rfl rfl rfl rfl) rfl rfl ?_)
                        refine xAll (rs := [8]) (by kernel_rfl) rfl ⟨?_, trivial⟩
                        · (refine iE rfl (e_store rfl rfl rfl rfl rfl rfl rfl) rfl rfl ?_)
                          exact xEnd (by kernel_rfl) ⟨rfl, by (repeat (first | exact sub_nil | refine sub_cons rfl ?_)), by (repeat (first | exact subH_nil | refine subH_cons rfl ?_))⟩
              · (refine iE rfl (e_alloc rfl rfl rfl) rfl rfl ?_)
                refine xAll (rs := [3, 4]) (by kernel_rfl) rfl ⟨?_, ?_, trivial⟩
                · (refine iE rfl (e_alloc rfl rfl rfl) rfl rfl ?_)
                  refine xAll (rs := [4]) (by kernel_rfl) rfl ⟨?_, trivial⟩
                  · (refine iE rfl (e_alloc rfl rfl rfl) rfl rfl ?_)
                    refine xAll (rs := [6]) (by kernel_rfl) rfl ⟨?_, trivial⟩
                    · (refine iE rfl (e_store rfl rfl rfl rfl rfl rfl rfl) rfl rfl ?_)
                      refine xAll (rs := [7]) (by kernel_rfl) rfl ⟨?_, trivial⟩
                      · (refine iE rfl (e_store rfl rfl rfl rfl rfl rfl rfl) rfl rfl ?_)
                        refine xAll (rs := [8]) (by kernel_rfl) rfl ⟨?_, trivial⟩
                        · (refine iE rfl (e_store rfl rfl rfl rfl rfl rfl rfl) rfl rfl ?_)
                          exact xEnd (by kernel_rfl) ⟨rfl, by (repeat (first | exact sub_nil | refine sub_cons rfl ?_)), by (repeat (first | exact subH_nil | refine subH_cons rfl ?_))⟩
                · (refine iE rfl (e_alloc rfl rfl rfl) rfl rfl ?_)
                  refine xAll (rs := [3]) (by kernel_rfl) rfl ⟨?_, trivial⟩
                  · (refine iE rfl (e_alloc rfl rfl rfl) rfl rfl ?_)
                    refine xAll (rs := [6]) (by kernel_rfl) rfl ⟨?_, trivial⟩
                    · (refine iE rfl (e_store rfl rfl rfl rfl rfl rfl rfl) rfl rfl ?_)
                      refine xAll (rs := [7]) (by kernel_rfl) rfl ⟨?_, trivial⟩
                      · (refine iE rfl (e_store rfl rfl rfl rfl rfl rfl rfl) rfl rfl ?_)
                        refine xAll (rs := [8]) (by kernel_rfl) rfl ⟨?_, trivial⟩
                        · (refine iE rfl (e_store rfl rfl rfl rfl rfl rfl rfl) rfl rfl ?_)
                          exact xEnd (by kernel_rfl) ⟨rfl, by (repeat (first | exact sub_nil | refine sub_cons rfl ?_)), by (repeat (first | exact subH_nil | refine subH_cons rfl ?_))⟩
            repeat (refine seq_ ?_)
            refine draw_ [(0, true), (1, true), (3, true), (4, true), (2, false), (5, false), (6, true)] 1000 [3, 4, 5, 6, 9, 10, 11] mixed (by kernel_rfl) rfl ?_
            ((refine dY rfl (y_loadA rfl rfl rfl) rfl rfl rfl rfl ?_); refine dY rfl (y_loadA rfl rfl rfl) rfl rfl rfl rfl ?_; refine dY rfl (y_loadA rfl rfl rfl) rfl rfl rfl rfl ?_; refine dY rfl (y_loadA rfl rfl rfl) rfl rfl rfl rfl ?_)
            refine dC rfl Tryz.func37 rfl rfl (sac) rfl (by repeat (first | exact .refl _ | apply Les.cons | exact .nil)) rfl rfl ?_
            skip
            refine dC rfl Tryz.func37 rfl rfl (sbc) rfl (by repeat (first | exact .refl _ | apply Les.cons | exact .nil)) rfl rfl ?_
            ((refine dY rfl (y_cmpT rfl rfl rfl (by omega)) rfl rfl rfl rfl ?_); refine dEnd ?_)
            repeat (refine cond_t rfl ?_)
            refine cut_ [(3, .ptr 3 0), (4, .ptr 4 0), (5, .ptr 5 0), (6, .ptr 6 0), (7, .p (E_ 0)), (9, .ptr 9 0), (10, .ptr 10 0), (11, .ptr 11 0)] [(3, .bx [I a.1, I a.2]), (4, .bx [I b.1, I b.2]), (5, .bx [I c.1, I c.2]), (6, .bx [I 0, I 0, I 0, I 0, I 0, I 0]), (9, .bx [I b.1, I b.2]), (10, .bx [I a.1, I a.2]), (11, .bx [I c.1, I c.2])] ?_ ?_
            · refine xDraw 1000 [3, 4, 5, 6] mixed ?_
              refine xY (i := 0) (op := .load _ _) rfl (by (exact y_loadA rfl rfl rfl)) rfl rfl rfl rfl (by kernel_rfl) ?_
              refine xY (i := 1) (op := .load _ _) rfl (by (exact y_loadA rfl rfl rfl)) rfl rfl rfl rfl (by kernel_rfl) ?_
              refine xY (i := 2) (op := .load _ _) rfl (by (exact y_loadA rfl rfl rfl)) rfl rfl rfl rfl (by kernel_rfl) ?_
              refine xAll (rs := [3]) (by kernel_rfl) rfl ⟨?_, trivial⟩
              · (refine iE rfl (e_store rfl rfl rfl rfl rfl rfl rfl) rfl rfl ?_)
                refine xAll (rs := [4]) (by kernel_rfl) rfl ⟨?_, trivial⟩
                · (refine iE rfl (e_store rfl rfl rfl rfl rfl rfl rfl) rfl rfl ?_)
                  refine xAll (rs := [5]) (by kernel_rfl) rfl ⟨?_, trivial⟩
                  · (refine iE rfl (e_store rfl rfl rfl rfl rfl rfl rfl) rfl rfl ?_)
                    exact xEnd (by kernel_rfl) ⟨rfl, by (repeat (first | exact sub_nil | refine sub_cons rfl ?_)), by (repeat (first | exact subH_nil | refine subH_cons rfl ?_))⟩
            repeat (refine seq_ ?_)
            refine draw_ [(0, true), (1, true), (3, true), (4, true), (2, false), (5, false), (6, true)] 1000 [3, 4, 5, 6, 9, 10, 11] mixed (by kernel_rfl) rfl ?_
            ((refine dY rfl (y_loadA rfl rfl rfl) rfl rfl rfl rfl ?_); refine dY rfl (y_loadA rfl rfl rfl) rfl rfl rfl rfl ?_; refine dY rfl (y_loadA rfl rfl rfl) rfl rfl rfl rfl ?_; refine dY rfl (y_loadA rfl rfl rfl) rfl rfl rfl rfl ?_)
            refine dC rfl Tryz.func37 rfl rfl (sab) rfl (by repeat (first | exact .refl _ | apply Les.cons | exact .nil)) rfl rfl ?_
            skip
            refine dC rfl Tryz.func37 rfl rfl (sac) rfl (by repeat (first | exact .refl _ | apply Les.cons | exact .nil)) rfl rfl ?_
            ((refine dY rfl (y_cmpT rfl rfl rfl (by omega)) rfl rfl rfl rfl ?_); refine dEnd ?_)
            repeat (refine cond_t rfl ?_)
            refine cut_ [(3, .ptr 3 0), (4, .ptr 4 0), (5, .ptr 5 0), (6, .ptr 6 0), (7, .p (E_ 0)), (9, .ptr 9 0), (10, .ptr 10 0), (11, .ptr 11 0)] [(3, .bx [I a.1, I a.2]), (4, .bx [I b.1, I b.2]), (5, .bx [I c.1, I c.2]), (6, .bx [I 0, I 0, I 0, I 0, I 0, I 0]), (9, .bx [I c.1, I c.2]), (10, .bx [I a.1, I a.2]), (11, .bx [I b.1, I b.2])] ?_ ?_
            · refine xDraw 1000 [3, 4, 5, 6] mixed ?_
              refine xY (i := 0) (op := .load _ _) rfl (by (exact y_loadA rfl rfl rfl)) rfl rfl rfl rfl (by kernel_rfl) ?_
              refine xY (i := 1) (op := .load _ _) rfl (by (exact y_loadA rfl rfl rfl)) rfl rfl rfl rfl (by kernel_rfl) ?_
              refine xY (i := 2) (op := .load _ _) rfl (by (exact y_loadA rfl rfl rfl)) rfl rfl rfl rfl (by kernel_rfl) ?_
              refine xAll (rs := [3]) (by kernel_rfl) rfl ⟨?_, trivial⟩
              · (refine iE rfl (e_store rfl rfl rfl rfl rfl rfl rfl) rfl rfl ?_)
                refine xAll (rs := [4]) (by kernel_rfl) rfl ⟨?_, trivial⟩
                · (refine iE rfl (e_store rfl rfl rfl rfl rfl rfl rfl) rfl rfl ?_)
                  refine xAll (rs := [5]) (by kernel_rfl) rfl ⟨?_, trivial⟩
                  · (refine iE rfl (e_store rfl rfl rfl rfl rfl rfl rfl) rfl rfl ?_)
                    exact xEnd (by kernel_rfl) ⟨rfl, by (repeat (first | exact sub_nil | refine sub_cons rfl ?_)), by (repeat (first | exact subH_nil | refine subH_cons rfl ?_))⟩
            repeat (first | refine seq_ ?_ | refine region_ ?_ | refine stepY (y_loadA rfl rfl rfl) rfl ?_)
            refine call_ Tryz.func26 rfl rfl (hx2) rfl (by repeat (first | exact .refl _ | apply Les.cons | exact .nil)) rfl ?_
            repeat (first | refine seq_ ?_ | refine region_ ?_ | refine nil_ ?_ | refine ret_ ?_ | refine cond_t rfl ?_ | refine stepY (y_assign rfl) rfl ?_ | refine stepY (y_loadA rfl rfl rfl) rfl ?_ | refine stepY (y_build_arrb rfl rfl rfl rfl) rfl ?_ | refine stepY (y_cmpT rfl rfl rfl (by omega)) rfl ?_ | refine stepE (e_store rfl rfl rfl rfl rfl rfl rfl) ?_)
            ((apply fin_r); (repeat (first | exact .nil | exact .tmp rfl | exact .agg rfl rfl rfl | apply ResL.cons)); (repeat (exact .refl _)))
          · rw [if_neg g3]
            have hx2 := cross_c c a b hcc ha hb
            repeat (first | refine seq_ ?_ | refine region_ ?_ | refine nil_ ?_ | refine stepY (y_assign rfl) rfl ?_ | refine stepY (y_loadA rfl rfl rfl) rfl ?_ | refine stepE (e_box rfl rfl rfl rfl rfl rfl) ?_ | refine stepE (e_alloc rfl rfl rfl) ?_ | refine stepE (e_bs_vs rfl rfl rfl rfl rfl rfl) ?_)
            refine seal_Ls (i := 15) (h := 15) rfl rfl rfl rfl ?_
            refine call_ Tryz.func20 rfl rfl (hc) rfl (by repeat (first | exact .tags _ _ | apply Les.cons | exact .nil)) rfl ?_
            repeat (first | refine seq_ ?_ | refine region_ ?_ | refine nil_ ?_ | refine skip_ ?_ | refine cond_f rfl ?_ | refine stepY (y_move rfl) rfl ?_ | refine stepY (y_assign rfl) rfl ?_ | refine stepY (y_loadA rfl rfl rfl) rfl ?_ | refine stepY (y_cmpF rfl rfl rfl (by omega)) rfl ?_)
            refine call_ Tryz.func26 rfl rfl (hx) rfl (by repeat (first | exact .refl _ | apply Les.cons | exact .nil)) rfl ?_
            repeat (first | refine seq_ ?_ | refine nil_ ?_ | refine skip_ ?_ | refine cond_f rfl ?_ | refine stepY (y_cmpF rfl rfl rfl (by omega)) rfl ?_)
            refine cut_ [(3, .ptr 3 0), (4, .ptr 4 0), (5, .ptr 5 0), (6, .ptr 6 0), (7, .p (E_ 0)), (9, .ptr 9 0), (10, .ptr 10 0), (11, .ptr 11 0)] [(3, .bx [I a.1, I a.2]), (4, .bx [I b.1, I b.2]), (5, .bx [I c.1, I c.2]), (6, .bx [I 0, I 0, I 0, I 0, I 0, I 0]), (9, .bx [I a.1, I a.2]), (10, .bx [I b.1, I b.2]), (11, .bx [I c.1, I c.2])] ?_ ?_
            · refine xDraw 1000 [3, 4, 5, 6] mixed ?_
              refine xY (i := 0) (op := .load _ _) rfl (by (exact y_loadA rfl rfl rfl)) rfl rfl rfl rfl (by kernel_rfl) ?_
              refine xY (i := 1) (op := .load _ _) rfl (by (exact y_loadA rfl rfl rfl)) rfl rfl rfl rfl (by kernel_rfl) ?_
              refine xY (i := 2) (op := .load _ _) rfl (by (exact y_loadA rfl rfl rfl)) rfl rfl rfl rfl (by kernel_rfl) ?_
              refine xAll (rs := [3, 4, 5]) (by kernel_rfl) rfl ⟨?_, ?_, ?_, trivial⟩
              · (refine iE rfl (e_alloc rfl rfl rfl) rfl rfl ?_)
                refine xAll (rs := [4, 5]) (by kernel_rfl) rfl ⟨?_, ?_, trivial⟩
                · (refine iE rfl (e_alloc rfl rfl rfl) rfl rfl ?_)
                  refine xAll (rs := [5]) (by kernel_rfl) rfl ⟨?_, trivial⟩
                  · (refine iE rfl (e_alloc rfl rfl rfl) rfl rfl ?_)
                    refine xAll (rs := [6]) (by kernel_rfl) rfl ⟨?_, trivial⟩
                    · (refine iE rfl (e_store rfl rfl rfl rfl rfl rfl rfl) rfl rfl ?_)
                      refine xAll (rs := [7]) (by kernel_rfl) rfl ⟨?_, trivial⟩
                      · (refine iE rfl (e_store rfl rfl rfl rfl rfl rfl rfl) rfl rfl ?_)
                        refine xAll (rs := [8]) (by kernel_rfl) rfl ⟨?_, trivial⟩
                        · (refine iE rfl (e_store rfl rfl rfl rfl rfl rfl rfl) rfl rfl ?_)
                          exact xEnd (by kernel_rfl) ⟨rfl, by (repeat (first | exact sub_nil | refine sub_cons rfl ?_)), by (repeat (first | exact subH_nil | refine subH_cons rfl ?_))⟩
                · (refine iE rfl (e_alloc rfl rfl rfl) rfl rfl ?_)
                  refine xAll (rs := [4]) (by kernel_rfl) rfl ⟨?_, trivial⟩
                  · (refine iE rfl (e_alloc rfl rfl rfl) rfl rfl ?_)
                    refine xAll (rs := [6]) (by kernel_rfl) rfl ⟨?_, trivial⟩
                    · (refine iE rfl (e_store rfl rfl rfl rfl rfl rfl rfl) rfl rfl ?_)
                      refine xAll (rs := [7]) (by kernel_rfl) rfl ⟨?_, trivial⟩
                      · (refine iE rfl (e_store rfl rfl rfl rfl rfl rfl rfl) rfl rfl ?_)
                        refine xAll (rs := [8]) (by kernel_rfl) rfl ⟨?_, trivial⟩
                        · (refine iE rfl (e_store rfl rfl rfl rfl rfl rfl rfl) rfl rfl ?_)
                          exact xEnd (by kernel_rfl) ⟨rfl, by (repeat (first | exact sub_nil | refine sub_cons rfl ?_)), by (repeat (first | exact subH_nil | refine subH_cons rfl ?_))⟩
              · (refine iE rfl (e_alloc rfl rfl rfl) rfl rfl ?_)
                refine xAll (rs := [3, 5]) (by kernel_rfl) rfl ⟨?_, ?_, trivial⟩
                · (refine iE rfl (e_alloc rfl rfl rfl) rfl rfl ?_)
                  refine xAll (rs := [5]) (by kernel_rfl) rfl ⟨?_, trivial⟩
                  · (refine iE rfl (e_alloc rfl rfl rfl) rfl rfl ?_)
                    refine xAll (rs := [6]) (by kernel_rfl) rfl ⟨?_, trivial⟩
                    · (refine iE rfl (e_store rfl rfl rfl rfl rfl rfl rfl) rfl rfl ?_)
                      refine xAll (rs := [7]) (by kernel_rfl) rfl ⟨?_, trivial⟩
                      · (refine iE rfl (e_store rfl rfl rfl rfl rfl rfl rfl) rfl rfl ?_)
                        refine xAll (rs := [8]) (by kernel_rfl) rfl ⟨?_, trivial⟩
                        · (refine iE rfl (e_store rfl rfl rfl rfl rfl rfl rfl) rfl rfl ?_)
                          exact xEnd (by kernel_rfl) ⟨rfl, by (repeat (first | exact sub_nil | refine sub_cons rfl ?_)), by (repeat (first | exact subH_nil | refine subH_cons rfl ?_))⟩
                · (refine iE rfl (e_alloc rfl rfl rfl) rfl rfl ?_)
                  refine xAll (rs := [3]) (by kernel_rfl) rfl ⟨?_, trivial⟩
                  · (refine iE rfl (e_alloc rfl rfl rfl) rfl rfl ?_)
                    refine xAll (rs := [6]) (by kernel_rfl) rfl ⟨?_, trivial⟩
                    · (refine iE rfl (e_store rfl rfl rfl rfl rfl rfl rfl) rfl rfl ?_)
                      refine xAll (rs := [7]) (by kernel_rfl) rfl ⟨?_, trivial⟩
                      · (refine iE rfl (e_store rfl rfl rfl rfl rfl rfl rfl) rfl rfl ?_)
                        refine xAll (rs := [8]) (by kernel_rfl) rfl ⟨?_, trivial⟩
                        · (refine iE rfl (e_store rfl rfl rfl rfl rfl rfl rfl) rfl rfl ?_)
                          exact xEnd (by kernel_rfl) ⟨rfl, by (repeat (first | exact sub_nil | refine sub_cons rfl ?_)), by (repeat (first | exact subH_nil | refine subH_cons rfl ?_))⟩
              · (refine iE rfl (e_alloc rfl rfl rfl) rfl rfl ?_)
                refine xAll (rs := [3, 4]) (by kernel_rfl) rfl ⟨?_, ?_, trivial⟩
                · (refine iE rfl (e_alloc rfl rfl rfl) rfl rfl ?_)
                  refine xAll (rs := [4]) (by kernel_rfl) rfl ⟨?_, trivial⟩
                  · (refine iE rfl (e_alloc rfl rfl rfl) rfl rfl ?_)
                    refine xAll (rs := [6]) (by kernel_rfl) rfl ⟨?_, trivial⟩
                    · (refine iE rfl (e_store rfl rfl rfl rfl rfl rfl rfl) rfl rfl ?_)
                      refine xAll (rs := [7]) (by kernel_rfl) rfl ⟨?_, trivial⟩
                      · (refine iE rfl (e_store rfl rfl rfl rfl rfl rfl rfl) rfl rfl ?_)
                        refine xAll (rs := [8]) (by kernel_rfl) rfl ⟨?_, trivial⟩
                        · (refine iE rfl (e_store rfl rfl rfl rfl rfl rfl rfl) rfl rfl ?_)
                          exact xEnd (by kernel_rfl) ⟨rfl, by (repeat (first | exact sub_nil | refine sub_cons rfl ?_)), by (repeat (first | exact subH_nil | refine subH_cons rfl ?_))⟩
                · (refine iE rfl (e_alloc rfl rfl rfl) rfl rfl ?_)
                  refine xAll (rs := [3]) (by kernel_rfl) rfl ⟨?_, trivial⟩
                  · (refine iE rfl (e_alloc rfl rfl rfl) rfl rfl ?_)
                    refine xAll (rs := [6]) (by kernel_rfl) rfl ⟨?_, trivial⟩
                    · (refine iE rfl (e_store rfl rfl rfl rfl rfl rfl rfl) rfl rfl ?_)
                      refine xAll (rs := [7]) (by kernel_rfl) rfl ⟨?_, trivial⟩
                      · (refine iE rfl (e_store rfl rfl rfl rfl rfl rfl rfl) rfl rfl ?_)
                        refine xAll (rs := [8]) (by kernel_rfl) rfl ⟨?_, trivial⟩
                        · (refine iE rfl (e_store rfl rfl rfl rfl rfl rfl rfl) rfl rfl ?_)
                          exact xEnd (by kernel_rfl) ⟨rfl, by (repeat (first | exact sub_nil | refine sub_cons rfl ?_)), by (repeat (first | exact subH_nil | refine subH_cons rfl ?_))⟩
            repeat (refine seq_ ?_)
            refine draw_ [(0, true), (1, true), (3, true), (4, true), (2, false), (5, false), (6, true)] 1000 [3, 4, 5, 6, 9, 10, 11] mixed (by kernel_rfl) rfl ?_
            ((refine dY rfl (y_loadA rfl rfl rfl) rfl rfl rfl rfl ?_); refine dY rfl (y_loadA rfl rfl rfl) rfl rfl rfl rfl ?_; refine dY rfl (y_loadA rfl rfl rfl) rfl rfl rfl rfl ?_; refine dY rfl (y_loadA rfl rfl rfl) rfl rfl rfl rfl ?_)
            refine dC rfl Tryz.func37 rfl rfl (sac) rfl (by repeat (first | exact .refl _ | apply Les.cons | exact .nil)) rfl rfl ?_
            skip
            refine dC rfl Tryz.func37 rfl rfl (sbc) rfl (by repeat (first | exact .refl _ | apply Les.cons | exact .nil)) rfl rfl ?_
            ((refine dY rfl (y_cmpT rfl rfl rfl (by omega)) rfl rfl rfl rfl ?_); refine dEnd ?_)
            repeat (refine cond_t rfl ?_)
            refine cut_ [(3, .ptr 3 0), (4, .ptr 4 0), (5, .ptr 5 0), (6, .ptr 6 0), (7, .p (E_ 0)), (9, .ptr 9 0), (10, .ptr 10 0), (11, .ptr 11 0)] [(3, .bx [I a.1, I a.2]), (4, .bx [I b.1, I b.2]), (5, .bx [I c.1, I c.2]), (6, .bx [I 0, I 0, I 0, I 0, I 0, I 0]), (9, .bx [I b.1, I b.2]), (10, .bx [I a.1, I a.2]), (11, .bx [I c.1, I c.2])] ?_ ?_
            · refine xDraw 1000 [3, 4, 5, 6] mixed ?_
              refine xY (i := 0) (op := .load _ _) rfl (by (exact y_loadA rfl rfl rfl)) rfl rfl rfl rfl (by kernel_rfl) ?_
              refine xY (i := 1) (op := .load _ _) rfl (by (exact y_loadA rfl rfl rfl)) rfl rfl rfl rfl (by kernel_rfl) ?_
              refine xY (i := 2) (op := .load _ _) rfl (by (exact y_loadA rfl rfl rfl)) rfl rfl rfl rfl (by kernel_rfl) ?_
              refine xAll (rs := [3]) (by kernel_rfl) rfl ⟨?_, trivial⟩
              · (refine iE rfl (e_store rfl rfl rfl rfl rfl rfl rfl) rfl rfl ?_)
                refine xAll (rs := [4]) (by kernel_rfl) rfl ⟨?_, trivial⟩
                · (refine iE rfl (e_store rfl rfl rfl rfl rfl rfl rfl) rfl rfl ?_)
                  refine xAll (rs := [5]) (by kernel_rfl) rfl ⟨?_, trivial⟩
                  · (refine iE rfl (e_store rfl rfl rfl rfl rfl rfl rfl) rfl rfl ?_)
                    exact xEnd (by kernel_rfl) ⟨rfl, by (repeat (first | exact sub_nil | refine sub_cons rfl ?_)), by (repeat (first | exact subH_nil | refine subH_cons rfl ?_))⟩
            repeat (refine seq_ ?_)
            refine draw_ [(0, true), (1, true), (3, true), (4, true), (2, false), (5, false), (6, true)] 1000 [3, 4, 5, 6, 9, 10, 11] mixed (by kernel_rfl) rfl ?_
            ((refine dY rfl (y_loadA rfl rfl rfl) rfl rfl rfl rfl ?_); refine dY rfl (y_loadA rfl rfl rfl) rfl rfl rfl rfl ?_; refine dY rfl (y_loadA rfl rfl rfl) rfl rfl rfl rfl ?_; refine dY rfl (y_loadA rfl rfl rfl) rfl rfl rfl rfl ?_)
            refine dC rfl Tryz.func37 rfl rfl (sab) rfl (by repeat (first | exact .refl _ | apply Les.cons | exact .nil)) rfl rfl ?_
            skip
            refine dC rfl Tryz.func37 rfl rfl (sac) rfl (by repeat (first | exact .refl _ | apply Les.cons | exact .nil)) rfl rfl ?_
            ((refine dY rfl (y_cmpT rfl rfl rfl (by omega)) rfl rfl rfl rfl ?_); refine dEnd ?_)
            repeat (refine cond_t rfl ?_)
            refine cut_ [(3, .ptr 3 0), (4, .ptr 4 0), (5, .ptr 5 0), (6, .ptr 6 0), (7, .p (E_ 0)), (9, .ptr 9 0), (10, .ptr 10 0), (11, .ptr 11 0)] [(3, .bx [I a.1, I a.2]), (4, .bx [I b.1, I b.2]), (5, .bx [I c.1, I c.2]), (6, .bx [I 0, I 0, I 0, I 0, I 0, I 0]), (9, .bx [I c.1, I c.2]), (10, .bx [I a.1, I a.2]), (11, .bx [I b.1, I b.2])] ?_ ?_
            · refine xDraw 1000 [3, 4, 5, 6] mixed ?_
              refine xY (i := 0) (op := .load _ _) rfl (by (exact y_loadA rfl rfl rfl)) rfl rfl rfl rfl (by kernel_rfl) ?_
              refine xY (i := 1) (op := .load _ _) rfl (by (exact y_loadA rfl rfl rfl)) rfl rfl rfl rfl (by kernel_rfl) ?_
              refine xY (i := 2) (op := .load _ _) rfl (by (exact y_loadA rfl rfl rfl)) rfl rfl rfl rfl (by kernel_rfl) ?_
              refine xAll (rs := [3]) (by kernel_rfl) rfl ⟨?_, trivial⟩
              · (refine iE rfl (e_store rfl rfl rfl rfl rfl rfl rfl) rfl rfl ?_)
                refine xAll (rs := [4]) (by kernel_rfl) rfl ⟨?_, trivial⟩
                · (refine iE rfl (e_store rfl rfl rfl rfl rfl rfl rfl) rfl rfl ?_)
                  refine xAll (rs := [5]) (by kernel_rfl) rfl ⟨?_, trivial⟩
                  · (refine iE rfl (e_store rfl rfl rfl rfl rfl rfl rfl) rfl rfl ?_)
                    exact xEnd (by kernel_rfl) ⟨rfl, by (repeat (first | exact sub_nil | refine sub_cons rfl ?_)), by (repeat (first | exact subH_nil | refine subH_cons rfl ?_))⟩
            repeat (first | refine seq_ ?_ | refine region_ ?_ | refine stepY (y_loadA rfl rfl rfl) rfl ?_)
            refine call_ Tryz.func26 rfl rfl (hx2) rfl (by repeat (first | exact .refl _ | apply Les.cons | exact .nil)) rfl ?_
            repeat (first | refine seq_ ?_ | refine region_ ?_ | refine nil_ ?_ | refine skip_ ?_ | refine ret_ ?_ | refine cond_f rfl ?_ | refine stepY (y_assign rfl) rfl ?_ | refine stepY (y_loadA rfl rfl rfl) rfl ?_ | refine stepY (y_build_arrb rfl rfl rfl rfl) rfl ?_ | refine stepY (y_cmpF rfl rfl rfl (by omega)) rfl ?_ | refine stepE (e_store rfl rfl rfl rfl rfl rfl rfl) ?_)
            ((apply fin_r); (repeat (first | exact .nil | exact .tmp rfl | exact .agg rfl rfl rfl | apply ResL.cons)); (repeat (exact .refl _)))
        · rw [if_neg g2]
          unfold ord3
          by_cases g3 : crossP b a c < 0
          · rw [if_pos g3]
            have hx2 := cross_c b a c hb ha hcc
            repeat (first | refine seq_ ?_ | refine region_ ?_ | refine nil_ ?_ | refine stepY (y_assign rfl) rfl ?_ | refine stepY (y_loadA rfl rfl rfl) rfl ?_ | refine stepE (e_box rfl rfl rfl rfl rfl rfl) ?_ | refine stepE (e_alloc rfl rfl rfl) ?_ | refine stepE (e_bs_vs rfl rfl rfl rfl rfl rfl) ?_)
            refine seal_Ls (i := 15) (h := 15) rfl rfl rfl rfl ?_
            refine call_ Tryz.func20 rfl rfl (hc) rfl (by repeat (first | exact .tags _ _ | apply Les.cons | exact .nil)) rfl ?_
            repeat (first | refine seq_ ?_ | refine region_ ?_ | refine nil_ ?_ | refine skip_ ?_ | refine cond_f rfl ?_ | refine stepY (y_move rfl) rfl ?_ | refine stepY (y_assign rfl) rfl ?_ | refine stepY (y_loadA rfl rfl rfl) rfl ?_ | refine stepY (y_cmpF rfl rfl rfl (by omega)) rfl ?_)
            refine call_ Tryz.func26 rfl rfl (hx) rfl (by repeat (first | exact .refl _ | apply Les.cons | exact .nil)) rfl ?_
            repeat (first | refine seq_ ?_ | refine nil_ ?_ | refine skip_ ?_ | refine cond_f rfl ?_ | refine stepY (y_cmpF rfl rfl rfl (by omega)) rfl ?_)
            refine cut_ [(3, .ptr 3 0), (4, .ptr 4 0), (5, .ptr 5 0), (6, .ptr 6 0), (7, .p (E_ 0)), (9, .ptr 9 0), (10, .ptr 10 0), (11, .ptr 11 0)] [(3, .bx [I a.1, I a.2]), (4, .bx [I b.1, I b.2]), (5, .bx [I c.1, I c.2]), (6, .bx [I 0, I 0, I 0, I 0, I 0, I 0]), (9, .bx [I a.1, I a.2]), (10, .bx [I b.1, I b.2]), (11, .bx [I c.1, I c.2])] ?_ ?_
            · refine xDraw 1000 [3, 4, 5, 6] mixed ?_
              refine xY (i := 0) (op := .load _ _) rfl (by (exact y_loadA rfl rfl rfl)) rfl rfl rfl rfl (by kernel_rfl) ?_
              refine xY (i := 1) (op := .load _ _) rfl (by (exact y_loadA rfl rfl rfl)) rfl rfl rfl rfl (by kernel_rfl) ?_
              refine xY (i := 2) (op := .load _ _) rfl (by (exact y_loadA rfl rfl rfl)) rfl rfl rfl rfl (by kernel_rfl) ?_
              refine xAll (rs := [3, 4, 5]) (by kernel_rfl) rfl ⟨?_, ?_, ?_, trivial⟩
              · (refine iE rfl (e_alloc rfl rfl rfl) rfl rfl ?_)
                refine xAll (rs := [4, 5]) (by kernel_rfl) rfl ⟨?_, ?_, trivial⟩
                · (refine iE rfl (e_alloc rfl rfl rfl) rfl rfl ?_)
                  refine xAll (rs := [5]) (by kernel_rfl) rfl ⟨?_, trivial⟩
                  · (refine iE rfl (e_alloc rfl rfl rfl) rfl rfl ?_)
                    refine xAll (rs := [6]) (by kernel_rfl) rfl ⟨?_, trivial⟩
                    · (refine iE rfl (e_store rfl rfl rfl rfl rfl rfl rfl) rfl rfl ?_)
                      refine xAll (rs := [7]) (by kernel_rfl) rfl ⟨?_, trivial⟩
                      · (refine iE rfl (e_store rfl rfl rfl rfl rfl rfl rfl) rfl rfl ?_)
                        refine xAll (rs := [8]) (by kernel_rfl) rfl ⟨?_, trivial⟩
                        · (refine iE rfl (e_store rfl rfl rfl rfl rfl rfl rfl) rfl rfl ?_)
                          exact xEnd (by kernel_rfl) ⟨rfl, by (repeat (first | exact sub_nil | refine sub_cons rfl ?_)), by (repeat (first | exact subH_nil | refine subH_cons rfl ?_))⟩
                · (refine iE rfl (e_alloc rfl rfl rfl) rfl rfl ?_)
                  refine xAll (rs := [4]) (by kernel_rfl) rfl ⟨?_, trivial⟩
                  · (refine iE rfl (e_alloc rfl rfl rfl) rfl rfl ?_)
                    refine xAll (rs := [6]) (by kernel_rfl) rfl ⟨?_, trivial⟩
                    · (refine iE rfl (e_store rfl rfl rfl rfl rfl rfl rfl) rfl rfl ?_)
                      refine xAll (rs := [7]) (by kernel_rfl) rfl ⟨?_, trivial⟩
                      · (refine iE rfl (e_store rfl rfl rfl rfl rfl rfl rfl) rfl rfl ?_)
                        refine xAll (rs := [8]) (by kernel_rfl) rfl ⟨?_, trivial⟩
                        · (refine iE rfl (e_store rfl rfl rfl rfl rfl rfl rfl) rfl rfl ?_)
                          exact xEnd (by kernel_rfl) ⟨rfl, by (repeat (first | exact sub_nil | refine sub_cons rfl ?_)), by (repeat (first | exact subH_nil | refine subH_cons rfl ?_))⟩
              · (refine iE rfl (e_alloc rfl rfl rfl) rfl rfl ?_)
                refine xAll (rs := [3, 5]) (by kernel_rfl) rfl ⟨?_, ?_, trivial⟩
                · (refine iE rfl (e_alloc rfl rfl rfl) rfl rfl ?_)
                  refine xAll (rs := [5]) (by kernel_rfl) rfl ⟨?_, trivial⟩
                  · (refine iE rfl (e_alloc rfl rfl rfl) rfl rfl ?_)
                    refine xAll (rs := [6]) (by kernel_rfl) rfl ⟨?_, trivial⟩
                    · (refine iE rfl (e_store rfl rfl rfl rfl rfl rfl rfl) rfl rfl ?_)
                      refine xAll (rs := [7]) (by kernel_rfl) rfl ⟨?_, trivial⟩
                      · (refine iE rfl (e_store rfl rfl rfl rfl rfl rfl rfl) rfl rfl ?_)
                        refine xAll (rs := [8]) (by kernel_rfl) rfl ⟨?_, trivial⟩
                        · (refine iE rfl (e_store rfl rfl rfl rfl rfl rfl rfl) rfl rfl ?_)
                          exact xEnd (by kernel_rfl) ⟨rfl, by (repeat (first | exact sub_nil | refine sub_cons rfl ?_)), by (repeat (first | exact subH_nil | refine subH_cons rfl ?_))⟩
                · (refine iE rfl (e_alloc rfl rfl rfl) rfl rfl ?_)
                  refine xAll (rs := [3]) (by kernel_rfl) rfl ⟨?_, trivial⟩
                  · (refine iE rfl (e_alloc rfl rfl rfl) rfl rfl ?_)
                    refine xAll (rs := [6]) (by kernel_rfl) rfl ⟨?_, trivial⟩
                    · (refine iE rfl (e_store rfl rfl rfl rfl rfl rfl rfl) rfl rfl ?_)
                      refine xAll (rs := [7]) (by kernel_rfl) rfl ⟨?_, trivial⟩
                      · (refine iE rfl (e_store rfl rfl rfl rfl rfl rfl rfl) rfl rfl ?_)
                        refine xAll (rs := [8]) (by kernel_rfl) rfl ⟨?_, trivial⟩
                        · (refine iE rfl (e_store rfl rfl rfl rfl rfl rfl rfl) rfl rfl ?_)
                          exact xEnd (by kernel_rfl) ⟨rfl, by (repeat (first | exact sub_nil | refine sub_cons rfl ?_)), by (repeat (first | exact subH_nil | refine subH_cons rfl ?_))⟩
              · (refine iE rfl (e_alloc rfl rfl rfl) rfl rfl ?_)
                refine xAll (rs := [3, 4]) (by kernel_rfl) rfl ⟨?_, ?_, trivial⟩
                · (refine iE rfl (e_alloc rfl rfl rfl) rfl rfl ?_)
                  refine xAll (rs := [4]) (by kernel_rfl) rfl ⟨?_, trivial⟩
                  · (refine iE rfl (e_alloc rfl rfl rfl) rfl rfl ?_)
                    refine xAll (rs := [6]) (by kernel_rfl) rfl ⟨?_, trivial⟩
                    · (refine iE rfl (e_store rfl rfl rfl rfl rfl rfl rfl) rfl rfl ?_)
                      refine xAll (rs := [7]) (by kernel_rfl) rfl ⟨?_, trivial⟩
                      · (refine iE rfl (e_store rfl rfl rfl rfl rfl rfl rfl) rfl rfl ?_)
                        refine xAll (rs := [8]) (by kernel_rfl) rfl ⟨?_, trivial⟩
                        · (refine iE rfl (e_store rfl rfl rfl rfl rfl rfl rfl) rfl rfl ?_)
                          exact xEnd (by kernel_rfl) ⟨rfl, by (repeat (first | exact sub_nil | refine sub_cons rfl ?_)), by (repeat (first | exact subH_nil | refine subH_cons rfl ?_))⟩
                · (refine iE rfl (e_alloc rfl rfl rfl) rfl rfl ?_)
                  refine xAll (rs := [3]) (by kernel_rfl) rfl ⟨?_, trivial⟩
                  · (refine iE rfl (e_alloc rfl rfl rfl) rfl rfl ?_)
                    refine xAll (rs := [6]) (by kernel_rfl) rfl ⟨?_, trivial⟩
                    · (refine iE rfl (e_store rfl rfl rfl rfl rfl rfl rfl) rfl rfl ?_)
                      refine xAll (rs := [7]) (by kernel_rfl) rfl ⟨?_, trivial⟩
                      · (refine iE rfl (e_store rfl rfl rfl rfl rfl rfl rfl) rfl rfl ?_)
                        refine xAll (rs := [8]) (by kernel_rfl) rfl ⟨?_, trivial⟩
                        · (refine iE rfl (e_store rfl rfl rfl rfl rfl rfl rfl) rfl rfl ?_)
                          exact xEnd (by kernel_rfl) ⟨rfl, by (repeat (first | exact sub_nil | refine sub_cons rfl ?_)), by (repeat (first | exact subH_nil | refine subH_cons rfl ?_))⟩
            repeat (refine seq_ ?_)
            refine draw_ [(0, true), (1, true), (3, true), (4, true), (2, false), (5, false), (6, true)] 1000 [3, 4, 5, 6, 9, 10, 11] mixed (by kernel_rfl) rfl ?_
            ((refine dY rfl (y_loadA rfl rfl rfl) rfl rfl rfl rfl ?_); refine dY rfl (y_loadA rfl rfl rfl) rfl rfl rfl rfl ?_; refine dY rfl (y_loadA rfl rfl rfl) rfl rfl rfl rfl ?_; refine dY rfl (y_loadA rfl rfl rfl) rfl rfl rfl rfl ?_)
            refine dC rfl Tryz.func37 rfl rfl (sac) rfl (by repeat (first | exact .refl _ | apply Les.cons | exact .nil)) rfl rfl ?_
            skip
            refine dC rfl Tryz.func37 rfl rfl (sbc) rfl (by repeat (first | exact .refl _ | apply Les.cons | exact .nil)) rfl rfl ?_
            ((refine dY rfl (y_cmpT rfl rfl rfl (by omega)) rfl rfl rfl rfl ?_); refine dEnd ?_)
            repeat (refine cond_t rfl ?_)
            refine cut_ [(3, .ptr 3 0), (4, .ptr 4 0), (5, .ptr 5 0), (6, .ptr 6 0), (7, .p (E_ 0)), (9, .ptr 9 0), (10, .ptr 10 0), (11, .ptr 11 0)] [(3, .bx [I a.1, I a.2]), (4, .bx [I b.1, I b.2]), (5, .bx [I c.1, I c.2]), (6, .bx [I 0, I 0, I 0, I 0, I 0, I 0]), (9, .bx [I b.1, I b.2]), (10, .bx [I a.1, I a.2]), (11, .bx [I c.1, I c.2])] ?_ ?_
            · refine xDraw 1000 [3, 4, 5, 6] mixed ?_
              refine xY (i := 0) (op := .load _ _) rfl (by (exact y_loadA rfl rfl rfl)) rfl rfl rfl rfl (by kernel_rfl) ?_
              refine xY (i := 1) (op := .load _ _) rfl (by (exact y_loadA rfl rfl rfl)) rfl rfl rfl rfl (by kernel_rfl) ?_
              refine xY (i := 2) (op := .load _ _) rfl (by (exact y_loadA rfl rfl rfl)) rfl rfl rfl rfl (by kernel_rfl) ?_
              refine xAll (rs := [3]) (by kernel_rfl) rfl ⟨?_, trivial⟩
              · (refine iE rfl (e_store rfl rfl rfl rfl rfl rfl rfl) rfl rfl ?_)
                refine xAll (rs := [4]) (by kernel_rfl) rfl ⟨?_, trivial⟩
                · (refine iE rfl (e_store rfl rfl rfl rfl rfl rfl rfl) rfl rfl ?_)
                  refine xAll (rs := [5]) (by kernel_rfl) rfl ⟨?_, trivial⟩
                  · (refine iE rfl (e_store rfl rfl rfl rfl rfl rfl rfl) rfl rfl ?_)
                    exact xEnd (by kernel_rfl) ⟨rfl, by (repeat (first | exact sub_nil | refine sub_cons rfl ?_)), by (repeat (first | exact subH_nil | refine subH_cons rfl ?_))⟩
            repeat (refine seq_ ?_)
            refine draw_ [(0, true), (1, true), (3, true), (4, true), (2, false), (5, false), (6, true)] 1000 [3, 4, 5, 6, 9, 10, 11] mixed (by kernel_rfl) rfl ?_
            ((refine dY rfl (y_loadA rfl rfl rfl) rfl rfl rfl rfl ?_); refine dY rfl (y_loadA rfl rfl rfl) rfl rfl rfl rfl ?_; refine dY rfl (y_loadA rfl rfl rfl) rfl rfl rfl rfl ?_; refine dY rfl (y_loadA rfl rfl rfl) rfl rfl rfl rfl ?_)
            refine dC rfl Tryz.func37 rfl rfl (sab) rfl (by repeat (first | exact .refl _ | apply Les.cons | exact .nil)) rfl rfl ?_
            skip
            refine dC rfl Tryz.func37 rfl rfl (sac) rfl (by repeat (first | exact .refl _ | apply Les.cons | exact .nil)) rfl rfl ?_
            ((refine dY rfl (y_cmpF rfl rfl rfl (by omega)) rfl rfl rfl rfl ?_); refine dEnd ?_)
            repeat (first | refine seq_ ?_ | refine region_ ?_ | refine skip_ ?_ | refine cond_f rfl ?_ | refine stepY (y_loadA rfl rfl rfl) rfl ?_)
            refine call_ Tryz.func26 rfl rfl (hx2) rfl (by repeat (first | exact .refl _ | apply Les.cons | exact .nil)) rfl ?_
            repeat (first | refine seq_ ?_ | refine region_ ?_ | refine nil_ ?_ | refine ret_ ?_ | refine cond_t rfl ?_ | refine stepY (y_assign rfl) rfl ?_ | refine stepY (y_loadA rfl rfl rfl) rfl ?_ | refine stepY (y_build_arrb rfl rfl rfl rfl) rfl ?_ | refine stepY (y_cmpT rfl rfl rfl (by omega)) rfl ?_ | refine stepE (e_store rfl rfl rfl rfl rfl rfl rfl) ?_)
            ((apply fin_r); (repeat (first | exact .nil | exact .tmp rfl | exact .agg rfl rfl rfl | apply ResL.cons)); (repeat (exact .refl _)))
          · rw [if_neg g3]
            have hx2 := cross_c b a c hb ha hcc
            repeat (first | refine seq_ ?_ | refine region_ ?_ | refine nil_ ?_ | refine stepY (y_assign rfl) rfl ?_ | refine stepY (y_loadA rfl rfl rfl) rfl ?_ | refine stepE (e_box rfl rfl rfl rfl rfl rfl) ?_ | refine stepE (e_alloc rfl rfl rfl) ?_ | refine stepE (e_bs_vs rfl rfl rfl rfl rfl rfl) ?_)
            refine seal_Ls (i := 15) (h := 15) rfl rfl rfl rfl ?_
            refine call_ Tryz.func20 rfl rfl (hc) rfl (by repeat (first | exact .tags _ _ | apply Les.cons | exact .nil)) rfl ?_
            repeat (first | refine seq_ ?_ | refine region_ ?_ | refine nil_ ?_ | refine skip_ ?_ | refine cond_f rfl ?_ | refine stepY (y_move rfl) rfl ?_ | refine stepY (y_assign rfl) rfl ?_ | refine stepY (y_loadA rfl rfl rfl) rfl ?_ | refine stepY (y_cmpF rfl rfl rfl (by omega)) rfl ?_)
            refine call_ Tryz.func26 rfl rfl (hx) rfl (by repeat (first | exact .refl _ | apply Les.cons | exact .nil)) rfl ?_
            repeat (first | refine seq_ ?_ | refine nil_ ?_ | refine skip_ ?_ | refine cond_f rfl ?_ | refine stepY (y_cmpF rfl rfl rfl (by omega)) rfl ?_)
            refine cut_ [(3, .ptr 3 0), (4, .ptr 4 0), (5, .ptr 5 0), (6, .ptr 6 0), (7, .p (E_ 0)), (9, .ptr 9 0), (10, .ptr 10 0), (11, .ptr 11 0)] [(3, .bx [I a.1, I a.2]), (4, .bx [I b.1, I b.2]), (5, .bx [I c.1, I c.2]), (6, .bx [I 0, I 0, I 0, I 0, I 0, I 0]), (9, .bx [I a.1, I a.2]), (10, .bx [I b.1, I b.2]), (11, .bx [I c.1, I c.2])] ?_ ?_
            · refine xDraw 1000 [3, 4, 5, 6] mixed ?_
              refine xY (i := 0) (op := .load _ _) rfl (by (exact y_loadA rfl rfl rfl)) rfl rfl rfl rfl (by kernel_rfl) ?_
              refine xY (i := 1) (op := .load _ _) rfl (by (exact y_loadA rfl rfl rfl)) rfl rfl rfl rfl (by kernel_rfl) ?_
              refine xY (i := 2) (op := .load _ _) rfl (by (exact y_loadA rfl rfl rfl)) rfl rfl rfl rfl (by kernel_rfl) ?_
              refine xAll (rs := [3, 4, 5]) (by kernel_rfl) rfl ⟨?_, ?_, ?_, trivial⟩
              · (refine iE rfl (e_alloc rfl rfl rfl) rfl rfl ?_)
                refine xAll (rs := [4, 5]) (by kernel_rfl) rfl ⟨?_, ?_, trivial⟩
                · (refine iE rfl (e_alloc rfl rfl rfl) rfl rfl ?_)
                  refine xAll (rs := [5]) (by kernel_rfl) rfl ⟨?_, trivial⟩
                  · (refine iE rfl (e_alloc rfl rfl rfl) rfl rfl ?_)
                    refine xAll (rs := [6]) (by kernel_rfl) rfl ⟨?_, trivial⟩
                    · (refine iE rfl (e_store rfl rfl rfl rfl rfl rfl rfl) rfl rfl ?_)
                      refine xAll (rs := [7]) (by kernel_rfl) rfl ⟨?_, trivial⟩
                      · (refine iE rfl (e_store rfl rfl rfl rfl rfl rfl rfl) rfl rfl ?_)
                        refine xAll (rs := [8]) (by kernel_rfl) rfl ⟨?_, trivial⟩
                        · (refine iE rfl (e_store rfl rfl rfl rfl rfl rfl rfl) rfl rfl ?_)
                          exact xEnd (by kernel_rfl) ⟨rfl, by (repeat (first | exact sub_nil | refine sub_cons rfl ?_)), by (repeat (first | exact subH_nil | refine subH_cons rfl ?_))⟩
                · (refine iE rfl (e_alloc rfl rfl rfl) rfl rfl ?_)
                  refine xAll (rs := [4]) (by kernel_rfl) rfl ⟨?_, trivial⟩
                  · (refine iE rfl (e_alloc rfl rfl rfl) rfl rfl ?_)
                    refine xAll (rs := [6]) (by kernel_rfl) rfl ⟨?_, trivial⟩
                    · (refine iE rfl (e_store rfl rfl rfl rfl rfl rfl rfl) rfl rfl ?_)
                      refine xAll (rs := [7]) (by kernel_rfl) rfl ⟨?_, trivial⟩
                      · (refine iE rfl (e_store rfl rfl rfl rfl rfl rfl rfl) rfl rfl ?_)
                        refine xAll (rs := [8]) (by kernel_rfl) rfl ⟨?_, trivial⟩
                        · (refine iE rfl (e_store rfl rfl rfl rfl rfl rfl rfl) rfl rfl ?_)
                          exact xEnd (by kernel_rfl) ⟨rfl, by (repeat (first | exact sub_nil | refine sub_cons rfl ?_)), by (repeat (first | exact subH_nil | refine subH_cons rfl ?_))⟩
              · (refine iE rfl (e_alloc rfl rfl rfl) rfl rfl ?_)
                refine xAll (rs := [3, 5]) (by kernel_rfl) rfl ⟨?_, ?_, trivial⟩
                · (refine iE rfl (e_alloc rfl rfl rfl) rfl rfl ?_)
                  refine xAll (rs := [5]) (by kernel_rfl) rfl ⟨?_, trivial⟩
                  · (refine iE rfl (e_alloc rfl rfl rfl) rfl rfl ?_)
                    refine xAll (rs := [6]) (by kernel_rfl) rfl ⟨?_, trivial⟩
                    · (refine iE rfl (e_store rfl rfl rfl rfl rfl rfl rfl) rfl rfl ?_)
                      refine xAll (rs := [7]) (by kernel_rfl) rfl ⟨?_, trivial⟩
                      · (refine iE rfl (e_store rfl rfl rfl rfl rfl rfl rfl) rfl rfl ?_)
                        refine xAll (rs := [8]) (by kernel_rfl) rfl ⟨?_, trivial⟩
                        · (refine iE rfl (e_store rfl rfl rfl rfl rfl rfl rfl) rfl rfl ?_)
                          exact xEnd (by kernel_rfl) ⟨rfl, by (repeat (first | exact sub_nil | refine sub_cons rfl ?_)), by (repeat (first | exact subH_nil | refine subH_cons rfl ?_))⟩
                · (refine iE rfl (e_alloc rfl rfl rfl) rfl rfl ?_)
                  refine xAll (rs := [3]) (by kernel_rfl) rfl ⟨?_, trivial⟩
                  · (refine iE rfl (e_alloc rfl rfl rfl) rfl rfl ?_)
                    refine xAll (rs := [6]) (by kernel_rfl) rfl ⟨?_, trivial⟩
                    · (refine iE rfl (e_store rfl rfl rfl rfl rfl rfl rfl) rfl rfl ?_)
                      refine xAll (rs := [7]) (by kernel_rfl) rfl ⟨?_, trivial⟩
                      · (refine iE rfl (e_store rfl rfl rfl rfl rfl rfl rfl) rfl rfl ?_)
                        refine xAll (rs := [8]) (by kernel_rfl) rfl ⟨?_, trivial⟩
                        · (refine iE rfl (e_store rfl rfl rfl rfl rfl rfl rfl) rfl rfl ?_)
                          exact xEnd (by kernel_rfl) ⟨rfl, by (repeat (first | exact sub_nil | refine sub_cons rfl ?_)), by (repeat (first | exact subH_nil | refine subH_cons rfl ?_))⟩
              · (refine iE rfl (e_alloc rfl rfl rfl) rfl rfl ?_)
                refine xAll (rs := [3, 4]) (by kernel_rfl) rfl ⟨?_, ?_, trivial⟩
                · (refine iE rfl (e_alloc rfl rfl rfl) rfl rfl ?_)
                  refine xAll (rs := [4]) (by kernel_rfl) rfl ⟨?_, trivial⟩
                  · (refine iE rfl (e_alloc rfl rfl rfl) rfl rfl ?_)
                    refine xAll (rs := [6]) (by kernel_rfl) rfl ⟨?_, trivial⟩
                    · (refine iE rfl (e_store rfl rfl rfl rfl rfl rfl rfl) rfl rfl ?_)
                      refine xAll (rs := [7]) (by kernel_rfl) rfl ⟨?_, trivial⟩
                      · (refine iE rfl (e_store rfl rfl rfl rfl rfl rfl rfl) rfl rfl ?_)
                        refine xAll (rs := [8]) (by kernel_rfl) rfl ⟨?_, trivial⟩
                        · (refine iE rfl (e_store rfl rfl rfl rfl rfl rfl rfl) rfl rfl ?_)
                          exact xEnd (by kernel_rfl) ⟨rfl, by (repeat (first | exact sub_nil | refine sub_cons rfl ?_)), by (repeat (first | exact subH_nil | refine subH_cons rfl ?_))⟩
                · (refine iE rfl (e_alloc rfl rfl rfl) rfl rfl ?_)
                  refine xAll (rs := [3]) (by kernel_rfl) rfl ⟨?_, trivial⟩
                  · (refine iE rfl (e_alloc rfl rfl rfl) rfl rfl ?_)
                    refine xAll (rs := [6]) (by kernel_rfl) rfl ⟨?_, trivial⟩
                    · (refine iE rfl (e_store rfl rfl rfl rfl rfl rfl rfl) rfl rfl ?_)
                      refine xAll (rs := [7]) (by kernel_rfl) rfl ⟨?_, trivial⟩
                      · (refine iE rfl (e_store rfl rfl rfl rfl rfl rfl rfl) rfl rfl ?_)
                        refine xAll (rs := [8]) (by kernel_rfl) rfl ⟨?_, trivial⟩
                        · (refine iE rfl (e_store rfl rfl rfl rfl rfl rfl rfl) rfl rfl ?_)
                          exact xEnd (by kernel_rfl) ⟨rfl, by (repeat (first | exact sub_nil | refine sub_cons rfl ?_)), by (repeat (first | exact subH_nil | refine subH_cons rfl ?_))⟩
            repeat (refine seq_ ?_)
            refine draw_ [(0, true), (1, true), (3, true), (4, true), (2, false), (5, false), (6, true)] 1000 [3, 4, 5, 6, 9, 10, 11] mixed (by kernel_rfl) rfl ?_
            ((refine dY rfl (y_loadA rfl rfl rfl) rfl rfl rfl rfl ?_); refine dY rfl (y_loadA rfl rfl rfl) rfl rfl rfl rfl ?_; refine dY rfl (y_loadA rfl rfl rfl) rfl rfl rfl rfl ?_; refine dY rfl (y_loadA rfl rfl rfl) rfl rfl rfl rfl ?_)
            refine dC rfl Tryz.func37 rfl rfl (sac) rfl (by repeat (first | exact .refl _ | apply Les.cons | exact .nil)) rfl rfl ?_
            skip
            refine dC rfl Tryz.func37 rfl rfl (sbc) rfl (by repeat (first | exact .refl _ | apply Les.cons | exact .nil)) rfl rfl ?_
            ((refine dY rfl (y_cmpT rfl rfl rfl (by omega)) rfl rfl rfl rfl ?_); refine dEnd ?_)
            repeat (refine cond_t rfl ?_)
            refine cut_ [(3, .ptr 3 0), (4, .ptr 4 0), (5, .ptr 5 0), (6, .ptr 6 0), (7, .p (E_ 0)), (9, .ptr 9 0), (10, .ptr 10 0), (11, .ptr 11 0)] [(3, .bx [I a.1, I a.2]), (4, .bx [I b.1, I b.2]), (5, .bx [I c.1, I c.2]), (6, .bx [I 0, I 0, I 0, I 0, I 0, I 0]), (9, .bx [I b.1, I b.2]), (10, .bx [I a.1, I a.2]), (11, .bx [I c.1, I c.2])] ?_ ?_
            · refine xDraw 1000 [3, 4, 5, 6] mixed ?_
              refine xY (i := 0) (op := .load _ _) rfl (by (exact y_loadA rfl rfl rfl)) rfl rfl rfl rfl (by kernel_rfl) ?_
              refine xY (i := 1) (op := .load _ _) rfl (by (exact y_loadA rfl rfl rfl)) rfl rfl rfl rfl (by kernel_rfl) ?_
              refine xY (i := 2) (op := .load _ _) rfl (by (exact y_loadA rfl rfl rfl)) rfl rfl rfl rfl (by kernel_rfl) ?_
              refine xAll (rs := [3]) (by kernel_rfl) rfl ⟨?_, trivial⟩
              · (refine iE rfl (e_store rfl rfl rfl rfl rfl rfl rfl) rfl rfl ?_)
                refine xAll (rs := [4]) (by kernel_rfl) rfl ⟨?_, trivial⟩
                · (refine iE rfl (e_store rfl rfl rfl rfl rfl rfl rfl) rfl rfl ?_)
                  refine xAll (rs := [5]) (by kernel_rfl) rfl ⟨?_, trivial⟩
                  · (refine iE rfl (e_store rfl rfl rfl rfl rfl rfl rfl) rfl rfl ?_)
                    exact xEnd (by kernel_rfl) ⟨rfl, by (repeat (first | exact sub_nil | refine sub_cons rfl ?_)), by (repeat (first | exact subH_nil | refine subH_cons rfl ?_))⟩
            repeat (refine seq_ ?_)
            refine draw_ [(0, true), (1, true), (3, true), (4, true), (2, false), (5, false), (6, true)] 1000 [3, 4, 5, 6, 9, 10, 11] mixed (by kernel_rfl) rfl ?_
            ((refine dY rfl (y_loadA rfl rfl rfl) rfl rfl rfl rfl ?_); refine dY rfl (y_loadA rfl rfl rfl) rfl rfl rfl rfl ?_; refine dY rfl (y_loadA rfl rfl rfl) rfl rfl rfl rfl ?_; refine dY rfl (y_loadA rfl rfl rfl) rfl rfl rfl rfl ?_)
            refine dC rfl Tryz.func37 rfl rfl (sab) rfl (by repeat (first | exact .refl _ | apply Les.cons | exact .nil)) rfl rfl ?_
            skip
            refine dC rfl Tryz.func37 rfl rfl (sac) rfl (by repeat (first | exact .refl _ | apply Les.cons | exact .nil)) rfl rfl ?_
            ((refine dY rfl (y_cmpF rfl rfl rfl (by omega)) rfl rfl rfl rfl ?_); refine dEnd ?_)
            repeat (first | refine seq_ ?_ | refine region_ ?_ | refine skip_ ?_ | refine cond_f rfl ?_ | refine stepY (y_loadA rfl rfl rfl) rfl ?_)
            refine call_ Tryz.func26 rfl rfl (hx2) rfl (by repeat (first | exact .refl _ | apply Les.cons | exact .nil)) rfl ?_
            repeat (first | refine seq_ ?_ | refine region_ ?_ | refine nil_ ?_ | refine skip_ ?_ | refine ret_ ?_ | refine cond_f rfl ?_ | refine stepY (y_assign rfl) rfl ?_ | refine stepY (y_loadA rfl rfl rfl) rfl ?_ | refine stepY (y_build_arrb rfl rfl rfl rfl) rfl ?_ | refine stepY (y_cmpF rfl rfl rfl (by omega)) rfl ?_ | refine stepE (e_store rfl rfl rfl rfl rfl rfl rfl) ?_)
            ((apply fin_r); (repeat (first | exact .nil | exact .tmp rfl | exact .agg rfl rfl rfl | apply ResL.cons)); (repeat (exact .refl _)))
      · rw [if_neg g1]
        unfold ord2
        dsimp only
        by_cases g2 : farP a b > farP b c
        · rw [if_pos g2]
          unfold ord3
          by_cases g3 : crossP c a b < 0
          · rw [if_pos g3]
            have hx2 := cross_c c a b hcc ha hb
            repeat (first | refine seq_ ?_ | refine region_ ?_ | refine nil_ ?_ | refine stepY (y_assign rfl) rfl ?_ | refine stepY (y_loadA rfl rfl rfl) rfl ?_ | refine stepE (e_box rfl rfl rfl rfl rfl rfl) ?_ | refine stepE (e_alloc rfl rfl rfl) ?_ | refine stepE (e_bs_vs rfl rfl rfl rfl rfl rfl) ?_)
            refine seal_Ls (i := 15) (h := 15) rfl rfl rfl rfl ?_
            refine call_ Tryz.func20 rfl rfl (hc) rfl (by repeat (first | exact .tags _ _ | apply Les.cons | exact .nil)) rfl ?_
            repeat (first | refine seq_ ?_ | refine region_ ?_ | refine nil_ ?_ | refine skip_ ?_ | refine cond_f rfl ?_ | refine stepY (y_move rfl) rfl ?_ | refine stepY (y_assign rfl) rfl ?_ | refine stepY (y_loadA rfl rfl rfl) rfl ?_ | refine stepY (y_cmpF rfl rfl rfl (by omega)) rfl ?_)
            refine call_ Tryz.func26 rfl rfl (hx) rfl (by repeat (first | exact .refl _ | apply Les.cons | exact .nil)) rfl ?_
            repeat (first | refine seq_ ?_ | refine nil_ ?_ | refine skip_ ?_ | refine cond_f rfl ?_ | refine stepY (y_cmpF rfl rfl rfl (by omega)) rfl ?_)
            refine cut_ [(3, .ptr 3 0), (4, .ptr 4 0), (5, .ptr 5 0), (6, .ptr 6 0), (7, .p (E_ 0)), (9, .ptr 9 0), (10, .ptr 10 0), (11, .ptr 11 0)] [(3, .bx [I a.1, I a.2]), (4, .bx [I b.1, I b.2]), (5, .bx [I c.1, I c.2]), (6, .bx [I 0, I 0, I 0, I 0, I 0, I 0]), (9, .bx [I a.1, I a.2]), (10, .bx [I b.1, I b.2]), (11, .bx [I c.1, I c.2])] ?_ ?_
            · refine xDraw 1000 [3, 4, 5, 6] mixed ?_
              refine xY (i := 0) (op := .load _ _) rfl (by (exact y_loadA rfl rfl rfl)) rfl rfl rfl rfl (by kernel_rfl) ?_
              refine xY (i := 1) (op := .load _ _) rfl (by (exact y_loadA rfl rfl rfl)) rfl rfl rfl rfl (by kernel_rfl) ?_
              refine xY (i := 2) (op := .load _ _) rfl (by (exact y_loadA rfl rfl rfl)) rfl rfl rfl rfl (by kernel_rfl) ?_
              refine xAll (rs := [3, 4, 5]) (by kernel_rfl) rfl ⟨?_, ?_, ?_, trivial⟩
              · (refine iE rfl (e_alloc rfl rfl rfl) rfl rfl ?_)
                refine xAll (rs := [4, 5]) (by kernel_rfl) rfl ⟨?_, ?_, trivial⟩
                · (refine iE rfl (e_alloc rfl rfl rfl) rfl rfl ?_)
                  refine xAll (rs := [5]) (by kernel_rfl) rfl ⟨?_, trivial⟩
                  · (refine iE rfl (e_alloc rfl rfl rfl) rfl rfl ?_)
                    refine xAll (rs := [6]) (by kernel_rfl) rfl ⟨?_, trivial⟩
                    · (refine iE rfl (e_store rfl rfl rfl rfl rfl rfl rfl) rfl rfl ?_)
                      refine xAll (rs := [7]) (by kernel_rfl) rfl ⟨?_, trivial⟩
                      · (refine iE rfl (e_store rfl rfl rfl rfl rfl rfl rfl) rfl rfl ?_)
                        refine xAll (rs := [8]) (by kernel_rfl) rfl ⟨?_, trivial⟩
                        · (refine iE rfl (e_store rfl rfl rfl rfl rfl rfl rfl) rfl rfl ?_)
                          exact xEnd (by kernel_rfl) ⟨rfl, by (repeat (first | exact sub_nil | refine sub_cons rfl ?_)), by (repeat (first | exact subH_nil | refine subH_cons rfl ?_))⟩
                · (refine iE rfl (e_alloc rfl rfl rfl) rfl rfl ?_)
                  refine xAll (rs := [4]) (by kernel_rfl) rfl ⟨?_, trivial⟩
                  · (refine iE rfl (e_alloc rfl rfl rfl) rfl rfl ?_)
                    refine xAll (rs := [6]) (by kernel_rfl) rfl ⟨?_, trivial⟩
                    · (refine iE rfl (e_store rfl rfl rfl rfl rfl rfl rfl) rfl rfl ?_)
                      refine xAll (rs := [7]) (by kernel_rfl) rfl ⟨?_, trivial⟩
                      · (refine iE rfl (e_store rfl rfl rfl rfl rfl rfl rfl) rfl rfl ?_)
                        refine xAll (rs := [8]) (by kernel_rfl) rfl ⟨?_, trivial⟩
                        · (refine iE rfl (e_store rfl rfl rfl rfl rfl rfl rfl) rfl rfl ?_)
                          exact xEnd (by kernel_rfl) ⟨rfl, by (repeat (first | exact sub_nil | refine sub_cons rfl ?_)), by (repeat (first | exact subH_nil | refine subH_cons rfl ?_))⟩
              · (refine iE rfl (e_alloc rfl rfl rfl) rfl rfl ?_)
                refine xAll (rs := [3, 5]) (by kernel_rfl) rfl ⟨?_, ?_, trivial⟩
                · (refine iE rfl (e_alloc rfl rfl rfl) rfl rfl ?_)
                  refine xAll (rs := [5]) (by kernel_rfl) rfl ⟨?_, trivial⟩
                  · (refine iE rfl (e_alloc rfl rfl rfl) rfl rfl ?_)
                    refine xAll (rs := [6]) (by kernel_rfl) rfl ⟨?_, trivial⟩
                    · (refine iE rfl (e_store rfl rfl rfl rfl rfl rfl rfl) rfl rfl ?_)
                      refine xAll (rs := [7]) (by kernel_rfl) rfl ⟨?_, trivial⟩
                      · (refine iE rfl (e_store rfl rfl rfl rfl rfl rfl rfl) rfl rfl ?_)
                        refine xAll (rs := [8]) (by kernel_rfl) rfl ⟨?_, trivial⟩
                        · (refine iE rfl (e_store rfl rfl rfl rfl rfl rfl rfl) rfl rfl ?_)
                          exact xEnd (by kernel_rfl) ⟨rfl, by (repeat (first | exact sub_nil | refine sub_cons rfl ?_)), by (repeat (first | exact subH_nil | refine subH_cons rfl ?_))⟩
                · (refine iE rfl (e_alloc rfl rfl rfl) rfl rfl ?_)
                  refine xAll (rs := [3]) (by kernel_rfl) rfl ⟨?_, trivial⟩
                  · (refine iE rfl (e_alloc rfl rfl rfl) rfl rfl ?_)
                    refine xAll (rs := [6]) (by kernel_rfl) rfl ⟨?_, trivial⟩
                    · (refine iE rfl (e_store rfl rfl rfl rfl rfl rfl rfl) rfl rfl ?_)
                      refine xAll (rs := [7]) (by kernel_rfl) rfl ⟨?_, trivial⟩
                      · (refine iE rfl (e_store rfl rfl rfl rfl rfl rfl rfl) rfl rfl ?_)
                        refine xAll (rs := [8]) (by kernel_rfl) rfl ⟨?_, trivial⟩
                        · (refine iE rfl (e_store rfl rfl rfl rfl rfl rfl rfl) rfl rfl ?_)
                          exact xEnd (by kernel_rfl) ⟨rfl, by (repeat (first | exact sub_nil | refine sub_cons rfl ?_)), by (repeat (first | exact subH_nil | refine subH_cons rfl ?_))⟩
              · (refine iE rfl (e_alloc rfl rfl rfl) rfl rfl ?_)
                refine xAll (rs := [3, 4]) (by kernel_rfl) rfl ⟨?_, ?_, trivial⟩
                · (refine iE rfl (e_alloc rfl rfl rfl) rfl rfl ?_)
                  refine xAll (rs := [4]) (by kernel_rfl) rfl ⟨?_, trivial⟩
                  · (refine iE rfl (e_alloc rfl rfl rfl) rfl rfl ?_)
                    refine xAll (rs := [6]) (by kernel_rfl) rfl ⟨?_, trivial⟩
                    · (refine iE rfl (e_store rfl rfl rfl rfl rfl rfl rfl) rfl rfl ?_)
                      refine xAll (rs := [7]) (by kernel_rfl) rfl ⟨?_, trivial⟩
                      · (refine iE rfl (e_store rfl rfl rfl rfl rfl rfl rfl) rfl rfl ?_)
                        refine xAll (rs := [8]) (by kernel_rfl) rfl ⟨?_, trivial⟩
                        · (refine iE rfl (e_store rfl rfl rfl rfl rfl rfl rfl) rfl rfl ?_)
                          exact xEnd (by kernel_rfl) ⟨rfl, by (repeat (first | exact sub_nil | refine sub_cons rfl ?_)), by (repeat (first | exact subH_nil | refine subH_cons rfl ?_))⟩
                · (refine iE rfl (e_alloc rfl rfl rfl) rfl rfl ?_)
                  refine xAll (rs := [3]) (by kernel_rfl) rfl ⟨?_, trivial⟩
                  · (refine iE rfl (e_alloc rfl rfl rfl) rfl rfl ?_)
                    refine xAll (rs := [6]) (by kernel_rfl) rfl ⟨?_, trivial⟩
                    · (refine iE rfl (e_store rfl rfl rfl rfl rfl rfl rfl) rfl rfl ?_)
                      refine xAll (rs := [7]) (by kernel_rfl) rfl ⟨?_, trivial⟩
                      · (refine iE rfl (e_store rfl rfl rfl rfl rfl rfl rfl) rfl rfl ?_)
                        refine xAll (rs := [8]) (by kernel_rfl) rfl ⟨?_, trivial⟩
                        · (refine iE rfl (e_store rfl rfl rfl rfl rfl rfl rfl) rfl rfl ?_)
                          exact xEnd (by kernel_rfl) ⟨rfl, by (repeat (first | exact sub_nil | refine sub_cons rfl ?_)), by (repeat (first | exact subH_nil | refine subH_cons rfl ?_))⟩
            repeat (refine seq_ ?_)
            refine draw_ [(0, true), (1, true), (3, true), (4, true), (2, false), (5, false), (6, true)] 1000 [3, 4, 5, 6, 9, 10, 11] mixed (by kernel_rfl) rfl ?_
            ((refine dY rfl (y_loadA rfl rfl rfl) rfl rfl rfl rfl ?_); refine dY rfl (y_loadA rfl rfl rfl) rfl rfl rfl rfl ?_; refine dY rfl (y_loadA rfl rfl rfl) rfl rfl rfl rfl ?_; refine dY rfl (y_loadA rfl rfl rfl) rfl rfl rfl rfl ?_)
            refine dC rfl Tryz.func37 rfl rfl (sac) rfl (by repeat (first | exact .refl _ | apply Les.cons | exact .nil)) rfl rfl ?_
            skip
            refine dC rfl Tryz.func37 rfl rfl (sbc) rfl (by repeat (first | exact .refl _ | apply Les.cons | exact .nil)) rfl rfl ?_
            ((refine dY rfl (y_cmpF rfl rfl rfl (by omega)) rfl rfl rfl rfl ?_); refine dEnd ?_)
            repeat (first | refine seq_ ?_ | refine skip_ ?_ | refine cond_f rfl ?_)
            refine draw_ [(0, true), (1, true), (3, true), (4, true), (2, false), (5, false), (6, true)] 1000 [3, 4, 5, 6, 9, 10, 11] mixed (by kernel_rfl) rfl ?_
            ((refine dY rfl (y_loadA rfl rfl rfl) rfl rfl rfl rfl ?_); refine dY rfl (y_loadA rfl rfl rfl) rfl rfl rfl rfl ?_; refine dY rfl (y_loadA rfl rfl rfl) rfl rfl rfl rfl ?_; refine dY rfl (y_loadA rfl rfl rfl) rfl rfl rfl rfl ?_)
            refine dC rfl Tryz.func37 rfl rfl (sab) rfl (by repeat (first | exact .refl _ | apply Les.cons | exact .nil)) rfl rfl ?_
            skip
            refine dC rfl Tryz.func37 rfl rfl (sbc) rfl (by repeat (first | exact .refl _ | apply Les.cons | exact .nil)) rfl rfl ?_
            ((refine dY rfl (y_cmpT rfl rfl rfl (by omega)) rfl rfl rfl rfl ?_); refine dEnd ?_)
            repeat (refine cond_t rfl ?_)
            refine cut_ [(3, .ptr 3 0), (4, .ptr 4 0), (5, .ptr 5 0), (6, .ptr 6 0), (7, .p (E_ 0)), (9, .ptr 9 0), (10, .ptr 10 0), (11, .ptr 11 0)] [(3, .bx [I a.1, I a.2]), (4, .bx [I b.1, I b.2]), (5, .bx [I c.1, I c.2]), (6, .bx [I 0, I 0, I 0, I 0, I 0, I 0]), (9, .bx [I c.1, I c.2]), (10, .bx [I a.1, I a.2]), (11, .bx [I b.1, I b.2])] ?_ ?_
            · refine xDraw 1000 [3, 4, 5, 6] mixed ?_
              refine xY (i := 0) (op := .load _ _) rfl (by (exact y_loadA rfl rfl rfl)) rfl rfl rfl rfl (by kernel_rfl) ?_
              refine xY (i := 1) (op := .load _ _) rfl (by (exact y_loadA rfl rfl rfl)) rfl rfl rfl rfl (by kernel_rfl) ?_
              refine xY (i := 2) (op := .load _ _) rfl (by (exact y_loadA rfl rfl rfl)) rfl rfl rfl rfl (by kernel_rfl) ?_
              refine xAll (rs := [3]) (by kernel_rfl) rfl ⟨?_, trivial⟩
              · (refine iE rfl (e_store rfl rfl rfl rfl rfl rfl rfl) rfl rfl ?_)
                refine xAll (rs := [4]) (by kernel_rfl) rfl ⟨?_, trivial⟩
                · (refine iE rfl (e_store rfl rfl rfl rfl rfl rfl rfl) rfl rfl ?_)
                  refine xAll (rs := [5]) (by kernel_rfl) rfl ⟨?_, trivial⟩
                  · (refine iE rfl (e_store rfl rfl rfl rfl rfl rfl rfl) rfl rfl ?_)
                    exact xEnd (by kernel_rfl) ⟨rfl, by (repeat (first | exact sub_nil | refine sub_cons rfl ?_)), by (repeat (first | exact subH_nil | refine subH_cons rfl ?_))⟩
            repeat (first | refine seq_ ?_ | refine region_ ?_ | refine stepY (y_loadA rfl rfl rfl) rfl ?_)
            refine call_ Tryz.func26 rfl rfl (hx2) rfl (by repeat (first | exact .refl _ | apply Les.cons | exact .nil)) rfl ?_
            repeat (first | refine seq_ ?_ | refine region_ ?_ | refine nil_ ?_ | refine ret_ ?_ | refine cond_t rfl ?_ | refine stepY (y_assign rfl) rfl ?_ | refine stepY (y_loadA rfl rfl rfl) rfl ?_ | refine stepY (y_build_arrb rfl rfl rfl rfl) rfl ?_ | refine stepY (y_cmpT rfl rfl rfl (by omega)) rfl ?_ | refine stepE (e_store rfl rfl rfl rfl rfl rfl rfl) ?_)
            ((apply fin_r); (repeat (first | exact .nil | exact .tmp rfl | exact .agg rfl rfl rfl | apply ResL.cons)); (repeat (exact .refl _)))
          · rw [if_neg g3]
            have hx2 := cross_c c a b hcc ha hb
            repeat (first | refine seq_ ?_ | refine region_ ?_ | refine nil_ ?_ | refine stepY (y_assign rfl) rfl ?_ | refine stepY (y_loadA rfl rfl rfl) rfl ?_ | refine stepE (e_box rfl rfl rfl rfl rfl rfl) ?_ | refine stepE (e_alloc rfl rfl rfl) ?_ | refine stepE (e_bs_vs rfl rfl rfl rfl rfl rfl) ?_)
            refine seal_Ls (i := 15) (h := 15) rfl rfl rfl rfl ?_
            refine call_ Tryz.func20 rfl rfl (hc) rfl (by repeat (first | exact .tags _ _ | apply Les.cons | exact .nil)) rfl ?_
            repeat (first | refine seq_ ?_ | refine region_ ?_ | refine nil_ ?_ | refine skip_ ?_ | refine cond_f rfl ?_ | refine stepY (y_move rfl) rfl ?_ | refine stepY (y_assign rfl) rfl ?_ | refine stepY (y_loadA rfl rfl rfl) rfl ?_ | refine stepY (y_cmpF rfl rfl rfl (by omega)) rfl ?_)
            refine call_ Tryz.func26 rfl rfl (hx) rfl (by repeat (first | exact .refl _ | apply Les.cons | exact .nil)) rfl ?_
            repeat (first | refine seq_ ?_ | refine nil_ ?_ | refine skip_ ?_ | refine cond_f rfl ?_ | refine stepY (y_cmpF rfl rfl rfl (by omega)) rfl ?_)
            refine cut_ [(3, .ptr 3 0), (4, .ptr 4 0), (5, .ptr 5 0), (6, .ptr 6 0), (7, .p (E_ 0)), (9, .ptr 9 0), (10, .ptr 10 0), (11, .ptr 11 0)] [(3, .bx [I a.1, I a.2]), (4, .bx [I b.1, I b.2]), (5, .bx [I c.1, I c.2]), (6, .bx [I 0, I 0, I 0, I 0, I 0, I 0]), (9, .bx [I a.1, I a.2]), (10, .bx [I b.1, I b.2]), (11, .bx [I c.1, I c.2])] ?_ ?_
            · refine xDraw 1000 [3, 4, 5, 6] mixed ?_
              refine xY (i := 0) (op := .load _ _) rfl (by (exact y_loadA rfl rfl rfl)) rfl rfl rfl rfl (by kernel_rfl) ?_
              refine xY (i := 1) (op := .load _ _) rfl (by (exact y_loadA rfl rfl rfl)) rfl rfl rfl rfl (by kernel_rfl) ?_
              refine xY (i := 2) (op := .load _ _) rfl (by (exact y_loadA rfl rfl rfl)) rfl rfl rfl rfl (by kernel_rfl) ?_
              refine xAll (rs := [3, 4, 5]) (by kernel_rfl) rfl ⟨?_, ?_, ?_, trivial⟩
              · (refine iE rfl (e_alloc rfl rfl rfl) rfl rfl ?_)
                refine xAll (rs := [4, 5]) (by kernel_rfl) rfl ⟨?_, ?_, trivial⟩
                · (refine iE rfl (e_alloc rfl rfl rfl) rfl rfl ?_)
                  refine xAll (rs := [5]) (by kernel_rfl) rfl ⟨?_, trivial⟩
                  · (refine iE rfl (e_alloc rfl rfl rfl) rfl rfl ?_)
                    refine xAll (rs := [6]) (by kernel_rfl) rfl ⟨?_, trivial⟩
                    · (refine iE rfl (e_store rfl rfl rfl rfl rfl rfl rfl) rfl rfl ?_)
                      refine xAll (rs := [7]) (by kernel_rfl) rfl ⟨?_, trivial⟩
                      · (refine iE rfl (e_store rfl rfl rfl rfl rfl rfl rfl) rfl rfl ?_)
                        refine xAll (rs := [8]) (by kernel_rfl) rfl ⟨?_, trivial⟩
                        · (refine iE rfl (e_store rfl rfl rfl rfl rfl rfl rfl) rfl rfl ?_)
                          exact xEnd (by kernel_rfl) ⟨rfl, by (repeat (first | exact sub_nil | refine sub_cons rfl ?_)), by (repeat (first | exact subH_nil | refine subH_cons rfl ?_))⟩
                · (refine iE rfl (e_alloc rfl rfl rfl) rfl rfl ?_)
                  refine xAll (rs := [4]) (by kernel_rfl) rfl ⟨?_, trivial⟩
                  · (refine iE rfl (e_alloc rfl rfl rfl) rfl rfl ?_)
                    refine xAll (rs := [6]) (by kernel_rfl) rfl ⟨?_, trivial⟩
                    · (refine iE rfl (e_store rfl rfl rfl rfl rfl rfl rfl) rfl rfl ?_)
                      refine xAll (rs := [7]) (by kernel_rfl) rfl ⟨?_, trivial⟩
                      · (refine iE rfl (e_store rfl rfl rfl rfl rfl rfl rfl) rfl rfl ?_)
                        refine xAll (rs := [8]) (by kernel_rfl) rfl ⟨?_, trivial⟩
                        · (refine iE rfl (e_store rfl rfl rfl rfl rfl rfl rfl) rfl rfl ?_)
                          exact xEnd (by kernel_rfl) ⟨rfl, by (repeat (first | exact sub_nil | refine sub_cons rfl ?_)), by (repeat (first | exact subH_nil | refine subH_cons rfl ?_))⟩
              · (refine iE rfl (e_alloc rfl rfl rfl) rfl rfl ?_)
                refine xAll (rs := [3, 5]) (by kernel_rfl) rfl ⟨?_, ?_, trivial⟩
                · (refine iE rfl (e_alloc rfl rfl rfl) rfl rfl ?_)
                  refine xAll (rs := [5]) (by kernel_rfl) rfl ⟨?_, trivial⟩
                  · (refine iE rfl (e_alloc rfl rfl rfl) rfl rfl ?_)
                    refine xAll (rs := [6]) (by kernel_rfl) rfl ⟨?_, trivial⟩
                    · (refine iE rfl (e_store rfl rfl rfl rfl rfl rfl rfl) rfl rfl ?_)
                      refine xAll (rs := [7]) (by kernel_rfl) rfl ⟨?_, trivial⟩
                      · (refine iE rfl (e_store rfl rfl rfl rfl rfl rfl rfl) rfl rfl ?_)
                        refine xAll (rs := [8]) (by kernel_rfl) rfl ⟨?_, trivial⟩
                        · (refine iE rfl (e_store rfl rfl rfl rfl rfl rfl rfl) rfl rfl ?_)
                          exact xEnd (by kernel_rfl) ⟨rfl, by (repeat (first | exact sub_nil | refine sub_cons rfl ?_)), by (repeat (first | exact subH_nil | refine subH_cons rfl ?_))⟩
                · (refine iE rfl (e_alloc rfl rfl rfl) rfl rfl ?_)
                  refine xAll (rs := [3]) (by kernel_rfl) rfl ⟨?_, trivial⟩
                  · (refine iE rfl (e_alloc rfl rfl rfl) rfl rfl ?_)
                    refine xAll (rs := [6]) (by kernel_rfl) rfl ⟨?_, trivial⟩
                    · (refine iE rfl (e_store rfl rfl rfl rfl rfl rfl rfl) rfl rfl ?_)
                      refine xAll (rs := [7]) (by kernel_rfl) rfl ⟨?_, trivial⟩
                      · (refine iE rfl (e_store rfl rfl rfl rfl rfl rfl rfl) rfl rfl ?_)
                        refine xAll (rs := [8]) (by kernel_rfl) rfl ⟨?_, trivial⟩
                        · (refine iE rfl (e_store rfl rfl rfl rfl rfl rfl rfl) rfl rfl ?_)
                          exact xEnd (by kernel_rfl) ⟨rfl, by (repeat (first | exact sub_nil | refine sub_cons rfl ?_)), by (repeat (first | exact subH_nil | refine subH_cons rfl ?_))⟩
              · (refine iE rfl (e_alloc rfl rfl rfl) rfl rfl ?_)
                refine xAll (rs := [3, 4]) (by kernel_rfl) rfl ⟨?_, ?_, trivial⟩
                · (refine iE rfl (e_alloc rfl rfl rfl) rfl rfl ?_)
                  refine xAll (rs := [4]) (by kernel_rfl) rfl ⟨?_, trivial⟩
                  · (refine iE rfl (e_alloc rfl rfl rfl) rfl rfl ?_)
                    refine xAll (rs := [6]) (by kernel_rfl) rfl ⟨?_, trivial⟩
                    · (refine iE rfl (e_store rfl rfl rfl rfl rfl rfl rfl) rfl rfl ?_)
                      refine xAll (rs := [7]) (by kernel_rfl) rfl ⟨?_, trivial⟩
                      · (refine iE rfl (e_store rfl rfl rfl rfl rfl rfl rfl) rfl rfl ?_)
                        refine xAll (rs := [8]) (by kernel_rfl) rfl ⟨?_, trivial⟩
                        · (refine iE rfl (e_store rfl rfl rfl rfl rfl rfl rfl) rfl rfl ?_)
                          exact xEnd (by kernel_rfl) ⟨rfl, by (repeat (first | exact sub_nil | refine sub_cons rfl ?_)), by (repeat (first | exact subH_nil | refine subH_cons rfl ?_))⟩
                · (refine iE rfl (e_alloc rfl rfl rfl) rfl rfl ?_)
                  refine xAll (rs := [3]) (by kernel_rfl) rfl ⟨?_, trivial⟩
                  · (refine iE rfl (e_alloc rfl rfl rfl) rfl rfl ?_)
                    refine xAll (rs := [6]) (by kernel_rfl) rfl ⟨?_, trivial⟩
                    · (refine iE rfl (e_store rfl rfl rfl rfl rfl rfl rfl) rfl rfl ?_)
                      refine xAll (rs := [7]) (by kernel_rfl) rfl ⟨?_, trivial⟩
                      · (refine iE rfl (e_store rfl rfl rfl rfl rfl rfl rfl) rfl rfl ?_)
                        refine xAll (rs := [8]) (by kernel_rfl) rfl ⟨?_, trivial⟩
                        · (refine iE rfl (e_store rfl rfl rfl rfl rfl rfl rfl) rfl rfl ?_)
                          exact xEnd (by kernel_rfl) ⟨rfl, by (repeat (first | exact sub_nil | refine sub_cons rfl ?_)), by (repeat (first | exact subH_nil | refine subH_cons rfl ?_))⟩
            repeat (refine seq_ ?_)
            refine draw_ [(0, true), (1, true), (3, true), (4, true), (2, false), (5, false), (6, true)] 1000 [3, 4, 5, 6, 9, 10, 11] mixed (by kernel_rfl) rfl ?_
            ((refine dY rfl (y_loadA rfl rfl rfl) rfl rfl rfl rfl ?_); refine dY rfl (y_loadA rfl rfl rfl) rfl rfl rfl rfl ?_; refine dY rfl (y_loadA rfl rfl rfl) rfl rfl rfl rfl ?_; refine dY rfl (y_loadA rfl rfl rfl) rfl rfl rfl rfl ?_)
            refine dC rfl Tryz.func37 rfl rfl (sac) rfl (by repeat (first | exact .refl _ | apply Les.cons | exact .nil)) rfl rfl ?_
            skip
            refine dC rfl Tryz.func37 rfl rfl (sbc) rfl (by repeat (first | exact .refl _ | apply Les.cons | exact .nil)) rfl rfl ?_
            ((refine dY rfl (y_cmpF rfl rfl rfl (by omega)) rfl rfl rfl rfl ?_); refine dEnd ?_)
            repeat (first | refine seq_ ?_ | refine skip_ ?_ | refine cond_f rfl ?_)
            refine draw_ [(0, true), (1, true), (3, true), (4, true), (2, false), (5, false), (6, true)] 1000 [3, 4, 5, 6, 9, 10, 11] mixed (by kernel_rfl) rfl ?_
            ((refine dY rfl (y_loadA rfl rfl rfl) rfl rfl rfl rfl ?_); refine dY rfl (y_loadA rfl rfl rfl) rfl rfl rfl rfl ?_; refine dY rfl (y_loadA rfl rfl rfl) rfl rfl rfl rfl ?_; refine dY rfl (y_loadA rfl rfl rfl) rfl rfl rfl rfl ?_)
            refine dC rfl Tryz.func37 rfl rfl (sab) rfl (by repeat (first | exact .refl _ | apply Les.cons | exact .nil)) rfl rfl ?_
            skip
            refine dC rfl Tryz.func37 rfl rfl (sbc) rfl (by repeat (first | exact .refl _ | apply Les.cons | exact .nil)) rfl rfl ?_
            ((refine dY rfl (y_cmpT rfl rfl rfl (by omega)) rfl rfl rfl rfl ?_); refine dEnd ?_)
            repeat (refine cond_t rfl ?_)
            refine cut_ [(3, .ptr 3 0), (4, .ptr 4 0), (5, .ptr 5 0), (6, .ptr 6 0), (7, .p (E_ 0)), (9, .ptr 9 0), (10, .ptr 10 0), (11, .ptr 11 0)] [(3, .bx [I a.1, I a.2]), (4, .bx [I b.1, I b.2]), (5, .bx [I c.1, I c.2]), (6, .bx [I 0, I 0, I 0, I 0, I 0, I 0]), (9, .bx [I c.1, I c.2]), (10, .bx [I a.1, I a.2]), (11, .bx [I b.1, I b.2])] ?_ ?_
            · refine xDraw 1000 [3, 4, 5, 6] mixed ?_
              refine xY (i := 0) (op := .load _ _) rfl (by (exact y_loadA rfl rfl rfl)) rfl rfl rfl rfl (by kernel_rfl) ?_
              refine xY (i := 1) (op := .load _ _) rfl (by (exact y_loadA rfl rfl rfl)) rfl rfl rfl rfl (by kernel_rfl) ?_
              refine xY (i := 2) (op := .load _ _) rfl (by (exact y_loadA rfl rfl rfl)) rfl rfl rfl rfl (by kernel_rfl) ?_
              refine xAll (rs := [3]) (by kernel_rfl) rfl ⟨?_, trivial⟩
              · (refine iE rfl (e_store rfl rfl rfl rfl rfl rfl rfl) rfl rfl ?_)
                refine xAll (rs := [4]) (by kernel_rfl) rfl ⟨?_, trivial⟩
                · (refine iE rfl (e_store rfl rfl rfl rfl rfl rfl rfl) rfl rfl ?_)
                  refine xAll (rs := [5]) (by kernel_rfl) rfl ⟨?_, trivial⟩
                  · (refine iE rfl (e_store rfl rfl rfl rfl rfl rfl rfl) rfl rfl ?_)
                    exact xEnd (by kernel_rfl) ⟨rfl, by (repeat (first | exact sub_nil | refine sub_cons rfl ?_)), by (repeat (first | exact subH_nil | refine subH_cons rfl ?_))⟩
            repeat (first | refine seq_ ?_ | refine region_ ?_ | refine stepY (y_loadA rfl rfl rfl) rfl ?_)
            refine call_ Tryz.func26 rfl rfl (hx2) rfl (by repeat (first | exact .refl _ | apply Les.cons | exact .nil)) rfl ?_
            repeat (first | refine seq_ ?_ | refine region_ ?_ | refine nil_ ?_ | refine skip_ ?_ | refine ret_ ?_ | refine cond_f rfl ?_ | refine stepY (y_assign rfl) rfl ?_ | refine stepY (y_loadA rfl rfl rfl) rfl ?_ | refine stepY (y_build_arrb rfl rfl rfl rfl) rfl ?_ | refine stepY (y_cmpF rfl rfl rfl (by omega)) rfl ?_ | refine stepE (e_store rfl rfl rfl rfl rfl rfl rfl) ?_)
            ((apply fin_r); (repeat (first | exact .nil | exact .tmp rfl | exact .agg rfl rfl rfl | apply ResL.cons)); (repeat (exact .refl _)))
        · rw [if_neg g2]
          unfold ord3
          by_cases g3 : crossP a b c < 0
          · rw [if_pos g3]
            have hx2 := cross_c a b c ha hb hcc
            repeat (first | refine seq_ ?_ | refine region_ ?_ | refine nil_ ?_ | refine stepY (y_assign rfl) rfl ?_ | refine stepY (y_loadA rfl rfl rfl) rfl ?_ | refine stepE (e_box rfl rfl rfl rfl rfl rfl) ?_ | refine stepE (e_alloc rfl rfl rfl) ?_ | refine stepE (e_bs_vs rfl rfl rfl rfl rfl rfl) ?_)
            refine seal_Ls (i := 15) (h := 15) rfl rfl rfl rfl ?_
            refine call_ Tryz.func20 rfl rfl (hc) rfl (by repeat (first | exact .tags _ _ | apply Les.cons | exact .nil)) rfl ?_
            repeat (first | refine seq_ ?_ | refine region_ ?_ | refine nil_ ?_ | refine skip_ ?_ | refine cond_f rfl ?_ | refine stepY (y_move rfl) rfl ?_ | refine stepY (y_assign rfl) rfl ?_ | refine stepY (y_loadA rfl rfl rfl) rfl ?_ | refine stepY (y_cmpF rfl rfl rfl (by omega)) rfl ?_)
            refine call_ Tryz.func26 rfl rfl (hx) rfl (by repeat (first | exact .refl _ | apply Les.cons | exact .nil)) rfl ?_
            repeat (first | refine seq_ ?_ | refine nil_ ?_ | refine skip_ ?_ | refine cond_f rfl ?_ | refine stepY (y_cmpF rfl rfl rfl (by omega)) rfl ?_)
            refine cut_ [(3, .ptr 3 0), (4, .ptr 4 0), (5, .ptr 5 0), (6, .ptr 6 0), (7, .p (E_ 0)), (9, .ptr 9 0), (10, .ptr 10 0), (11, .ptr 11 0)] [(3, .bx [I a.1, I a.2]), (4, .bx [I b.1, I b.2]), (5, .bx [I c.1, I c.2]), (6, .bx [I 0, I 0, I 0, I 0, I 0, I 0]), (9, .bx [I a.1, I a.2]), (10, .bx [I b.1, I b.2]), (11, .bx [I c.1, I c.2])] ?_ ?_
            · refine xDraw 1000 [3, 4, 5, 6] mixed ?_
              refine xY (i := 0) (op := .load _ _) rfl (by (exact y_loadA rfl rfl rfl)) rfl rfl rfl rfl (by kernel_rfl) ?_
              refine xY (i := 1) (op := .load _ _) rfl (by (exact y_loadA rfl rfl rfl)) rfl rfl rfl rfl (by kernel_rfl) ?_
              refine xY (i := 2) (op := .load _ _) rfl (by (exact y_loadA rfl rfl rfl)) rfl rfl rfl rfl (by kernel_rfl) ?_
              refine xAll (rs := [3, 4, 5]) (by kernel_rfl) rfl ⟨?_, ?_, ?_, trivial⟩
              · (refine iE rfl (e_alloc rfl rfl rfl) rfl rfl ?_)
                refine xAll (rs := [4, 5]) (by kernel_rfl) rfl ⟨?_, ?_, trivial⟩
                · (refine iE rfl (e_alloc rfl rfl rfl) rfl rfl ?_)
                  refine xAll (rs := [5]) (by kernel_rfl) rfl ⟨?_, trivial⟩
                  · (refine iE rfl (e_alloc rfl rfl rfl) rfl rfl ?_)
                    refine xAll (rs := [6]) (by kernel_rfl) rfl ⟨?_, trivial⟩
                    · (refine iE rfl (e_store rfl rfl rfl rfl rfl rfl rfl) rfl rfl ?_)
                      refine xAll (rs := [7]) (by kernel_rfl) rfl ⟨?_, trivial⟩
                      · (refine iE rfl (e_store rfl rfl rfl rfl rfl rfl rfl) rfl rfl ?_)
                        refine xAll (rs := [8]) (by kernel_rfl) rfl ⟨?_, trivial⟩
                        · (refine iE rfl (e_store rfl rfl rfl rfl rfl rfl rfl) rfl rfl ?_)
                          exact xEnd (by kernel_rfl) ⟨rfl, by (repeat (first | exact sub_nil | refine sub_cons rfl ?_)), by (repeat (first | exact subH_nil | refine subH_cons rfl ?_))⟩
                · (refine iE rfl (e_alloc rfl rfl rfl) rfl rfl ?_)
                  refine xAll (rs := [4]) (by kernel_rfl) rfl ⟨?_, trivial⟩
                  · (refine iE rfl (e_alloc rfl rfl rfl) rfl rfl ?_)
                    refine xAll (rs := [6]) (by kernel_rfl) rfl ⟨?_, trivial⟩
                    · (refine iE rfl (e_store rfl rfl rfl rfl rfl rfl rfl) rfl rfl ?_)
                      refine xAll (rs := [7]) (by kernel_rfl) rfl ⟨?_, trivial⟩
                      · (refine iE rfl (e_store rfl rfl rfl rfl rfl rfl rfl) rfl rfl ?_)
                        refine xAll (rs := [8]) (by kernel_rfl) rfl ⟨?_, trivial⟩
                        · (refine iE rfl (e_store rfl rfl rfl rfl rfl rfl rfl) rfl rfl ?_)
                          exact xEnd (by kernel_rfl) ⟨rfl, by (repeat (first | exact sub_nil | refine sub_cons rfl ?_)), by (repeat (first | exact subH_nil | refine subH_cons rfl ?_))⟩
              · (refine iE rfl (e_alloc rfl rfl rfl) rfl rfl ?_)
                refine xAll (rs := [3, 5]) (by kernel_rfl) rfl ⟨?_, ?_, trivial⟩
                · (refine iE rfl (e_alloc rfl rfl rfl) rfl rfl ?_)
                  refine xAll (rs := [5]) (by kernel_rfl) rfl ⟨?_, trivial⟩
                  · (refine iE rfl (e_alloc rfl rfl rfl) rfl rfl ?_)
                    refine xAll (rs := [6]) (by kernel_rfl) rfl ⟨?_, trivial⟩
                    · (refine iE rfl (e_store rfl rfl rfl rfl rfl rfl rfl) rfl rfl ?_)
                      refine xAll (rs := [7]) (by kernel_rfl) rfl ⟨?_, trivial⟩
                      · (refine iE rfl (e_store rfl rfl rfl rfl rfl rfl rfl) rfl rfl ?_)
                        refine xAll (rs := [8]) (by kernel_rfl) rfl ⟨?_, trivial⟩
                        · (refine iE rfl (e_store rfl rfl rfl rfl rfl rfl rfl) rfl rfl ?_)
                          exact xEnd (by kernel_rfl) ⟨rfl, by (repeat (first | exact sub_nil | refine sub_cons rfl ?_)), by (repeat (first | exact subH_nil | refine subH_cons rfl ?_))⟩
                · (refine iE rfl (e_alloc rfl rfl rfl) rfl rfl ?_)
                  refine xAll (rs := [3]) (by kernel_rfl) rfl ⟨?_, trivial⟩
                  · (refine iE rfl (e_alloc rfl rfl rfl) rfl rfl ?_)
                    refine xAll (rs := [6]) (by kernel_rfl) rfl ⟨?_, trivial⟩
                    · (refine iE rfl (e_store rfl rfl rfl rfl rfl rfl rfl) rfl rfl ?_)
                      refine xAll (rs := [7]) (by kernel_rfl) rfl ⟨?_, trivial⟩
                      · (refine iE rfl (e_store rfl rfl rfl rfl rfl rfl rfl) rfl rfl ?_)
                        refine xAll (rs := [8]) (by kernel_rfl) rfl ⟨?_, trivial⟩
                        · (refine iE rfl (e_store rfl rfl rfl rfl rfl rfl rfl) rfl rfl ?_)
                          exact xEnd (by kernel_rfl) ⟨rfl, by (repeat (first | exact sub_nil | refine sub_cons rfl ?_)), by (repeat (first | exact subH_nil | refine subH_cons rfl ?_))⟩
              · (refine iE rfl (e_alloc rfl rfl rfl) rfl rfl ?_)
                refine xAll (rs := [3, 4]) (by kernel_rfl) rfl ⟨?_, ?_, trivial⟩
                · (refine iE rfl (e_alloc rfl rfl rfl) rfl rfl ?_)
                  refine xAll (rs := [4]) (by kernel_rfl) rfl ⟨?_, trivial⟩
                  · (refine iE rfl (e_alloc rfl rfl rfl) rfl rfl ?_)
                    refine xAll (rs := [6]) (by kernel_rfl) rfl ⟨?_, trivial⟩
                    · (refine iE rfl (e_store rfl rfl rfl rfl rfl rfl rfl) rfl rfl ?_)
                      refine xAll (rs := [7]) (by kernel_rfl) rfl ⟨?_, trivial⟩
                      · (refine iE rfl (e_store rfl rfl rfl rfl rfl rfl rfl) rfl rfl ?_)
                        refine xAll (rs := [8]) (by kernel_rfl) rfl ⟨?_, trivial⟩
                        · (refine iE rfl (e_store rfl rfl rfl rfl rfl rfl rfl) rfl rfl ?_)
                          exact xEnd (by kernel_rfl) ⟨rfl, by (repeat (first | exact sub_nil | refine sub_cons rfl ?_)), by (repeat (first | exact subH_nil | refine subH_cons rfl ?_))⟩
                · (refine iE rfl (e_alloc rfl rfl rfl) rfl rfl ?_)
                  refine xAll (rs := [3]) (by kernel_rfl) rfl ⟨?_, trivial⟩
                  · (refine iE rfl (e_alloc rfl rfl rfl) rfl rfl ?_)
                    refine xAll (rs := [6]) (by kernel_rfl) rfl ⟨?_, trivial⟩
                    · (refine iE rfl (e_store rfl rfl rfl rfl rfl rfl rfl) rfl rfl ?_)
                      refine xAll (rs := [7]) (by kernel_rfl) rfl ⟨?_, trivial⟩
                      · (refine iE rfl (e_store rfl rfl rfl rfl rfl rfl rfl) rfl rfl ?_)
                        refine xAll (rs := [8]) (by kernel_rfl) rfl ⟨?_, trivial⟩
                        · (refine iE rfl (e_store rfl rfl rfl rfl rfl rfl rfl) rfl rfl ?_)
                          exact xEnd (by kernel_rfl) ⟨rfl, by (repeat (first | exact sub_nil | refine sub_cons rfl ?_)), by (repeat (first | exact subH_nil | refine subH_cons rfl ?_))⟩
            repeat (refine seq_ ?_)
            refine draw_ [(0, true), (1, true), (3, true), (4, true), (2, false), (5, false), (6, true)] 1000 [3, 4, 5, 6, 9, 10, 11] mixed (by kernel_rfl) rfl ?_
            ((refine dY rfl (y_loadA rfl rfl rfl) rfl rfl rfl rfl ?_); refine dY rfl (y_loadA rfl rfl rfl) rfl rfl rfl rfl ?_; refine dY rfl (y_loadA rfl rfl rfl) rfl rfl rfl rfl ?_; refine dY rfl (y_loadA rfl rfl rfl) rfl rfl rfl rfl ?_)
            refine dC rfl Tryz.func37 rfl rfl (sac) rfl (by repeat (first | exact .refl _ | apply Les.cons | exact .nil)) rfl rfl ?_
            skip
            refine dC rfl Tryz.func37 rfl rfl (sbc) rfl (by repeat (first | exact .refl _ | apply Les.cons | exact .nil)) rfl rfl ?_
            ((refine dY rfl (y_cmpF rfl rfl rfl (by omega)) rfl rfl rfl rfl ?_); refine dEnd ?_)
            repeat (first | refine seq_ ?_ | refine skip_ ?_ | refine cond_f rfl ?_)
            refine draw_ [(0, true), (1, true), (3, true), (4, true), (2, false), (5, false), (6, true)] 1000 [3, 4, 5, 6, 9, 10, 11] mixed (by kernel_rfl) rfl ?_
            ((refine dY rfl (y_loadA rfl rfl rfl) rfl rfl rfl rfl ?_); refine dY rfl (y_loadA rfl rfl rfl) rfl rfl rfl rfl ?_; refine dY rfl (y_loadA rfl rfl rfl) rfl rfl rfl rfl ?_; refine dY rfl (y_loadA rfl rfl rfl) rfl rfl rfl rfl ?_)
            refine dC rfl Tryz.func37 rfl rfl (sab) rfl (by repeat (first | exact .refl _ | apply Les.cons | exact .nil)) rfl rfl ?_
            skip
            refine dC rfl Tryz.func37 rfl rfl (sbc) rfl (by repeat (first | exact .refl _ | apply Les.cons | exact .nil)) rfl rfl ?_
            ((refine dY rfl (y_cmpF rfl rfl rfl (by omega)) rfl rfl rfl rfl ?_); refine dEnd ?_)
            repeat (first | refine seq_ ?_ | refine region_ ?_ | refine skip_ ?_ | refine cond_f rfl ?_ | refine stepY (y_loadA rfl rfl rfl) rfl ?_)
            refine call_ Tryz.func26 rfl rfl (hx2) rfl (by repeat (first | exact .refl _ | apply Les.cons | exact .nil)) rfl ?_
            repeat (first | refine seq_ ?_ | refine region_ ?_ | refine nil_ ?_ | refine ret_ ?_ | refine cond_t rfl ?_ | refine stepY (y_assign rfl) rfl ?_ | refine stepY (y_loadA rfl rfl rfl) rfl ?_ | refine stepY (y_build_arrb rfl rfl rfl rfl) rfl ?_ | refine stepY (y_cmpT rfl rfl rfl (by omega)) rfl ?_ | refine stepE (e_store rfl rfl rfl rfl rfl rfl rfl) ?_)
            ((apply fin_r); (repeat (first | exact .nil | exact .tmp rfl | exact .agg rfl rfl rfl | apply ResL.cons)); (repeat (exact .refl _)))
          · rw [if_neg g3]
            have hx2 := cross_c a b c ha hb hcc
            repeat (first | refine seq_ ?_ | refine region_ ?_ | refine nil_ ?_ | refine stepY (y_assign rfl) rfl ?_ | refine stepY (y_loadA rfl rfl rfl) rfl ?_ | refine stepE (e_box rfl rfl rfl rfl rfl rfl) ?_ | refine stepE (e_alloc rfl rfl rfl) ?_ | refine stepE (e_bs_vs rfl rfl rfl rfl rfl rfl) ?_)
            refine seal_Ls (i := 15) (h := 15) rfl rfl rfl rfl ?_
            refine call_ Tryz.func20 rfl rfl (hc) rfl (by repeat (first | exact .tags _ _ | apply Les.cons | exact .nil)) rfl ?_
            repeat (first | refine seq_ ?_ | refine region_ ?_ | refine nil_ ?_ | refine skip_ ?_ | refine cond_f rfl ?_ | refine stepY (y_move rfl) rfl ?_ | refine stepY (y_assign rfl) rfl ?_ | refine stepY (y_loadA rfl rfl rfl) rfl ?_ | refine stepY (y_cmpF rfl rfl rfl (by omega)) rfl ?_)
            refine call_ Tryz.func26 rfl rfl (hx) rfl (by repeat (first | exact .refl _ | apply Les.cons | exact .nil)) rfl ?_
            repeat (first | refine seq_ ?_ | refine nil_ ?_ | refine skip_ ?_ | refine cond_f rfl ?_ | refine stepY (y_cmpF rfl rfl rfl (by omega)) rfl ?_)
            refine cut_ [(3, .ptr 3 0), (4, .ptr 4 0), (5, .ptr 5 0), (6, .ptr 6 0), (7, .p (E_ 0)), (9, .ptr 9 0), (10, .ptr 10 0), (11, .ptr 11 0)] [(3, .bx [I a.1, I a.2]), (4, .bx [I b.1, I b.2]), (5, .bx [I c.1, I c.2]), (6, .bx [I 0, I 0, I 0, I 0, I 0, I 0]), (9, .bx [I a.1, I a.2]), (10, .bx [I b.1, I b.2]), (11, .bx [I c.1, I c.2])] ?_ ?_
            · refine xDraw 1000 [3, 4, 5, 6] mixed ?_
              refine xY (i := 0) (op := .load _ _) rfl (by (exact y_loadA rfl rfl rfl)) rfl rfl rfl rfl (by kernel_rfl) ?_
              refine xY (i := 1) (op := .load _ _) rfl (by (exact y_loadA rfl rfl rfl)) rfl rfl rfl rfl (by kernel_rfl) ?_
              refine xY (i := 2) (op := .load _ _) rfl (by (exact y_loadA rfl rfl rfl)) rfl rfl rfl rfl (by kernel_rfl) ?_
              refine xAll (rs := [3, 4, 5]) (by kernel_rfl) rfl ⟨?_, ?_, ?_, trivial⟩
              · (refine iE rfl (e_alloc rfl rfl rfl) rfl rfl ?_)
                refine xAll (rs := [4, 5]) (by kernel_rfl) rfl ⟨?_, ?_, trivial⟩
                · (refine iE rfl (e_alloc rfl rfl rfl) rfl rfl ?_)
                  refine xAll (rs := [5]) (by kernel_rfl) rfl ⟨?_, trivial⟩
                  · (refine iE rfl (e_alloc rfl rfl rfl) rfl rfl ?_)
                    refine xAll (rs := [6]) (by kernel_rfl) rfl ⟨?_, trivial⟩
                    · (refine iE rfl (e_store rfl rfl rfl rfl rfl rfl rfl) rfl rfl ?_)
                      refine xAll (rs := [7]) (by kernel_rfl) rfl ⟨?_, trivial⟩
                      · (refine iE rfl (e_store rfl rfl rfl rfl rfl rfl rfl) rfl rfl ?_)
                        refine xAll (rs := [8]) (by kernel_rfl) rfl ⟨?_, trivial⟩
                        · (refine iE rfl (e_store rfl rfl rfl rfl rfl rfl rfl) rfl rfl ?_)
                          exact xEnd (by kernel_rfl) ⟨rfl, by (repeat (first | exact sub_nil | refine sub_cons rfl ?_)), by (repeat (first | exact subH_nil | refine subH_cons rfl ?_))⟩
                · (refine iE rfl (e_alloc rfl rfl rfl) rfl rfl ?_)
                  refine xAll (rs := [4]) (by kernel_rfl) rfl ⟨?_, trivial⟩
                  · (refine iE rfl (e_alloc rfl rfl rfl) rfl rfl ?_)
                    refine xAll (rs := [6]) (by kernel_rfl) rfl ⟨?_, trivial⟩
                    · (refine iE rfl (e_store rfl rfl rfl rfl rfl rfl rfl) rfl rfl ?_)
                      refine xAll (rs := [7]) (by kernel_rfl) rfl ⟨?_, trivial⟩
                      · (refine iE rfl (e_store rfl rfl rfl rfl rfl rfl rfl) rfl rfl ?_)
                        refine xAll (rs := [8]) (by kernel_rfl) rfl ⟨?_, trivial⟩
                        · (refine iE rfl (e_store rfl rfl rfl rfl rfl rfl rfl) rfl rfl ?_)
                          exact xEnd (by kernel_rfl) ⟨rfl, by (repeat (first | exact sub_nil | refine sub_cons rfl ?_)), by (repeat (first | exact subH_nil | refine subH_cons rfl ?_))⟩
              · (refine iE rfl (e_alloc rfl rfl rfl) rfl rfl ?_)
                refine xAll (rs := [3, 5]) (by kernel_rfl) rfl ⟨?_, ?_, trivial⟩
                · (refine iE rfl (e_alloc rfl rfl rfl) rfl rfl ?_)
                  refine xAll (rs := [5]) (by kernel_rfl) rfl ⟨?_, trivial⟩
                  · (refine iE rfl (e_alloc rfl rfl rfl) rfl rfl ?_)
                    refine xAll (rs := [6]) (by kernel_rfl) rfl ⟨?_, trivial⟩
                    · (refine iE rfl (e_store rfl rfl rfl rfl rfl rfl rfl) rfl rfl ?_)
                      refine xAll (rs := [7]) (by kernel_rfl) rfl ⟨?_, trivial⟩
                      · (refine iE rfl (e_store rfl rfl rfl rfl rfl rfl rfl) rfl rfl ?_)
                        refine xAll (rs := [8]) (by kernel_rfl) rfl ⟨?_, trivial⟩
                        · (refine iE rfl (e_store rfl rfl rfl rfl rfl rfl rfl) rfl rfl ?_)
                          exact xEnd (by kernel_rfl) ⟨rfl, by (repeat (first | exact sub_nil | refine sub_cons rfl ?_)), by (repeat (first | exact subH_nil | refine subH_cons rfl ?_))⟩
                · (refine iE rfl (e_alloc rfl rfl rfl) rfl rfl ?_)
                  refine xAll (rs := [3]) (by kernel_rfl) rfl ⟨?_, trivial⟩
                  · (refine iE rfl (e_alloc rfl rfl rfl) rfl rfl ?_)
                    refine xAll (rs := [6]) (by kernel_rfl) rfl ⟨?_, trivial⟩
                    · (refine iE rfl (e_store rfl rfl rfl rfl rfl rfl rfl) rfl rfl ?_)
                      refine xAll (rs := [7]) (by kernel_rfl) rfl ⟨?_, trivial⟩
                      · (refine iE rfl (e_store rfl rfl rfl rfl rfl rfl rfl) rfl rfl ?_)
                        refine xAll (rs := [8]) (by kernel_rfl) rfl ⟨?_, trivial⟩
                        · (refine iE rfl (e_store rfl rfl rfl rfl rfl rfl rfl) rfl rfl ?_)
                          exact xEnd (by kernel_rfl) ⟨rfl, by (repeat (first | exact sub_nil | refine sub_cons rfl ?_)), by (repeat (first | exact subH_nil | refine subH_cons rfl ?_))⟩
              · (refine iE rfl (e_alloc rfl rfl rfl) rfl rfl ?_)
                refine xAll (rs := [3, 4]) (by kernel_rfl) rfl ⟨?_, ?_, trivial⟩
                · (refine iE rfl (e_alloc rfl rfl rfl) rfl rfl ?_)
                  refine xAll (rs := [4]) (by kernel_rfl) rfl ⟨?_, trivial⟩
                  · (refine iE rfl (e_alloc rfl rfl rfl) rfl rfl ?_)
                    refine xAll (rs := [6]) (by kernel_rfl) rfl ⟨?_, trivial⟩
                    · (refine iE rfl (e_store rfl rfl rfl rfl rfl rfl rfl) rfl rfl ?_)
                      refine xAll (rs := [7]) (by kernel_rfl) rfl ⟨?_, trivial⟩
                      · (refine iE rfl (e_store rfl rfl rfl rfl rfl rfl rfl) rfl rfl ?_)
                        refine xAll (rs := [8]) (by kernel_rfl) rfl ⟨?_, trivial⟩
                        · (refine iE rfl (e_store rfl rfl rfl rfl rfl rfl rfl) rfl rfl ?_)
                          exact xEnd (by kernel_rfl) ⟨rfl, by (repeat (first | exact sub_nil | refine sub_cons rfl ?_)), by (repeat (first | exact subH_nil | refine subH_cons rfl ?_))⟩
                · (refine iE rfl (e_alloc rfl rfl rfl) rfl rfl ?_)
                  refine xAll (rs := [3]) (by kernel_rfl) rfl ⟨?_, trivial⟩
                  · (refine iE rfl (e_alloc rfl rfl rfl) rfl rfl ?_)
                    refine xAll (rs := [6]) (by kernel_rfl) rfl ⟨?_, trivial⟩
                    · (refine iE rfl (e_store rfl rfl rfl rfl rfl rfl rfl) rfl rfl ?_)
                      refine xAll (rs := [7]) (by kernel_rfl) rfl ⟨?_, trivial⟩
                      · (refine iE rfl (e_store rfl rfl rfl rfl rfl rfl rfl) rfl rfl ?_)
                        refine xAll (rs := [8]) (by kernel_rfl) rfl ⟨?_, trivial⟩
                        · (refine iE rfl (e_store rfl rfl rfl rfl rfl rfl rfl) rfl rfl ?_)
                          exact xEnd (by kernel_rfl) ⟨rfl, by (repeat (first | exact sub_nil | refine sub_cons rfl ?_)), by (repeat (first | exact subH_nil | refine subH_cons rfl ?_))⟩
            repeat (refine seq_ ?_)
            refine draw_ [(0, true), (1, true), (3, true), (4, true), (2, false), (5, false), (6, true)] 1000 [3, 4, 5, 6, 9, 10, 11] mixed (by kernel_rfl) rfl ?_
            ((refine dY rfl (y_loadA rfl rfl rfl) rfl rfl rfl rfl ?_); refine dY rfl (y_loadA rfl rfl rfl) rfl rfl rfl rfl ?_; refine dY rfl (y_loadA rfl rfl rfl) rfl rfl rfl rfl ?_; refine dY rfl (y_loadA rfl rfl rfl) rfl rfl rfl rfl ?_)
            refine dC rfl Tryz.func37 rfl rfl (sac) rfl (by repeat (first | exact .refl _ | apply Les.cons | exact .nil)) rfl rfl ?_
            skip
            refine dC rfl Tryz.func37 rfl rfl (sbc) rfl (by repeat (first | exact .refl _ | apply Les.cons | exact .nil)) rfl rfl ?_
            ((refine dY rfl (y_cmpF rfl rfl rfl (by omega)) rfl rfl rfl rfl ?_); refine dEnd ?_)
            repeat (first | refine seq_ ?_ | refine skip_ ?_ | refine cond_f rfl ?_)
            refine draw_ [(0, true), (1, true), (3, true), (4, true), (2, false), (5, false), (6, true)] 1000 [3, 4, 5, 6, 9, 10, 11] mixed (by kernel_rfl) rfl ?_
            ((refine dY rfl (y_loadA rfl rfl rfl) rfl rfl rfl rfl ?_); refine dY rfl (y_loadA rfl rfl rfl) rfl rfl rfl rfl ?_; refine dY rfl (y_loadA rfl rfl rfl) rfl rfl rfl rfl ?_; refine dY rfl (y_loadA rfl rfl rfl) rfl rfl rfl rfl ?_)
            refine dC rfl Tryz.func37 rfl rfl (sab) rfl (by repeat (first | exact .refl _ | apply Les.cons | exact .nil)) rfl rfl ?_
            skip
            refine dC rfl Tryz.func37 rfl rfl (sbc) rfl (by repeat (first | exact .refl _ | apply Les.cons | exact .nil)) rfl rfl ?_
            ((refine dY rfl (y_cmpF rfl rfl rfl (by omega)) rfl rfl rfl rfl ?_); refine dEnd ?_)
            repeat (first | refine seq_ ?_ | refine region_ ?_ | refine skip_ ?_ | refine cond_f rfl ?_ | refine stepY (y_loadA rfl rfl rfl) rfl ?_)
            refine call_ Tryz.func26 rfl rfl (hx2) rfl (by repeat (first | exact .refl _ | apply Les.cons | exact .nil)) rfl ?_
            repeat (first | refine seq_ ?_ | refine region_ ?_ | refine nil_ ?_ | refine skip_ ?_ | refine ret_ ?_ | refine cond_f rfl ?_ | refine stepY (y_assign rfl) rfl ?_ | refine stepY (y_loadA rfl rfl rfl) rfl ?_ | refine stepY (y_build_arrb rfl rfl rfl rfl) rfl ?_ | refine stepY (y_cmpF rfl rfl rfl (by omega)) rfl ?_ | refine stepE (e_store rfl rfl rfl rfl rfl rfl rfl) ?_)
            ((apply fin_r); (repeat (first | exact .nil | exact .tmp rfl | exact .agg rfl rfl rfl | apply ResL.cons)); (repeat (exact .refl _)))
  · rw [if_neg hs] at hc
    rw [if_pos hs]
    refine con_of Tryz.func15 rfl rfl rfl rfl rfl ?_
    repeat (first | refine seq_ ?_ | refine region_ ?_ | refine nil_ ?_ | refine stepY (y_assign rfl) rfl ?_ | refine stepY (y_loadA rfl rfl rfl) rfl ?_ | refine stepE (e_box rfl rfl rfl rfl rfl rfl) ?_ | refine stepE (e_alloc rfl rfl rfl) ?_ | refine stepE (e_bs_vs rfl rfl rfl rfl rfl rfl) ?_)
    refine seal_Ls (i := 15) (h := 15) rfl rfl rfl rfl ?_
    refine call_ Tryz.func20 rfl rfl (hc) rfl (by repeat (first | exact .tags _ _ | apply Les.cons | exact .nil)) rfl ?_
    repeat (first | refine seq_ ?_ | refine region_ ?_ | refine nil_ ?_ | refine ret_ ?_ | refine cond_t rfl ?_ | refine stepY (y_move rfl) rfl ?_ | refine stepY (y_assign rfl) rfl ?_ | refine stepY (y_build_arrb rfl rfl rfl rfl) rfl ?_ | refine stepY (y_cmpT rfl rfl rfl (by omega)) rfl ?_ | refine stepE (e_store rfl rfl rfl rfl rfl rfl rfl) ?_)
    ((apply fin_r); (repeat (first | exact .nil | exact .tmp rfl | exact .agg rfl rfl rfl | apply ResL.cons)); (repeat (exact .refl _)))
end Go.Av

set_option maxHeartbeats 4000000
set_option maxRecDepth 100000
set_option linter.unusedVariables false
set_option linter.unusedSimpArgs false
namespace Go.Av
open Go Go.Proofs
theorem rd_bd {l : List Int} (h : wf l) (i : Nat) : 0 ≤ rd l i ∧ rd l i < 4294967296 := by rw [rd_dgk h i]; exact dg_bd _ _

theorem sum_lt {a b k : Nat} (ha : a < B ^ k) (hb : b < B ^ k) : a + b < B ^ (k + 1) := by
  rw [Nat.pow_succ]
  unfold B at *
  omega
theorem rlimb_c (l : List Int) (i : Nat) (hw : wf l) : Con Tryz.prog 109 [Li l, I i] (UU (dg (val l) i)) := by
  refine con_of Tryz.func109 rfl rfl rfl rfl rfl ?_
  have hr := rd_bd hw i
  rw [← rd_dgk hw i]
  by_cases h : (i : Int) < l.length
  · repeat (first | refine seq_ ?_ | refine region_ ?_ | refine nil_ ?_ | refine ret_ ?_ | refine cond_t rfl ?_ | refine stepY (y_move rfl) rfl ?_ | refine stepY (y_assign rfl) rfl ?_ | refine stepY (y_load_rc1 rfl rfl) rfl ?_ | refine stepY (y_len_si rfl) rfl ?_ | refine stepY (y_convn rfl (by simp only [InK, loK, hiK]; omega)) rfl ?_ | refine stepY (y_index_si rfl rfl (by omega) (by omega)) rfl ?_ | refine stepY (y_cmpT rfl rfl rfl (by omega)) rfl ?_)
    ((apply fin_r); (repeat (first | exact .nil | exact .tmp rfl | apply ResL.cons)); (repeat (exact .refl _)))
  · have hz : rd l i = 0 := by unfold rd; rw [List.getD_eq_getElem?_getD, List.getElem?_eq_none (by omega)]; rfl
    repeat (first | refine seq_ ?_ | refine region_ ?_ | refine nil_ ?_ | refine skip_ ?_ | refine ret_ ?_ | refine cond_f rfl ?_ | refine stepY (y_move rfl) rfl ?_ | refine stepY (y_assign rfl) rfl ?_ | refine stepY (y_len_si rfl) rfl ?_ | refine stepY (y_cmpF rfl rfl rfl (by omega)) rfl ?_)
    rw [hz]
    ((apply fin_r); (repeat (first | exact .nil | exact .tmp rfl | apply ResL.cons)); (repeat (exact .refl _)))

/-! barscanref02.order -/
theorem order_c (a b : List Int) (ha : wf a) (hb : wf b) (hla : a.length < 4294967296) (hlb : b.length < 4294967296) : Con Tryz.prog 89 [Li a, Li b] (I (sg (val a) (val b))) := by
  refine con_of Tryz.func89 rfl rfl rfl rfl rfl ?_
  obtain ⟨m, hm, hma, hmb⟩ : ∃ m : Nat, (m = a.length ∧ b.length ≤ a.length ∨ m = b.length ∧ a.length ≤ b.length) ∧ a.length ≤ m ∧ b.length ≤ m := by
    rcases Nat.le_total b.length a.length with h | h
    · exact ⟨a.length, .inl ⟨rfl, h⟩, Nat.le_refl _, h⟩
    · exact ⟨b.length, .inr ⟨rfl, h⟩, h, Nat.le_refl _⟩
  have hva := Nat.lt_of_lt_of_le (val_lt ha) (Nat.pow_le_pow_right B_pos hma)
  have hvb := Nat.lt_of_lt_of_le (val_lt hb) (Nat.pow_le_pow_right B_pos hmb)
  have key : ∀ x : Int, x = m → Tr Tryz.prog Tryz.f89.ntmps .skip [] [] (fun _ _ _ => True) := fun x _ => skip_ trivial
  rcases hm with ⟨rfl, hm⟩ | ⟨rfl, hm⟩
  · repeat (first | refine seq_ ?_ | refine region_ ?_ | refine nil_ ?_ | refine block_ ?_ | refine stepY (y_move rfl) rfl ?_ | refine stepY (y_assign rfl) rfl ?_ | (first | refine stepY (y_len_si rfl) rfl ?_ | refine stepY (y_maxl rfl rfl (by omega)) rfl ?_) | refine stepY (y_binn rfl rfl rfl (by simp only [InK, loK, hiK]; omega)) rfl ?_)
    refine loop_ (α := Nat) (fun k => ([(0, .p (Li a)), (1, .p (Li b)), (6, .p (I ((k : Int) - 1)))], [])) (fun k => k ≤ a.length ∧ val a / B ^ k = val b / B ^ k) id (a.length) ⟨Nat.le_refl _, by rw [Nat.div_eq_of_lt hva, Nat.div_eq_of_lt hvb]⟩ ?_ ?_ ?_
    · (repeat (first | exact sub_nil | refine sub_cons rfl ?_))
    · (repeat (exact subH_nil))
    intro k ⟨hk, he⟩
    by_cases h0 : k = 0
    · subst h0
      have hab : val a = val b := by simpa using he
      rw [hab]
      repeat (first | refine seq_ ?_ | refine region_ ?_ | refine nil_ ?_ | refine exit_ ?_ | refine ret_ ?_ | refine cond_f rfl ?_ | refine stepY (y_move rfl) rfl ?_ | refine stepY (y_assign rfl) rfl ?_ | refine stepY (y_cmpF rfl rfl rfl (by omega)) rfl ?_)
      rw [sg_eq]
      ((apply fin_r); (repeat (first | exact .nil | exact .tmp rfl | apply ResL.cons)); (repeat (exact .refl _)))
    · obtain ⟨j, rfl⟩ : ∃ j, k = j + 1 := ⟨k - 1, by omega⟩
      rw [show (((j + 1 : Nat) : Int) - 1) = (j : Int) by omega]
      by_cases h1 : dg (val a) j = dg (val b) j
      · repeat (first | refine seq_ ?_ | refine region_ ?_ | refine nil_ ?_ | refine skip_ ?_ | refine block_ ?_ | refine cond_t rfl ?_ | refine stepY (y_move rfl) rfl ?_ | refine stepY (y_cmpT rfl rfl rfl (by omega)) rfl ?_)
        refine call_ Tryz.func109 rfl rfl (rlimb_c a j ha) rfl (by repeat (first | exact .refl _ | apply Les.cons | exact .nil)) rfl ?_
        repeat (refine stepY (y_move rfl) rfl ?_)
        refine call_ Tryz.func109 rfl rfl (rlimb_c b j hb) rfl (by repeat (first | exact .refl _ | apply Les.cons | exact .nil)) rfl ?_
        repeat (first | refine seq_ ?_ | refine region_ ?_ | refine nil_ ?_ | refine skip_ ?_ | refine cond_f rfl ?_ | refine stepY (y_move rfl) rfl ?_ | refine stepY (y_cmpF rfl rfl rfl (by omega)) rfl ?_)
        refine call_ Tryz.func109 rfl rfl (rlimb_c a j ha) rfl (by repeat (first | exact .refl _ | apply Les.cons | exact .nil)) rfl ?_
        repeat (refine stepY (y_move rfl) rfl ?_)
        refine call_ Tryz.func109 rfl rfl (rlimb_c b j hb) rfl (by repeat (first | exact .refl _ | apply Les.cons | exact .nil)) rfl ?_
        repeat (first | refine region_ ?_ | refine nil_ ?_ | refine skip_ ?_ | refine cond_f rfl ?_ | refine stepY (y_move rfl) rfl ?_ | refine stepY (y_assign rfl) rfl ?_ | refine stepY (y_binn rfl rfl rfl (by simp only [InK, loK, hiK]; omega)) rfl ?_ | refine stepY (y_cmpF rfl rfl rfl (by omega)) rfl ?_)
        refine ⟨j, ⟨by omega, ?_⟩, by simp only [id]; omega, ?_, ?_⟩
        · rw [div_split, div_split (val b), he, h1]
        · (repeat (first | exact sub_nil | refine sub_cons rfl ?_))
        · (repeat (exact subH_nil))
      · by_cases h2 : dg (val a) j < dg (val b) j
        · repeat (first | refine seq_ ?_ | refine region_ ?_ | refine nil_ ?_ | refine skip_ ?_ | refine block_ ?_ | refine cond_t rfl ?_ | refine stepY (y_move rfl) rfl ?_ | refine stepY (y_cmpT rfl rfl rfl (by omega)) rfl ?_)
          refine call_ Tryz.func109 rfl rfl (rlimb_c a j ha) rfl (by repeat (first | exact .refl _ | apply Les.cons | exact .nil)) rfl ?_
          repeat (refine stepY (y_move rfl) rfl ?_)
          refine call_ Tryz.func109 rfl rfl (rlimb_c b j hb) rfl (by repeat (first | exact .refl _ | apply Les.cons | exact .nil)) rfl ?_
          repeat (first | refine seq_ ?_ | refine region_ ?_ | refine nil_ ?_ | refine ret_ ?_ | refine cond_t rfl ?_ | refine stepY (y_assign rfl) rfl ?_ | refine stepY (y_cmpT rfl rfl rfl (by omega)) rfl ?_)
          rw [sg_lt (top_lt he h2)]
          ((apply fin_r); (repeat (first | exact .nil | exact .tmp rfl | apply ResL.cons)); (repeat (exact .refl _)))
        · repeat (first | refine seq_ ?_ | refine region_ ?_ | refine nil_ ?_ | refine skip_ ?_ | refine block_ ?_ | refine cond_t rfl ?_ | refine stepY (y_move rfl) rfl ?_ | refine stepY (y_cmpT rfl rfl rfl (by omega)) rfl ?_)
          refine call_ Tryz.func109 rfl rfl (rlimb_c a j ha) rfl (by repeat (first | exact .refl _ | apply Les.cons | exact .nil)) rfl ?_
          repeat (refine stepY (y_move rfl) rfl ?_)
          refine call_ Tryz.func109 rfl rfl (rlimb_c b j hb) rfl (by repeat (first | exact .refl _ | apply Les.cons | exact .nil)) rfl ?_
          repeat (first | refine seq_ ?_ | refine region_ ?_ | refine nil_ ?_ | refine skip_ ?_ | refine cond_f rfl ?_ | refine stepY (y_move rfl) rfl ?_ | refine stepY (y_cmpF rfl rfl rfl (by omega)) rfl ?_)
          refine call_ Tryz.func109 rfl rfl (rlimb_c a j ha) rfl (by repeat (first | exact .refl _ | apply Les.cons | exact .nil)) rfl ?_
          repeat (refine stepY (y_move rfl) rfl ?_)
          refine call_ Tryz.func109 rfl rfl (rlimb_c b j hb) rfl (by repeat (first | exact .refl _ | apply Les.cons | exact .nil)) rfl ?_
          repeat (first | refine seq_ ?_ | refine region_ ?_ | refine nil_ ?_ | refine ret_ ?_ | refine cond_t rfl ?_ | refine stepY (y_assign rfl) rfl ?_ | refine stepY (y_cmpT rfl rfl rfl (by omega)) rfl ?_)
          rw [sg_gt (top_lt he.symm (by omega))]
          ((apply fin_r); (repeat (first | exact .nil | exact .tmp rfl | apply ResL.cons)); (repeat (exact .refl _)))
  · repeat (first | refine seq_ ?_ | refine region_ ?_ | refine nil_ ?_ | refine block_ ?_ | refine stepY (y_move rfl) rfl ?_ | refine stepY (y_assign rfl) rfl ?_ | (first | refine stepY (y_len_si rfl) rfl ?_ | refine stepY (y_maxr rfl rfl (by omega)) rfl ?_) | refine stepY (y_binn rfl rfl rfl (by simp only [InK, loK, hiK]; omega)) rfl ?_)
    refine loop_ (α := Nat) (fun k => ([(0, .p (Li a)), (1, .p (Li b)), (6, .p (I ((k : Int) - 1)))], [])) (fun k => k ≤ b.length ∧ val a / B ^ k = val b / B ^ k) id (b.length) ⟨Nat.le_refl _, by rw [Nat.div_eq_of_lt hva, Nat.div_eq_of_lt hvb]⟩ ?_ ?_ ?_
    · (repeat (first | exact sub_nil | refine sub_cons rfl ?_))
    · (repeat (exact subH_nil))
    intro k ⟨hk, he⟩
    by_cases h0 : k = 0
    · subst h0
      have hab : val a = val b := by simpa using he
      rw [hab]
      repeat (first | refine seq_ ?_ | refine region_ ?_ | refine nil_ ?_ | refine exit_ ?_ | refine ret_ ?_ | refine cond_f rfl ?_ | refine stepY (y_move rfl) rfl ?_ | refine stepY (y_assign rfl) rfl ?_ | refine stepY (y_cmpF rfl rfl rfl (by omega)) rfl ?_)
      rw [sg_eq]
      ((apply fin_r); (repeat (first | exact .nil | exact .tmp rfl | apply ResL.cons)); (repeat (exact .refl _)))
    · obtain ⟨j, rfl⟩ : ∃ j, k = j + 1 := ⟨k - 1, by omega⟩
      rw [show (((j + 1 : Nat) : Int) - 1) = (j : Int) by omega]
      by_cases h1 : dg (val a) j = dg (val b) j
      · repeat (first | refine seq_ ?_ | refine region_ ?_ | refine nil_ ?_ | refine skip_ ?_ | refine block_ ?_ | refine cond_t rfl ?_ | refine stepY (y_move rfl) rfl ?_ | refine stepY (y_cmpT rfl rfl rfl (by omega)) rfl ?_)
        refine call_ Tryz.func109 rfl rfl (rlimb_c a j ha) rfl (by repeat (first | exact .refl _ | apply Les.cons | exact .nil)) rfl ?_
        repeat (refine stepY (y_move rfl) rfl ?_)
        refine call_ Tryz.func109 rfl rfl (rlimb_c b j hb) rfl (by repeat (first | exact .refl _ | apply Les.cons | exact .nil)) rfl ?_
        repeat (first | refine seq_ ?_ | refine region_ ?_ | refine nil_ ?_ | refine skip_ ?_ | refine cond_f rfl ?_ | refine stepY (y_move rfl) rfl ?_ | refine stepY (y_cmpF rfl rfl rfl (by omega)) rfl ?_)
        refine call_ Tryz.func109 rfl rfl (rlimb_c a j ha) rfl (by repeat (first | exact .refl _ | apply Les.cons | exact .nil)) rfl ?_
        repeat (refine stepY (y_move rfl) rfl ?_)
        refine call_ Tryz.func109 rfl rfl (rlimb_c b j hb) rfl (by repeat (first | exact .refl _ | apply Les.cons | exact .nil)) rfl ?_
        repeat (first | refine region_ ?_ | refine nil_ ?_ | refine skip_ ?_ | refine cond_f rfl ?_ | refine stepY (y_move rfl) rfl ?_ | refine stepY (y_assign rfl) rfl ?_ | refine stepY (y_binn rfl rfl rfl (by simp only [InK, loK, hiK]; omega)) rfl ?_ | refine stepY (y_cmpF rfl rfl rfl (by omega)) rfl ?_)
        refine ⟨j, ⟨by omega, ?_⟩, by simp only [id]; omega, ?_, ?_⟩
        · rw [div_split, div_split (val b), he, h1]
        · (repeat (first | exact sub_nil | refine sub_cons rfl ?_))
        · (repeat (exact subH_nil))
      · by_cases h2 : dg (val a) j < dg (val b) j
        · repeat (first | refine seq_ ?_ | refine region_ ?_ | refine nil_ ?_ | refine skip_ ?_ | refine block_ ?_ | refine cond_t rfl ?_ | refine stepY (y_move rfl) rfl ?_ | refine stepY (y_cmpT rfl rfl rfl (by omega)) rfl ?_)
          refine call_ Tryz.func109 rfl rfl (rlimb_c a j ha) rfl (by repeat (first | exact .refl _ | apply Les.cons | exact .nil)) rfl ?_
          repeat (refine stepY (y_move rfl) rfl ?_)
          refine call_ Tryz.func109 rfl rfl (rlimb_c b j hb) rfl (by repeat (first | exact .refl _ | apply Les.cons | exact .nil)) rfl ?_
          repeat (first | refine seq_ ?_ | refine region_ ?_ | refine nil_ ?_ | refine ret_ ?_ | refine cond_t rfl ?_ | refine stepY (y_assign rfl) rfl ?_ | refine stepY (y_cmpT rfl rfl rfl (by omega)) rfl ?_)
          rw [sg_lt (top_lt he h2)]
          ((apply fin_r); (repeat (first | exact .nil | exact .tmp rfl | apply ResL.cons)); (repeat (exact .refl _)))
        · repeat (first | refine seq_ ?_ | refine region_ ?_ | refine nil_ ?_ | refine skip_ ?_ | refine block_ ?_ | refine cond_t rfl ?_ | refine stepY (y_move rfl) rfl ?_ | refine stepY (y_cmpT rfl rfl rfl (by omega)) rfl ?_)
          refine call_ Tryz.func109 rfl rfl (rlimb_c a j ha) rfl (by repeat (first | exact .refl _ | apply Les.cons | exact .nil)) rfl ?_
          repeat (refine stepY (y_move rfl) rfl ?_)
          refine call_ Tryz.func109 rfl rfl (rlimb_c b j hb) rfl (by repeat (first | exact .refl _ | apply Les.cons | exact .nil)) rfl ?_
          repeat (first | refine seq_ ?_ | refine region_ ?_ | refine nil_ ?_ | refine skip_ ?_ | refine cond_f rfl ?_ | refine stepY (y_move rfl) rfl ?_ | refine stepY (y_cmpF rfl rfl rfl (by omega)) rfl ?_)
          refine call_ Tryz.func109 rfl rfl (rlimb_c a j ha) rfl (by repeat (first | exact .refl _ | apply Les.cons | exact .nil)) rfl ?_
          repeat (refine stepY (y_move rfl) rfl ?_)
          refine call_ Tryz.func109 rfl rfl (rlimb_c b j hb) rfl (by repeat (first | exact .refl _ | apply Les.cons | exact .nil)) rfl ?_
          repeat (first | refine seq_ ?_ | refine region_ ?_ | refine nil_ ?_ | refine ret_ ?_ | refine cond_t rfl ?_ | refine stepY (y_assign rfl) rfl ?_ | refine stepY (y_cmpT rfl rfl rfl (by omega)) rfl ?_)
          rw [sg_gt (top_lt he.symm (by omega))]
          ((apply fin_r); (repeat (first | exact .nil | exact .tmp rfl | apply ResL.cons)); (repeat (exact .refl _)))

/-! barscanref02.plus -/
theorem plus_c (a b : List Int) (ha : wf a) (hb : wf b) (hla : a.length < 4294967295) (hlb : b.length < 4294967295) : Con Tryz.prog 88 [Li a, Li b] (FM (val a + val b)) := by
  refine con_of Tryz.func88 rfl rfl rfl rfl rfl ?_
  rcases Nat.le_total b.length a.length with h | h
  · have hva := val_lt ha
    have hvb := Nat.lt_of_lt_of_le (val_lt hb) (Nat.pow_le_pow_right B_pos h)
    repeat (first | refine seq_ ?_ | refine region_ ?_ | refine nil_ ?_ | refine block_ ?_ | refine stepY (y_assign rfl) rfl ?_)
    refine nil_C (i := 5) 88 .u32 rfl rfl rfl ?_
    refine loop_ (α := Nat) (fun k => ([(0, .p (Li a)), (1, .p (Li b)), (5, .vec 5), (6, .p (UU (cy (val a) (val b) k))), (7, .p (I k))], [(5, .vi 88 .u32 (padd k (val a + val b)))])) (fun k => k ≤ a.length) (fun k => a.length - k) 0 (Nat.zero_le _) ?_ ?_ ?_
    · rw [cy_zero]; (repeat (first | exact sub_nil | refine sub_cons rfl ?_))
    · (repeat (first | exact subH_nil | refine subH_cons rfl ?_))
    intro k hk
    have hl : (padd k (val a + val b)).length = k := padd_length _ _
    have hstep := cy_step (val a) (val b) k
    have h1 := dg_lt (val a) k
    have h2 := dg_lt (val b) k
    have h3 := cy_le (val a) (val b) k
    have h4 := dg_lt (val a + val b) k
    unfold B at hstep h1 h2 h4
    by_cases hlt : k < a.length
    · repeat (first | refine seq_ ?_ | refine region_ ?_ | refine nil_ ?_ | refine skip_ ?_ | refine block_ ?_ | refine cond_t rfl ?_ | refine stepY (y_move rfl) rfl ?_ | (first | refine stepY (y_len_si rfl) rfl ?_ | refine stepY (y_maxl rfl rfl (by omega)) rfl ?_) | refine stepY (y_cmpT rfl rfl rfl (by omega)) rfl ?_)
      refine call_ Tryz.func109 rfl rfl (rlimb_c a k ha) rfl (by repeat (first | exact .refl _ | apply Les.cons | exact .nil)) rfl ?_
      repeat (refine stepY (y_move rfl) rfl ?_)
      refine call_ Tryz.func109 rfl rfl (rlimb_c b k hb) rfl (by repeat (first | exact .refl _ | apply Les.cons | exact .nil)) rfl ?_
      repeat (first | refine seq_ ?_ | refine region_ ?_ | refine nil_ ?_ | refine stepY (y_move rfl) rfl ?_ | refine stepY (y_assign rfl) rfl ?_ | refine stepY (y_convn rfl (by simp only [InK, loK, hiK]; omega)) rfl ?_ | refine stepY (y_binn rfl rfl rfl (by simp only [InK, loK, hiK]; omega)) rfl ?_ | refine stepY (y_remp rfl rfl (by omega) (by omega)) rfl ?_ | refine stepE (e_bs_vi (k := .u32) rfl rfl rfl rfl rfl) ?_)
      rw [show ((dg (val a) k : Int) + dg (val b) k + cy (val a) (val b) k) % 4294967296 = dg (val a + val b) k by omega]
      refine stepE (e_app_vi rfl rfl rfl (src_vi rfl rfl) (by simp only [List.length_cons, List.length_nil]; omega) rfl rfl) ?_
      repeat (first | refine region_ ?_ | refine nil_ ?_ | refine stepY (y_move rfl) rfl ?_ | refine stepY (y_assign rfl) rfl ?_ | refine stepY (y_binn rfl rfl rfl (by simp only [InK, loK, hiK]; omega)) rfl ?_ | refine stepY (y_quop rfl rfl (by omega) (by omega) (by simp only [InK, loK, hiK]; omega)) rfl ?_)
      rw [← padd_succ, show ((dg (val a) k : Int) + dg (val b) k + cy (val a) (val b) k) / 4294967296 = cy (val a) (val b) (k + 1) by omega]
      refine ⟨k + 1, by omega, by omega, ?_, ?_⟩ <;> (repeat (first | exact sub_nil | exact subH_nil | refine sub_cons rfl ?_ | refine subH_cons rfl ?_))
    · obtain rfl : k = a.length := by omega
      repeat (first | refine seq_ ?_ | refine region_ ?_ | refine nil_ ?_ | refine exit_ ?_ | refine cond_f rfl ?_ | refine stepY (y_move rfl) rfl ?_ | (first | refine stepY (y_len_si rfl) rfl ?_ | refine stepY (y_maxl rfl rfl (by omega)) rfl ?_) | refine stepY (y_convn rfl (by simp only [InK, loK, hiK]; omega)) rfl ?_ | refine stepY (y_cmpF rfl rfl rfl (by omega)) rfl ?_ | refine stepE (e_bs_vi (k := .u32) rfl rfl rfl rfl rfl) ?_)
      refine stepE (e_app_vi rfl rfl rfl (src_vi rfl rfl) (by simp only [List.length_cons, List.length_nil]; omega) rfl rfl) ?_
      repeat (first | refine seq_ ?_ | refine region_ ?_ | refine nil_ ?_ | refine stepY (y_move rfl) rfl ?_ | refine stepY (y_assign rfl) rfl ?_)
      rw [cy_top hva hvb, ← padd_succ]
      refine seal_L (i := 40) (h := 5) rfl rfl rfl rfl ?_
      have ht := RTrim_c (padd (a.length + 1) (val a + val b)) (wf_padd _ _) (by rw [padd_length]; omega)
      rw [val_padd, Nat.mod_eq_of_lt (sum_lt hva hvb)] at ht
      refine call_ Tryz.func74 rfl rfl ht rfl (by repeat (first | exact .tag _ _ | apply Les.cons | exact .nil)) rfl ?_
      repeat (first | refine nil_ ?_ | refine ret_ ?_ | refine stepY (y_assign rfl) rfl ?_)
      ((apply fin_r); (repeat (first | exact .nil | exact .tmp rfl | apply ResL.cons)); (repeat (exact .refl _)))
  · have hva := Nat.lt_of_lt_of_le (val_lt ha) (Nat.pow_le_pow_right B_pos h)
    have hvb := val_lt hb
    repeat (first | refine seq_ ?_ | refine region_ ?_ | refine nil_ ?_ | refine block_ ?_ | refine stepY (y_assign rfl) rfl ?_)
    refine nil_C (i := 5) 88 .u32 rfl rfl rfl ?_
    refine loop_ (α := Nat) (fun k => ([(0, .p (Li a)), (1, .p (Li b)), (5, .vec 5), (6, .p (UU (cy (val a) (val b) k))), (7, .p (I k))], [(5, .vi 88 .u32 (padd k (val a + val b)))])) (fun k => k ≤ b.length) (fun k => b.length - k) 0 (Nat.zero_le _) ?_ ?_ ?_
    · rw [cy_zero]; (repeat (first | exact sub_nil | refine sub_cons rfl ?_))
    · (repeat (first | exact subH_nil | refine subH_cons rfl ?_))
    intro k hk
    have hl : (padd k (val a + val b)).length = k := padd_length _ _
    have hstep := cy_step (val a) (val b) k
    have h1 := dg_lt (val a) k
    have h2 := dg_lt (val b) k
    have h3 := cy_le (val a) (val b) k
    have h4 := dg_lt (val a + val b) k
    unfold B at hstep h1 h2 h4
    by_cases hlt : k < b.length
    · repeat (first | refine seq_ ?_ | refine region_ ?_ | refine nil_ ?_ | refine skip_ ?_ | refine block_ ?_ | refine cond_t rfl ?_ | refine stepY (y_move rfl) rfl ?_ | (first | refine stepY (y_len_si rfl) rfl ?_ | refine stepY (y_maxr rfl rfl (by omega)) rfl ?_) | refine stepY (y_cmpT rfl rfl rfl (by omega)) rfl ?_)
      refine call_ Tryz.func109 rfl rfl (rlimb_c a k ha) rfl (by repeat (first | exact .refl _ | apply Les.cons | exact .nil)) rfl ?_
      repeat (refine stepY (y_move rfl) rfl ?_)
      refine call_ Tryz.func109 rfl rfl (rlimb_c b k hb) rfl (by repeat (first | exact .refl _ | apply Les.cons | exact .nil)) rfl ?_
      repeat (first | refine seq_ ?_ | refine region_ ?_ | refine nil_ ?_ | refine stepY (y_move rfl) rfl ?_ | refine stepY (y_assign rfl) rfl ?_ | refine stepY (y_convn rfl (by simp only [InK, loK, hiK]; omega)) rfl ?_ | refine stepY (y_binn rfl rfl rfl (by simp only [InK, loK, hiK]; omega)) rfl ?_ | refine stepY (y_remp rfl rfl (by omega) (by omega)) rfl ?_ | refine stepE (e_bs_vi (k := .u32) rfl rfl rfl rfl rfl) ?_)
      rw [show ((dg (val a) k : Int) + dg (val b) k + cy (val a) (val b) k) % 4294967296 = dg (val a + val b) k by omega]
      refine stepE (e_app_vi rfl rfl rfl (src_vi rfl rfl) (by simp only [List.length_cons, List.length_nil]; omega) rfl rfl) ?_
      repeat (first | refine region_ ?_ | refine nil_ ?_ | refine stepY (y_move rfl) rfl ?_ | refine stepY (y_assign rfl) rfl ?_ | refine stepY (y_binn rfl rfl rfl (by simp only [InK, loK, hiK]; omega)) rfl ?_ | refine stepY (y_quop rfl rfl (by omega) (by omega) (by simp only [InK, loK, hiK]; omega)) rfl ?_)
      rw [← padd_succ, show ((dg (val a) k : Int) + dg (val b) k + cy (val a) (val b) k) / 4294967296 = cy (val a) (val b) (k + 1) by omega]
      refine ⟨k + 1, by omega, by omega, ?_, ?_⟩ <;> (repeat (first | exact sub_nil | exact subH_nil | refine sub_cons rfl ?_ | refine subH_cons rfl ?_))
    · obtain rfl : k = b.length := by omega
      repeat (first | refine seq_ ?_ | refine region_ ?_ | refine nil_ ?_ | refine exit_ ?_ | refine cond_f rfl ?_ | refine stepY (y_move rfl) rfl ?_ | (first | refine stepY (y_len_si rfl) rfl ?_ | refine stepY (y_maxr rfl rfl (by omega)) rfl ?_) | refine stepY (y_convn rfl (by simp only [InK, loK, hiK]; omega)) rfl ?_ | refine stepY (y_cmpF rfl rfl rfl (by omega)) rfl ?_ | refine stepE (e_bs_vi (k := .u32) rfl rfl rfl rfl rfl) ?_)
      refine stepE (e_app_vi rfl rfl rfl (src_vi rfl rfl) (by simp only [List.length_cons, List.length_nil]; omega) rfl rfl) ?_
      repeat (first | refine seq_ ?_ | refine region_ ?_ | refine nil_ ?_ | refine stepY (y_move rfl) rfl ?_ | refine stepY (y_assign rfl) rfl ?_)
      rw [cy_top hva hvb, ← padd_succ]
      refine seal_L (i := 40) (h := 5) rfl rfl rfl rfl ?_
      have ht := RTrim_c (padd (b.length + 1) (val a + val b)) (wf_padd _ _) (by rw [padd_length]; omega)
      rw [val_padd, Nat.mod_eq_of_lt (sum_lt hva hvb)] at ht
      refine call_ Tryz.func74 rfl rfl ht rfl (by repeat (first | exact .tag _ _ | apply Les.cons | exact .nil)) rfl ?_
      repeat (first | refine nil_ ?_ | refine ret_ ?_ | refine stepY (y_assign rfl) rfl ?_)
      ((apply fin_r); (repeat (first | exact .nil | exact .tmp rfl | apply ResL.cons)); (repeat (exact .refl _)))

/-! barscanref02.minus -/
theorem minus_c (a b : List Int) (ha : wf a) (hb : wf b) (hla : a.length < 4294967295) (hab : val b ≤ val a) : Con Tryz.prog 90 [Li a, Li b] (FM (val a - val b)) := by
  refine con_of Tryz.func90 rfl rfl rfl rfl rfl ?_
  repeat (first | refine seq_ ?_ | refine region_ ?_ | refine nil_ ?_ | refine block_ ?_ | refine stepY (y_assign rfl) rfl ?_)
  refine nil_C (i := 5) 88 .u32 rfl rfl rfl ?_
  refine loop_ (α := Nat) (fun k => ([(0, .p (Li a)), (1, .p (Li b)), (5, .vec 5), (6, .p (UU (bw (val a) (val b) k))), (7, .p (I k))], [(5, .vi 88 .u32 (padd k (val a - val b)))])) (fun k => k ≤ a.length) (fun k => a.length - k) 0 (Nat.zero_le _) ?_ ?_ ?_
  · rw [bw_zero]; (repeat (first | exact sub_nil | refine sub_cons rfl ?_))
  · (repeat (first | exact subH_nil | refine subH_cons rfl ?_))
  intro k hk
  have hl : (padd k (val a - val b)).length = k := padd_length _ _
  have hstep := bw_step hab k
  have h1 := dg_bd (val a) k
  have h2 := dg_bd (val b) k
  have h3 := bw_le (val a) (val b) k
  have h3' := bw_le (val a) (val b) (k + 1)
  have h4 := dg_bd (val a - val b) k
  by_cases hlt : k < a.length
  · repeat (first | refine seq_ ?_ | refine region_ ?_ | refine nil_ ?_ | refine skip_ ?_ | refine block_ ?_ | refine cond_t rfl ?_ | refine stepY (y_move rfl) rfl ?_ | refine stepY (y_len_si rfl) rfl ?_ | refine stepY (y_cmpT rfl rfl rfl (by omega)) rfl ?_)
    refine call_ Tryz.func109 rfl rfl (rlimb_c a k ha) rfl (by repeat (first | exact .refl _ | apply Les.cons | exact .nil)) rfl ?_
    repeat (first | refine stepY (y_move rfl) rfl ?_ | refine stepY (y_binn rfl rfl rfl (by simp only [InK, loK, hiK]; omega)) rfl ?_)
    refine call_ Tryz.func109 rfl rfl (rlimb_c b k hb) rfl (by repeat (first | exact .refl _ | apply Les.cons | exact .nil)) rfl ?_
    repeat (first | refine seq_ ?_ | refine region_ ?_ | refine nil_ ?_ | refine stepY (y_move rfl) rfl ?_ | refine stepY (y_assign rfl) rfl ?_ | refine stepY (y_convn rfl (by simp only [InK, loK, hiK]; omega)) rfl ?_ | refine stepY (y_binn rfl rfl rfl (by simp only [InK, loK, hiK]; omega)) rfl ?_ | refine stepY (y_remp rfl rfl (by omega) (by omega)) rfl ?_ | refine stepE (e_bs_vi (k := .u32) rfl rfl rfl rfl rfl) ?_)
    rw [show (4294967296 + (dg (val a) k : Int) - dg (val b) k - bw (val a) (val b) k) % 4294967296 = dg (val a - val b) k by omega]
    refine stepE (e_app_vi rfl rfl rfl (src_vi rfl rfl) (by simp only [List.length_cons, List.length_nil]; omega) rfl rfl) ?_
    repeat (first | refine region_ ?_ | refine nil_ ?_ | refine stepY (y_move rfl) rfl ?_ | refine stepY (y_assign rfl) rfl ?_ | refine stepY (y_binn rfl rfl rfl (by simp only [InK, loK, hiK]; omega)) rfl ?_ | refine stepY (y_binn rfl rfl rfl (by simp only [InK, loK, hiK]; omega)) rfl ?_ | refine stepY (y_quop rfl rfl (by omega) (by omega) (by simp only [InK, loK, hiK]; omega)) rfl ?_)
    rw [← padd_succ, show 1 - (4294967296 + (dg (val a) k : Int) - dg (val b) k - bw (val a) (val b) k) / 4294967296 = bw (val a) (val b) (k + 1) by omega]
    refine ⟨k + 1, by omega, by omega, ?_, ?_⟩ <;> (repeat (first | exact sub_nil | exact subH_nil | refine sub_cons rfl ?_ | refine subH_cons rfl ?_))
  · obtain rfl : k = a.length := by omega
    repeat (first | refine seq_ ?_ | refine region_ ?_ | refine nil_ ?_ | refine exit_ ?_ | refine cond_f rfl ?_ | refine stepY (y_move rfl) rfl ?_ | refine stepY (y_len_si rfl) rfl ?_ | refine stepY (y_cmpF rfl rfl rfl (by omega)) rfl ?_)
    refine seal_L (i := 34) (h := 5) rfl rfl rfl rfl ?_
    have ht := RTrim_c (padd a.length (val a - val b)) (wf_padd _ _) (by rw [padd_length]; omega)
    rw [val_padd, Nat.mod_eq_of_lt (Nat.lt_of_le_of_lt (Nat.sub_le _ _) (val_lt ha))] at ht
    refine call_ Tryz.func74 rfl rfl ht rfl (by repeat (first | exact .tag _ _ | apply Les.cons | exact .nil)) rfl ?_
    repeat (first | refine nil_ ?_ | refine ret_ ?_ | refine stepY (y_assign rfl) rfl ?_)
    ((apply fin_r); (repeat (first | exact .nil | exact .tmp rfl | apply ResL.cons)); (repeat (exact .refl _)))

/-! barscanref02.times -/
theorem times_c (a b : List Int) (ha : wf a) (hb : wf b) (hla : a.length < 2147483648) (hlb : b.length < 2147483647) : Con Tryz.prog 69 [Li a, Li b] (FM (val a * val b)) := by
  refine con_of Tryz.func69 rfl rfl rfl rfl rfl ?_
  repeat (first | refine seq_ ?_ | refine region_ ?_ | refine nil_ ?_ | refine stepY (y_move rfl) rfl ?_ | refine stepY (y_assign rfl) rfl ?_ | refine stepY (y_len_si rfl) rfl ?_ | refine stepY (y_binn rfl rfl rfl (by simp only [InK, loK, hiK]; omega)) rfl ?_)
  refine stepE (e_make rfl rfl (by omega) (by omega) rfl rfl) ?_
  repeat (first | refine seq_ ?_ | refine region_ ?_ | refine nil_ ?_ | refine block_ ?_ | refine stepY (y_assign rfl) rfl ?_)
  rw [show ((a.length : Int) + b.length).toNat = a.length + b.length by omega]
  refine loop_ (α := Nat × List Int) (fun y => ([(0, .p (Li a)), (1, .p (Li b)), (5, .vec 15), (6, .p (I y.1))], [(15, .vi 88 .u32 y.2)])) (fun y => y.1 ≤ a.length ∧ wf y.2 ∧ y.2.length = a.length + b.length ∧ val y.2 = (val a % B ^ y.1) * val b) (fun y => a.length - y.1) (0, List.replicate (a.length + b.length) 0) ⟨Nat.zero_le _, wf_zero _, by simp, by simp [val_zero, Nat.mod_one]⟩ ?_ ?_ ?_
  · (repeat (first | exact sub_nil | refine sub_cons rfl ?_))
  · (repeat (first | exact subH_nil | refine subH_cons rfl ?_))
  intro ⟨i, o⟩ ⟨hi, hw, hlo, hv⟩
  dsimp only at hi hw hlo hv ⊢
  by_cases hlt : i < a.length
  · have ra := rd_dgk ha i
    have rb := dg_bd (val a) i
    repeat (first | refine seq_ ?_ | refine region_ ?_ | refine nil_ ?_ | refine skip_ ?_ | refine block_ ?_ | refine cond_t rfl ?_ | refine stepY (y_move rfl) rfl ?_ | refine stepY (y_assign rfl) rfl ?_ | refine stepY (y_len_si rfl) rfl ?_ | refine stepY (y_cmpT rfl rfl rfl (by omega)) rfl ?_)
    refine loop_ (α := Nat × Nat × List Int) (fun y => ([(0, .p (Li a)), (1, .p (Li b)), (5, .vec 15), (6, .p (I i)), (7, .p (UU y.2.1)), (8, .p (I y.1))], [(15, .vi 88 .u32 y.2.2)])) (fun y => y.1 ≤ b.length ∧ PS (val a) (val b) (a.length + b.length) i y.1 y.2.2 y.2.1 b.length) (fun y => b.length - y.1) (0, 0, o) ⟨Nat.zero_le _, PS.first hw hlo hv (val_lt hb)⟩ ?_ ?_ ?_
    · (repeat (first | exact sub_nil | refine sub_cons rfl ?_))
    · (repeat (first | exact subH_nil | refine subH_cons rfl ?_))
    intro ⟨k, c, q⟩ ⟨hk, hp⟩
    dsimp only at hk hp ⊢
    have hlq := hp.l
    by_cases hkl : k < b.length
    · have hs := hp.step (s := dg (val a) i * dg (val b) k + (q.getD (i + k) 0).toNat + c) hkl (by omega) rfl
      have hlim := hp.lim (by omega)
      have rk := rd_dgk hb k
      have rk' := dg_bd (val b) k
      have hc := hp.c
      have hrd : rd q ((i : Int) + k) = q.getD (i + k) 0 := by unfold rd; rw [show ((i : Int) + k).toNat = i + k by omega]
      have hm0 : 0 ≤ rd a i ∧ rd a i < 4294967296 := by rw [ra]; exact rb
      have hm1 : rd a i * rd b k = ((dg (val a) i * dg (val b) k : Nat) : Int) := by rw [ra, rk]; simp
      have hm2 : 0 ≤ rd b k ∧ rd b k < 4294967296 := by rw [rk]; exact rk'
      have hm3 : 0 ≤ rd q ((i : Int) + k) ∧ rd q ((i : Int) + k) < 4294967296 := by rw [hrd]; exact hlim.2
      generalize hP : dg (val a) i * dg (val b) k = p at *
      repeat (first | refine seq_ ?_ | refine region_ ?_ | refine nil_ ?_ | refine skip_ ?_ | refine block_ ?_ | refine cond_t rfl ?_ | refine stepY (y_move rfl) rfl ?_ | refine stepY (y_len_si rfl) rfl ?_ | refine stepY (y_cmpT rfl rfl rfl (by omega)) rfl ?_)
      refine draw_ [(0, true), (1, true), (2, true), (3, true), (4, true), (5, true), (6, true), (7, true), (8, true), (9, true), (10, true), (11, true), (12, true), (13, true), (14, true), (15, true), (16, true), (17, true), (18, true), (19, true), (20, true), (21, true)] 1000 [15] mixed (by kernel_rfl) rfl ?_
      ((refine dY rfl (y_move rfl) rfl rfl rfl rfl ?_); refine dY rfl (y_move rfl) rfl rfl rfl rfl ?_; refine dY rfl (y_index_si rfl rfl (by omega) (by omega)) rfl rfl rfl rfl ?_; refine dY rfl (y_load_rc1 rfl rfl) rfl rfl rfl rfl ?_; refine dY rfl (y_convn rfl (by simp only [InK, loK, hiK]; omega)) rfl rfl rfl rfl ?_; refine dY rfl (y_move rfl) rfl rfl rfl rfl ?_; refine dY rfl (y_move rfl) rfl rfl rfl rfl ?_; refine dY rfl (y_index_si rfl rfl (by omega) (by omega)) rfl rfl rfl rfl ?_; refine dY rfl (y_load_rc1 rfl rfl) rfl rfl rfl rfl ?_; refine dY rfl (y_convn rfl (by simp only [InK, loK, hiK]; omega)) rfl rfl rfl rfl ?_; refine dY rfl (y_binn rfl rfl rfl (by simp only [InK, loK, hiK]; omega)) rfl rfl rfl rfl ?_; refine dY rfl (y_move rfl) rfl rfl rfl rfl ?_; refine dY rfl (y_move rfl) rfl rfl rfl rfl ?_; refine dY rfl (y_move rfl) rfl rfl rfl rfl ?_; refine dY rfl (y_binn rfl rfl rfl (by simp only [InK, loK, hiK]; omega)) rfl rfl rfl rfl ?_; refine dY rfl (y_index_vi rfl rfl rfl (by omega) (by omega)) rfl rfl rfl rfl ?_; refine dY rfl (y_load_vi rfl rfl (by omega) (by omega)) rfl rfl rfl rfl ?_; refine dY rfl (y_convn rfl (by simp only [InK, loK, hiK]; omega)) rfl rfl rfl rfl ?_; refine dY rfl (y_binn rfl rfl rfl (by simp only [InK, loK, hiK]; omega)) rfl rfl rfl rfl ?_; refine dY rfl (y_move rfl) rfl rfl rfl rfl ?_; refine dY rfl (y_binn rfl rfl rfl (by simp only [InK, loK, hiK]; omega)) rfl rfl rfl rfl ?_; refine dY rfl (y_assign rfl) rfl rfl rfl rfl ?_; refine dEnd ?_)
      have e1 : (rd a i * rd b k + rd q ((i : Int) + k) + (c : Int)) = ((p + (q.getD (i + k) 0).toNat + c : Nat) : Int) := by rw [hm1, hrd]; omega
      rw [e1]
      have hlim1 := hlim.1
      repeat (first | refine seq_ ?_ | refine region_ ?_ | refine nil_ ?_ | refine stepY (y_move rfl) rfl ?_ | refine stepY (y_assign rfl) rfl ?_ | refine stepY (y_convn rfl (by simp only [InK, loK, hiK]; omega)) rfl ?_ | refine stepY (y_index_vi rfl rfl rfl (by omega) (by omega)) rfl ?_ | refine stepY (y_binn rfl rfl rfl (by simp only [InK, loK, hiK]; omega)) rfl ?_ | refine stepY (y_quop rfl rfl (by omega) (by omega) (by simp only [InK, loK, hiK]; omega)) rfl ?_ | refine stepY (y_remp rfl rfl (by omega) (by omega)) rfl ?_ | refine stepE (e_store_vi rfl rfl rfl (by omega) (by omega)) ?_)
      rw [show ((i : Int) + k).toNat = i + k by omega]
      refine ⟨(k + 1, (p + (q.getD (i + k) 0).toNat + c) / B, q.set (i + k) (((p + (q.getD (i + k) 0).toNat + c) % B : Nat) : Int)), ⟨by omega, hs⟩, by dsimp only; omega, ?_, ?_⟩ <;> (repeat (first | exact sub_nil | exact subH_nil | refine sub_cons rfl ?_ | refine subH_cons rfl ?_))
    · obtain rfl : k = b.length := by omega
      have hl := hp.last (val_lt hb) (by omega)
      have hc := hp.c
      unfold B at hc
      repeat (first | refine seq_ ?_ | refine region_ ?_ | refine nil_ ?_ | refine exit_ ?_ | refine cond_f rfl ?_ | refine stepY (y_move rfl) rfl ?_ | refine stepY (y_assign rfl) rfl ?_ | refine stepY (y_len_si rfl) rfl ?_ | refine stepY (y_convn rfl (by simp only [InK, loK, hiK]; omega)) rfl ?_ | refine stepY (y_index_vi rfl rfl rfl (by omega) (by omega)) rfl ?_ | refine stepY (y_binn rfl rfl rfl (by simp only [InK, loK, hiK]; omega)) rfl ?_ | refine stepY (y_cmpF rfl rfl rfl (by omega)) rfl ?_ | refine stepE (e_store_vi rfl rfl rfl (by omega) (by omega)) ?_)
      rw [show ((i : Int) + b.length).toNat = i + b.length by omega]
      refine ⟨(i + 1, q.set (i + b.length) (c : Int)), ⟨by omega, hl⟩, by dsimp only; omega, ?_, ?_⟩ <;> (repeat (first | exact sub_nil | exact subH_nil | refine sub_cons rfl ?_ | refine subH_cons rfl ?_))
  · obtain rfl : i = a.length := by omega
    rw [Nat.mod_eq_of_lt (val_lt ha)] at hv
    repeat (first | refine seq_ ?_ | refine region_ ?_ | refine nil_ ?_ | refine exit_ ?_ | refine cond_f rfl ?_ | refine stepY (y_move rfl) rfl ?_ | refine stepY (y_len_si rfl) rfl ?_ | refine stepY (y_cmpF rfl rfl rfl (by omega)) rfl ?_)
    refine seal_L (i := 67) (h := 15) rfl rfl rfl rfl ?_
    rw [← hv]
    refine call_ Tryz.func74 rfl rfl (RTrim_c o hw (by omega)) rfl (by repeat (first | exact .tag _ _ | apply Les.cons | exact .nil)) rfl ?_
    repeat (first | refine nil_ ?_ | refine ret_ ?_ | refine stepY (y_assign rfl) rfl ?_)
    ((apply fin_r); (repeat (first | exact .nil | exact .tmp rfl | apply ResL.cons)); (repeat (exact .refl _)))
end Go.Av

set_option maxHeartbeats 4000000
set_option maxRecDepth 100000
set_option linter.unusedVariables false
set_option linter.unusedSimpArgs false
namespace Go.Av
open Go Go.Proofs
/-- is a value of api.Int in normal form? -/
def vldB (neg : Bool) (l : List Int) : Bool := decide (l.length ≤ 512) && (if l.length = 0 then !neg else decide (rd l (l.length - 1) ≠ 0))
theorem vld_iv {z : Int} (h : ln z.natAbs ≤ 512) : vldB (decide (z < 0)) (limbs z.natAbs) = true := by
  unfold vldB
  rw [limbs_length, decide_eq_true h, Bool.true_and]
  split
  · rename_i h0
    have : ¬ 0 < z.natAbs := fun h1 => by have := ln_pos.2 h1; omega
    simp; omega
  · rename_i h0
    have h1 := top_ne (n := z.natAbs) (ln_pos.1 (by omega))
    rw [rd_limbs _ (by omega), show ((ln z.natAbs : Int) - 1).toNat = ln z.natAbs - 1 by omega]
    simp; omega
theorem iv_vld {neg : Bool} {l : List Int} (hw : wf l) (h : vldB neg l = true) : AV neg l = IV (sgn neg (val l)) ∧ ln (sgn neg (val l)).natAbs ≤ 512 := by
  unfold vldB at h
  rw [Bool.and_eq_true, decide_eq_true_eq] at h
  obtain ⟨h1, h2⟩ := h
  have hlim : limbs (val l) = l := by
    refine limbs_val hw ?_
    split at h2
    · rename_i h0; exact .inl (List.eq_nil_of_length_eq_zero h0)
    · rename_i h0
      rw [decide_eq_true_eq] at h2
      right
      unfold rd at h2
      rwa [show ((l.length : Int) - 1).toNat = l.length - 1 by omega] at h2
  have hln : ln (val l) = l.length := by rw [← limbs_length, hlim]
  refine ⟨?_, by rw [sgn_abs, hln]; exact h1⟩
  unfold IV AV M
  rw [sgn_abs, hlim, sgn_neg]
  congr 3
  cases neg with
  | false => rfl
  | true =>
    have : 0 < val l := by
      split at h2
      · simp at h2
      · rename_i h0; exact ln_pos.1 (by omega)
    simp [this]

theorem Valid_c (neg : Bool) (l : List Int) : Con Tryz.prog 48 [AV neg l] (Bo (vldB neg l)) := by
  refine con_of Tryz.func48 rfl rfl rfl rfl rfl ?_
  refine len_Ca (i := 0) rfl (fun hL => ?_)
  by_cases h1 : l.length ≤ 512
  · by_cases h0 : l.length = 0
    · have e : vldB neg l = !neg := by unfold vldB; rw [decide_eq_true h1, if_pos h0]; rfl
      rw [e]
      have h2 : ¬ (0 : Int) < l.length := by omega
      cases neg <;> (
      repeat (first | refine seq_ ?_ | refine region_ ?_ | refine nil_ ?_ | refine ret_ ?_ | refine guard_t rfl rfl rfl ?_ | refine guard_f rfl rfl rfl rfl ?_ | refine guard_u rfl rfl rfl ?_ | refine stepY (y_move rfl) rfl ?_ | refine stepY (y_assign rfl) rfl ?_ | refine stepY (y_load1 rfl rfl rfl) rfl ?_ | refine stepY (y_fieldAddr rfl) rfl ?_ | refine stepY (y_len_si rfl) rfl ?_ | refine stepY (y_not rfl) rfl ?_ | (first | refine stepY (y_pick_t rfl rfl) rfl ?_ | refine stepY (y_pick_f rfl rfl) rfl ?_) | refine stepY (y_cmpT rfl rfl rfl (by omega)) rfl ?_ | refine stepY (y_cmpT rfl rfl rfl (by omega)) rfl ?_ | refine stepY (y_cmpF rfl rfl rfl (by omega)) rfl ?_ | refine stepE (e_box rfl rfl rfl rfl rfl rfl) ?_)
      ((apply fin_r); (repeat (first | exact .nil | exact .tmp rfl | apply ResL.cons)); (repeat (exact .refl _))))
    · by_cases h3 : rd l ((l.length : Int) - 1) = 0
      · have e : vldB neg l = false := by unfold vldB; rw [decide_eq_true h1, if_neg h0, decide_eq_false (by simpa using h3)]; rfl
        rw [e]
        repeat (first | refine seq_ ?_ | refine region_ ?_ | refine nil_ ?_ | refine ret_ ?_ | refine guard_t rfl rfl rfl ?_ | refine guard_f rfl rfl rfl rfl ?_ | refine stepY (y_move rfl) rfl ?_ | refine stepY (y_assign rfl) rfl ?_ | (first | refine stepY (y_load1 rfl rfl rfl) rfl ?_ | refine stepY (y_load_rc1 rfl rfl) rfl ?_) | refine stepY (y_fieldAddr rfl) rfl ?_ | refine stepY (y_len_si rfl) rfl ?_ | (first | refine stepY (y_pick_t rfl rfl) rfl ?_ | refine stepY (y_pick_f rfl rfl) rfl ?_) | refine stepY (y_index_si rfl rfl (by omega) (by omega)) rfl ?_ | refine stepY (y_binn rfl rfl rfl (by simp only [InK, loK, hiK]; omega)) rfl ?_ | refine stepY (y_cmpF rfl rfl rfl (by omega)) rfl ?_ | refine stepY (y_cmpF rfl rfl rfl (by omega)) rfl ?_ | refine stepY (y_cmpT rfl rfl rfl (by omega)) rfl ?_ | refine stepY (y_cmpT rfl rfl rfl (by omega)) rfl ?_ | refine stepE (e_box rfl rfl rfl rfl rfl rfl) ?_)
        ((apply fin_r); (repeat (first | exact .nil | exact .tmp rfl | apply ResL.cons)); (repeat (exact .refl _)))
      · have e : vldB neg l = true := by unfold vldB; rw [decide_eq_true h1, if_neg h0, decide_eq_true h3]; rfl
        rw [e]
        repeat (first | refine seq_ ?_ | refine region_ ?_ | refine nil_ ?_ | refine ret_ ?_ | refine guard_t rfl rfl rfl ?_ | refine guard_f rfl rfl rfl rfl ?_ | refine stepY (y_move rfl) rfl ?_ | refine stepY (y_assign rfl) rfl ?_ | (first | refine stepY (y_load1 rfl rfl rfl) rfl ?_ | refine stepY (y_load_rc1 rfl rfl) rfl ?_) | refine stepY (y_fieldAddr rfl) rfl ?_ | refine stepY (y_len_si rfl) rfl ?_ | (first | refine stepY (y_pick_t rfl rfl) rfl ?_ | refine stepY (y_pick_f rfl rfl) rfl ?_) | refine stepY (y_index_si rfl rfl (by omega) (by omega)) rfl ?_ | refine stepY (y_binn rfl rfl rfl (by simp only [InK, loK, hiK]; omega)) rfl ?_ | refine stepY (y_cmpF rfl rfl rfl (by omega)) rfl ?_ | refine stepY (y_cmpT rfl rfl rfl (by omega)) rfl ?_ | refine stepY (y_cmpT rfl rfl rfl (by omega)) rfl ?_ | refine stepY (y_cmpT rfl rfl rfl (by omega)) rfl ?_ | refine stepE (e_box rfl rfl rfl rfl rfl rfl) ?_)
        ((apply fin_r); (repeat (first | exact .nil | exact .tmp rfl | apply ResL.cons)); (repeat (exact .refl _)))
  · have e : vldB neg l = false := by unfold vldB; rw [decide_eq_false h1]; rfl
    rw [e]
    repeat (first | refine seq_ ?_ | refine region_ ?_ | refine nil_ ?_ | refine ret_ ?_ | refine guard_f rfl rfl rfl rfl ?_ | refine guard_u rfl rfl rfl ?_ | refine stepY (y_move rfl) rfl ?_ | refine stepY (y_assign rfl) rfl ?_ | refine stepY (y_load1 rfl rfl rfl) rfl ?_ | refine stepY (y_fieldAddr rfl) rfl ?_ | refine stepY (y_len_si rfl) rfl ?_ | refine stepY (y_pick_f rfl rfl) rfl ?_ | refine stepY (y_cmpF rfl rfl rfl (by omega)) rfl ?_ | refine stepE (e_box rfl rfl rfl rfl rfl rfl) ?_)
    ((apply fin_r); (repeat (first | exact .nil | exact .tmp rfl | apply ResL.cons)); (repeat (exact .refl _)))
theorem RValid_c (neg : Bool) (l : List Int) : Con Tryz.prog 53 [AV neg l] (Bo (vldB neg l)) := by
  refine con_of Tryz.func53 rfl rfl rfl rfl rfl ?_
  refine len_Ca (i := 0) rfl (fun hL => ?_)
  by_cases h1 : l.length ≤ 512
  · by_cases h0 : l.length = 0
    · have e : vldB neg l = !neg := by unfold vldB; rw [decide_eq_true h1, if_pos h0]; rfl
      rw [e]
      have h2 : ¬ (0 : Int) < l.length := by omega
      cases neg <;> (
      repeat (first | refine seq_ ?_ | refine region_ ?_ | refine nil_ ?_ | refine ret_ ?_ | refine cond_t rfl ?_ | refine stepY (y_move rfl) rfl ?_ | refine stepY (y_assign rfl) rfl ?_ | refine stepY (y_load1 rfl rfl rfl) rfl ?_ | refine stepY (y_fieldAddr rfl) rfl ?_ | refine stepY (y_len_si rfl) rfl ?_ | refine stepY (y_not rfl) rfl ?_ | refine stepY (y_cmpT rfl rfl rfl (by omega)) rfl ?_ | refine stepE (e_box rfl rfl rfl rfl rfl rfl) ?_)
      ((apply fin_r); (repeat (first | exact .nil | exact .tmp rfl | apply ResL.cons)); (repeat (exact .refl _))))
    · by_cases h3 : rd l ((l.length : Int) - 1) = 0
      · have e : vldB neg l = false := by unfold vldB; rw [decide_eq_true h1, if_neg h0, decide_eq_false (by simpa using h3)]; rfl
        rw [e]
        repeat (first | refine seq_ ?_ | refine region_ ?_ | refine nil_ ?_ | refine skip_ ?_ | refine ret_ ?_ | refine cond_f rfl ?_ | refine guard_t rfl rfl rfl ?_ | refine stepY (y_move rfl) rfl ?_ | refine stepY (y_assign rfl) rfl ?_ | (first | refine stepY (y_load1 rfl rfl rfl) rfl ?_ | refine stepY (y_load_rc1 rfl rfl) rfl ?_) | refine stepY (y_fieldAddr rfl) rfl ?_ | refine stepY (y_len_si rfl) rfl ?_ | refine stepY (y_pick_t rfl rfl) rfl ?_ | refine stepY (y_index_si rfl rfl (by omega) (by omega)) rfl ?_ | refine stepY (y_binn rfl rfl rfl (by simp only [InK, loK, hiK]; omega)) rfl ?_ | refine stepY (y_cmpF rfl rfl rfl (by omega)) rfl ?_ | refine stepY (y_cmpF rfl rfl rfl (by omega)) rfl ?_ | refine stepY (y_cmpT rfl rfl rfl (by omega)) rfl ?_ | refine stepE (e_box rfl rfl rfl rfl rfl rfl) ?_)
        ((apply fin_r); (repeat (first | exact .nil | exact .tmp rfl | apply ResL.cons)); (repeat (exact .refl _)))
      · have e : vldB neg l = true := by unfold vldB; rw [decide_eq_true h1, if_neg h0, decide_eq_true h3]; rfl
        rw [e]
        repeat (first | refine seq_ ?_ | refine region_ ?_ | refine nil_ ?_ | refine skip_ ?_ | refine ret_ ?_ | refine cond_f rfl ?_ | refine guard_t rfl rfl rfl ?_ | refine stepY (y_move rfl) rfl ?_ | refine stepY (y_assign rfl) rfl ?_ | (first | refine stepY (y_load1 rfl rfl rfl) rfl ?_ | refine stepY (y_load_rc1 rfl rfl) rfl ?_) | refine stepY (y_fieldAddr rfl) rfl ?_ | refine stepY (y_len_si rfl) rfl ?_ | refine stepY (y_pick_t rfl rfl) rfl ?_ | refine stepY (y_index_si rfl rfl (by omega) (by omega)) rfl ?_ | refine stepY (y_binn rfl rfl rfl (by simp only [InK, loK, hiK]; omega)) rfl ?_ | refine stepY (y_cmpF rfl rfl rfl (by omega)) rfl ?_ | refine stepY (y_cmpT rfl rfl rfl (by omega)) rfl ?_ | refine stepY (y_cmpT rfl rfl rfl (by omega)) rfl ?_ | refine stepE (e_box rfl rfl rfl rfl rfl rfl) ?_)
        ((apply fin_r); (repeat (first | exact .nil | exact .tmp rfl | apply ResL.cons)); (repeat (exact .refl _)))
  · have e : vldB neg l = false := by unfold vldB; rw [decide_eq_false h1]; rfl
    rw [e]
    repeat (first | refine seq_ ?_ | refine region_ ?_ | refine nil_ ?_ | refine skip_ ?_ | refine ret_ ?_ | refine cond_f rfl ?_ | refine guard_f rfl rfl rfl rfl ?_ | refine stepY (y_move rfl) rfl ?_ | refine stepY (y_assign rfl) rfl ?_ | refine stepY (y_load1 rfl rfl rfl) rfl ?_ | refine stepY (y_fieldAddr rfl) rfl ?_ | refine stepY (y_len_si rfl) rfl ?_ | refine stepY (y_pick_f rfl rfl) rfl ?_ | refine stepY (y_cmpF rfl rfl rfl (by omega)) rfl ?_ | refine stepY (y_cmpF rfl rfl rfl (by omega)) rfl ?_ | refine stepE (e_box rfl rfl rfl rfl rfl rfl) ?_)
    ((apply fin_r); (repeat (first | exact .nil | exact .tmp rfl | apply ResL.cons)); (repeat (exact .refl _)))
theorem Valid_t {z : Int} (h : ln z.natAbs ≤ 512) : Con Tryz.prog 48 [IV z] (Bo true) := by
  have := Valid_c (decide (z < 0)) (limbs z.natAbs); rwa [vld_iv h] at this
theorem RValid_t {z : Int} (h : ln z.natAbs ≤ 512) : Con Tryz.prog 53 [IV z] (Bo true) := by
  have := RValid_c (decide (z < 0)) (limbs z.natAbs); rwa [vld_iv h] at this
end Go.Av

set_option maxHeartbeats 8000000
set_option exponentiation.threshold 100000
set_option maxRecDepth 100000
set_option linter.unusedVariables false
set_option linter.unusedSimpArgs false
namespace Go.Av
open Go Go.Proofs
abbrev SV (p : Bool) (m : Nat) : PV := .ag [Bo p, M m]
theorem vld_ln {p : Bool} {m : Nat} (h : vldB p (limbs m) = true) : ln m ≤ 512 := by
  unfold vldB at h
  rw [Bool.and_eq_true, decide_eq_true_eq, limbs_length] at h
  exact h.1
theorem sgn_self (z : Int) : sgn (decide (z < 0)) z.natAbs = z := by
  unfold sgn
  by_cases h : z < 0
  · simp [h]; omega
  · simp [h]; omega
theorem ln_add {m n : Nat} (hm : ln m ≤ 512) (hn : ln n ≤ 512) : ln (m + n) ≤ 513 := by
  rw [ln_le] at *
  exact sum_lt hm hn
/-! bigint.added -/
def addN (p q : Bool) (m n : Nat) : Bool := if p = q then p else if n ≤ m then p else q
def addL (p q : Bool) (m n : Nat) : List Int := if p = q then padd (max (ln m) (ln n) + 1) (m + n) else if n ≤ m then limbs (m - n) else limbs (n - m)
theorem add_val (p q : Bool) (m n : Nat) : sgn (addN p q m n) (val (addL p q m n)) = sgn p m + sgn q n := by
  unfold addN addL
  by_cases h : p = q
  · rw [if_pos h, if_pos h, val_padd, Nat.mod_eq_of_lt (sum_lt (ln_le.1 (Nat.le_max_left _ _)) (ln_le.1 (Nat.le_max_right _ _)))]
    subst h
    cases p <;> simp [sgn] <;> omega
  · rw [if_neg h, if_neg h]
    by_cases h1 : n ≤ m
    · rw [if_pos h1, if_pos h1, val_limbs]
      cases p <;> cases q <;> simp [sgn] at * <;> omega
    · rw [if_neg h1, if_neg h1, val_limbs]
      cases p <;> cases q <;> simp [sgn] at * <;> omega
theorem add_wf (p q : Bool) (m n : Nat) : wf (addL p q m n) := by
  unfold addL; split
  · exact wf_padd _ _
  · split
    · exact wf_limbs _
    · exact wf_limbs _
theorem add_len {p q : Bool} {m n : Nat} (hm : ln m ≤ 512) (hn : ln n ≤ 512) : (addL p q m n).length ≤ 513 := by
  unfold addL; split
  · rw [padd_length]; omega
  · have h1 := ln_mono (Nat.sub_le m n)
    have h2 := ln_mono (Nat.sub_le n m)
    split <;> rw [limbs_length] <;> omega
theorem added_c (p q : Bool) (m n : Nat) (hm : ln m ≤ 512) (hn : ln n ≤ 512) : Con Tryz.prog 63 [SV p m, SV q n] (.tp [Bo (addN p q m n), Li (addL p q m n)]) := by
  refine con_of Tryz.func63 rfl rfl rfl rfl rfl ?_
  have hsum := Sum_c (limbs m) (limbs n) (wf_limbs _) (wf_limbs _) (by rw [limbs_length]; omega) (by rw [limbs_length]; omega)
  rw [val_limbs, val_limbs, limbs_length, limbs_length] at hsum
  cases p <;> cases q
  · rw [show addN false false m n = false from rfl, show addL false false m n = padd (max (ln m) (ln n) + 1) (m + n) from rfl]
    repeat (first | refine seq_ ?_ | refine region_ ?_ | refine nil_ ?_ | refine block_ ?_ | refine cond_t rfl ?_ | refine stepY (y_assign rfl) rfl ?_ | refine stepY (y_load1 rfl rfl rfl) rfl ?_ | refine stepY (y_fieldAddr rfl) rfl ?_ | refine stepY (y_eqb rfl rfl) rfl ?_ | refine stepE (e_box rfl rfl rfl rfl rfl rfl) ?_)
    refine draw_ [(0, true), (1, true), (2, true), (3, true), (4, true), (5, true), (6, false), (7, true), (8, true)] 1000 [2, 3] mixed (by kernel_rfl) rfl ?_
    ((refine dY rfl (y_fieldAddr rfl) rfl rfl rfl rfl ?_); refine dY rfl (y_load1 rfl rfl rfl) rfl rfl rfl rfl ?_; refine dY rfl (y_fieldAddr rfl) rfl rfl rfl rfl ?_; refine dY rfl (y_load1 rfl rfl rfl) rfl rfl rfl rfl ?_; refine dY rfl (y_fieldAddr rfl) rfl rfl rfl rfl ?_; refine dY rfl (y_load1 rfl rfl rfl) rfl rfl rfl rfl ?_)
    refine dC rfl Tryz.func78 rfl rfl hsum rfl (by repeat (first | exact .refl _ | apply Les.cons | exact .nil)) rfl rfl ?_
    ((refine dY rfl (y_assign rfl) rfl rfl rfl rfl ?_); refine dY rfl (y_assign rfl) rfl rfl rfl rfl ?_; refine dEnd ?_)
    repeat (refine ret_ ?_)
    ((apply fin_r); (repeat (first | exact .nil | exact .tmp rfl | apply ResL.cons)); (repeat (first | exact .refl _ | exact .tag _ _ | apply Le.tp | apply Les.cons | exact .nil)))
  · by_cases h : n ≤ m
    · have hs : 0 ≤ sg m n := by unfold sg; rw [if_neg (by omega)]; split <;> omega
      have hd := Difference_c (limbs m) (limbs n) (wf_limbs _) (wf_limbs _) (by rw [limbs_length]; omega) (by rw [val_limbs, val_limbs]; exact h)
      rw [val_limbs, val_limbs] at hd
      rw [show addN false true m n = false by simp [addN, h], show addL false true m n = limbs (m - n) by simp [addL, h]]
      repeat (first | refine seq_ ?_ | refine region_ ?_ | refine nil_ ?_ | refine block_ ?_ | refine cond_f rfl ?_ | refine stepY (y_assign rfl) rfl ?_ | refine stepY (y_load1 rfl rfl rfl) rfl ?_ | refine stepY (y_fieldAddr rfl) rfl ?_ | refine stepY (y_eqb rfl rfl) rfl ?_ | refine stepE (e_box rfl rfl rfl rfl rfl rfl) ?_)
      refine call_ Tryz.func79 rfl rfl (Compare_c m n) rfl (by repeat (first | exact .refl _ | apply Les.cons | exact .nil)) rfl ?_
      repeat (first | refine seq_ ?_ | refine nil_ ?_ | refine cond_t rfl ?_ | refine stepY (y_assign rfl) rfl ?_ | refine stepY (y_cmpT rfl rfl rfl (by omega)) rfl ?_)
      refine draw_ [(0, true), (1, true), (2, true), (3, true), (4, true), (5, true), (6, false), (7, true), (8, true)] 1000 [2, 3] mixed (by kernel_rfl) rfl ?_
      ((refine dY rfl (y_fieldAddr rfl) rfl rfl rfl rfl ?_); refine dY rfl (y_load1 rfl rfl rfl) rfl rfl rfl rfl ?_; refine dY rfl (y_fieldAddr rfl) rfl rfl rfl rfl ?_; refine dY rfl (y_load1 rfl rfl rfl) rfl rfl rfl rfl ?_; refine dY rfl (y_fieldAddr rfl) rfl rfl rfl rfl ?_; refine dY rfl (y_load1 rfl rfl rfl) rfl rfl rfl rfl ?_)
      refine dC rfl Tryz.func80 rfl rfl hd rfl (by repeat (first | exact .refl _ | apply Les.cons | exact .nil)) rfl rfl ?_
      ((refine dY rfl (y_assign rfl) rfl rfl rfl rfl ?_); refine dY rfl (y_assign rfl) rfl rfl rfl rfl ?_; refine dEnd ?_)
      repeat (refine ret_ ?_)
      ((apply fin_r); (repeat (first | exact .nil | exact .tmp rfl | apply ResL.cons)); (repeat (exact .refl _)))
    · have hs : sg m n = -1 := sg_lt (by omega)
      have hd := Difference_c (limbs n) (limbs m) (wf_limbs _) (wf_limbs _) (by rw [limbs_length]; omega) (by rw [val_limbs, val_limbs]; omega)
      rw [val_limbs, val_limbs] at hd
      rw [show addN false true m n = true by simp [addN, h], show addL false true m n = limbs (n - m) by simp [addL, h]]
      repeat (first | refine seq_ ?_ | refine region_ ?_ | refine nil_ ?_ | refine block_ ?_ | refine cond_f rfl ?_ | refine stepY (y_assign rfl) rfl ?_ | refine stepY (y_load1 rfl rfl rfl) rfl ?_ | refine stepY (y_fieldAddr rfl) rfl ?_ | refine stepY (y_eqb rfl rfl) rfl ?_ | refine stepE (e_box rfl rfl rfl rfl rfl rfl) ?_)
      refine call_ Tryz.func79 rfl rfl (Compare_c m n) rfl (by repeat (first | exact .refl _ | apply Les.cons | exact .nil)) rfl ?_
      rw [hs]
      repeat (first | refine seq_ ?_ | refine nil_ ?_ | refine skip_ ?_ | refine cond_f rfl ?_ | refine stepY (y_assign rfl) rfl ?_ | refine stepY (y_cmpF rfl rfl rfl (by omega)) rfl ?_)
      refine draw_ [(0, true), (1, true), (2, true), (3, true), (4, true), (5, true), (6, false), (7, true), (8, true)] 1000 [2, 3] mixed (by kernel_rfl) rfl ?_
      ((refine dY rfl (y_fieldAddr rfl) rfl rfl rfl rfl ?_); refine dY rfl (y_load1 rfl rfl rfl) rfl rfl rfl rfl ?_; refine dY rfl (y_fieldAddr rfl) rfl rfl rfl rfl ?_; refine dY rfl (y_load1 rfl rfl rfl) rfl rfl rfl rfl ?_; refine dY rfl (y_fieldAddr rfl) rfl rfl rfl rfl ?_; refine dY rfl (y_load1 rfl rfl rfl) rfl rfl rfl rfl ?_)
      refine dC rfl Tryz.func80 rfl rfl hd rfl (by repeat (first | exact .refl _ | apply Les.cons | exact .nil)) rfl rfl ?_
      ((refine dY rfl (y_assign rfl) rfl rfl rfl rfl ?_); refine dY rfl (y_assign rfl) rfl rfl rfl rfl ?_; refine dEnd ?_)
      repeat (refine ret_ ?_)
      ((apply fin_r); (repeat (first | exact .nil | exact .tmp rfl | apply ResL.cons)); (repeat (exact .refl _)))
  · by_cases h : n ≤ m
    · have hs : 0 ≤ sg m n := by unfold sg; rw [if_neg (by omega)]; split <;> omega
      have hd := Difference_c (limbs m) (limbs n) (wf_limbs _) (wf_limbs _) (by rw [limbs_length]; omega) (by rw [val_limbs, val_limbs]; exact h)
      rw [val_limbs, val_limbs] at hd
      rw [show addN true false m n = true by simp [addN, h], show addL true false m n = limbs (m - n) by simp [addL, h]]
      repeat (first | refine seq_ ?_ | refine region_ ?_ | refine nil_ ?_ | refine block_ ?_ | refine cond_f rfl ?_ | refine stepY (y_assign rfl) rfl ?_ | refine stepY (y_load1 rfl rfl rfl) rfl ?_ | refine stepY (y_fieldAddr rfl) rfl ?_ | refine stepY (y_eqb rfl rfl) rfl ?_ | refine stepE (e_box rfl rfl rfl rfl rfl rfl) ?_)
      refine call_ Tryz.func79 rfl rfl (Compare_c m n) rfl (by repeat (first | exact .refl _ | apply Les.cons | exact .nil)) rfl ?_
      repeat (first | refine seq_ ?_ | refine nil_ ?_ | refine cond_t rfl ?_ | refine stepY (y_assign rfl) rfl ?_ | refine stepY (y_cmpT rfl rfl rfl (by omega)) rfl ?_)
      refine draw_ [(0, true), (1, true), (2, true), (3, true), (4, true), (5, true), (6, false), (7, true), (8, true)] 1000 [2, 3] mixed (by kernel_rfl) rfl ?_
      ((refine dY rfl (y_fieldAddr rfl) rfl rfl rfl rfl ?_); refine dY rfl (y_load1 rfl rfl rfl) rfl rfl rfl rfl ?_; refine dY rfl (y_fieldAddr rfl) rfl rfl rfl rfl ?_; refine dY rfl (y_load1 rfl rfl rfl) rfl rfl rfl rfl ?_; refine dY rfl (y_fieldAddr rfl) rfl rfl rfl rfl ?_; refine dY rfl (y_load1 rfl rfl rfl) rfl rfl rfl rfl ?_)
      refine dC rfl Tryz.func80 rfl rfl hd rfl (by repeat (first | exact .refl _ | apply Les.cons | exact .nil)) rfl rfl ?_
      ((refine dY rfl (y_assign rfl) rfl rfl rfl rfl ?_); refine dY rfl (y_assign rfl) rfl rfl rfl rfl ?_; refine dEnd ?_)
      repeat (refine ret_ ?_)
      ((apply fin_r); (repeat (first | exact .nil | exact .tmp rfl | apply ResL.cons)); (repeat (exact .refl _)))
    · have hs : sg m n = -1 := sg_lt (by omega)
      have hd := Difference_c (limbs n) (limbs m) (wf_limbs _) (wf_limbs _) (by rw [limbs_length]; omega) (by rw [val_limbs, val_limbs]; omega)
      rw [val_limbs, val_limbs] at hd
      rw [show addN true false m n = false by simp [addN, h], show addL true false m n = limbs (n - m) by simp [addL, h]]
      repeat (first | refine seq_ ?_ | refine region_ ?_ | refine nil_ ?_ | refine block_ ?_ | refine cond_f rfl ?_ | refine stepY (y_assign rfl) rfl ?_ | refine stepY (y_load1 rfl rfl rfl) rfl ?_ | refine stepY (y_fieldAddr rfl) rfl ?_ | refine stepY (y_eqb rfl rfl) rfl ?_ | refine stepE (e_box rfl rfl rfl rfl rfl rfl) ?_)
      refine call_ Tryz.func79 rfl rfl (Compare_c m n) rfl (by repeat (first | exact .refl _ | apply Les.cons | exact .nil)) rfl ?_
      rw [hs]
      repeat (first | refine seq_ ?_ | refine nil_ ?_ | refine skip_ ?_ | refine cond_f rfl ?_ | refine stepY (y_assign rfl) rfl ?_ | refine stepY (y_cmpF rfl rfl rfl (by omega)) rfl ?_)
      refine draw_ [(0, true), (1, true), (2, true), (3, true), (4, true), (5, true), (6, false), (7, true), (8, true)] 1000 [2, 3] mixed (by kernel_rfl) rfl ?_
      ((refine dY rfl (y_fieldAddr rfl) rfl rfl rfl rfl ?_); refine dY rfl (y_load1 rfl rfl rfl) rfl rfl rfl rfl ?_; refine dY rfl (y_fieldAddr rfl) rfl rfl rfl rfl ?_; refine dY rfl (y_load1 rfl rfl rfl) rfl rfl rfl rfl ?_; refine dY rfl (y_fieldAddr rfl) rfl rfl rfl rfl ?_; refine dY rfl (y_load1 rfl rfl rfl) rfl rfl rfl rfl ?_)
      refine dC rfl Tryz.func80 rfl rfl hd rfl (by repeat (first | exact .refl _ | apply Les.cons | exact .nil)) rfl rfl ?_
      ((refine dY rfl (y_assign rfl) rfl rfl rfl rfl ?_); refine dY rfl (y_assign rfl) rfl rfl rfl rfl ?_; refine dEnd ?_)
      repeat (refine ret_ ?_)
      ((apply fin_r); (repeat (first | exact .nil | exact .tmp rfl | apply ResL.cons)); (repeat (exact .refl _)))
  · rw [show addN true true m n = true from rfl, show addL true true m n = padd (max (ln m) (ln n) + 1) (m + n) from rfl]
    repeat (first | refine seq_ ?_ | refine region_ ?_ | refine nil_ ?_ | refine block_ ?_ | refine cond_t rfl ?_ | refine stepY (y_assign rfl) rfl ?_ | refine stepY (y_load1 rfl rfl rfl) rfl ?_ | refine stepY (y_fieldAddr rfl) rfl ?_ | refine stepY (y_eqb rfl rfl) rfl ?_ | refine stepE (e_box rfl rfl rfl rfl rfl rfl) ?_)
    refine draw_ [(0, true), (1, true), (2, true), (3, true), (4, true), (5, true), (6, false), (7, true), (8, true)] 1000 [2, 3] mixed (by kernel_rfl) rfl ?_
    ((refine dY rfl (y_fieldAddr rfl) rfl rfl rfl rfl ?_); refine dY rfl (y_load1 rfl rfl rfl) rfl rfl rfl rfl ?_; refine dY rfl (y_fieldAddr rfl) rfl rfl rfl rfl ?_; refine dY rfl (y_load1 rfl rfl rfl) rfl rfl rfl rfl ?_; refine dY rfl (y_fieldAddr rfl) rfl rfl rfl rfl ?_; refine dY rfl (y_load1 rfl rfl rfl) rfl rfl rfl rfl ?_)
    refine dC rfl Tryz.func78 rfl rfl hsum rfl (by repeat (first | exact .refl _ | apply Les.cons | exact .nil)) rfl rfl ?_
    ((refine dY rfl (y_assign rfl) rfl rfl rfl rfl ?_); refine dY rfl (y_assign rfl) rfl rfl rfl rfl ?_; refine dEnd ?_)
    repeat (refine ret_ ?_)
    ((apply fin_r); (repeat (first | exact .nil | exact .tmp rfl | apply ResL.cons)); (repeat (first | exact .refl _ | exact .tag _ _ | apply Le.tp | apply Les.cons | exact .nil)))

/-! the errors of functions of two numbers -/
theorem RAdd_e (p q : Bool) (l k : List Int) (h : (vldB p l && vldB q k) = false) : Con Tryz.prog 70 [AV p l, AV q k] (.tp [FIV 0, E_ 1]) := by
  refine con_of Tryz.func70 rfl rfl rfl rfl rfl ?_
  cases h1 : vldB p l with
  | false =>
    have hv := RValid_c p l
    rw [h1] at hv
    repeat (first | refine seq_ ?_ | refine region_ ?_ | refine nil_ ?_ | refine stepY (y_assign rfl) rfl ?_ | refine stepY (y_loadA rfl rfl rfl) rfl ?_ | refine stepE (e_box rfl rfl rfl rfl rfl rfl) ?_ | refine stepE (e_alloc rfl rfl rfl) ?_)
    refine call_ Tryz.func53 rfl rfl hv rfl (by repeat (first | exact .refl _ | apply Les.cons | exact .nil)) rfl ?_
    repeat (first | refine seq_ ?_ | refine region_ ?_ | refine nil_ ?_ | refine ret_ ?_ | refine cond_t rfl ?_ | refine guard_f rfl rfl rfl rfl ?_ | refine stepY (y_move rfl) rfl ?_ | refine stepY (y_assign rfl) rfl ?_ | refine stepY (y_not rfl) rfl ?_ | refine stepY (y_pick_t rfl rfl) rfl ?_ | refine stepY (y_build rfl rfl rfl) rfl ?_ | refine stepE (e_store rfl rfl rfl rfl rfl rfl rfl) ?_)
    ((apply fin_r); (repeat (first | exact .nil | exact .tmp rfl | exact .agg rfl rfl rfl | apply ResL.cons)); (repeat (first | exact .refl _ | exact .nil _ _ | apply Le.ag | apply Le.tp | apply Les.cons | exact .nil)))
  | true =>
    rw [h1, Bool.true_and] at h
    have hv := RValid_c p l
    have hv2 := RValid_c q k
    rw [h1] at hv
    rw [h] at hv2
    repeat (first | refine seq_ ?_ | refine region_ ?_ | refine nil_ ?_ | refine stepY (y_assign rfl) rfl ?_ | refine stepY (y_loadA rfl rfl rfl) rfl ?_ | refine stepE (e_box rfl rfl rfl rfl rfl rfl) ?_ | refine stepE (e_alloc rfl rfl rfl) ?_)
    refine call_ Tryz.func53 rfl rfl hv rfl (by repeat (first | exact .refl _ | apply Les.cons | exact .nil)) rfl ?_
    repeat (first | refine guard_t rfl rfl rfl ?_ | refine stepY (y_move rfl) rfl ?_ | refine stepY (y_loadA rfl rfl rfl) rfl ?_ | refine stepY (y_not rfl) rfl ?_)
    refine call_ Tryz.func53 rfl rfl hv2 rfl (by repeat (first | exact .refl _ | apply Les.cons | exact .nil)) rfl ?_
    repeat (first | refine seq_ ?_ | refine region_ ?_ | refine nil_ ?_ | refine ret_ ?_ | refine cond_t rfl ?_ | refine guard_t rfl rfl rfl ?_ | refine stepY (y_assign rfl) rfl ?_ | refine stepY (y_not rfl) rfl ?_ | refine stepY (y_pick_f rfl rfl) rfl ?_ | refine stepY (y_build rfl rfl rfl) rfl ?_ | refine stepE (e_store rfl rfl rfl rfl rfl rfl rfl) ?_)
    ((apply fin_r); (repeat (first | exact .nil | exact .tmp rfl | exact .agg rfl rfl rfl | apply ResL.cons)); (repeat (first | exact .refl _ | exact .nil _ _ | apply Le.ag | apply Le.tp | apply Les.cons | exact .nil)))
theorem Sub_e (p q : Bool) (l k : List Int) (h : (vldB p l && vldB q k) = false) : Con Tryz.prog 47 [AV p l, AV q k] (.tp [FIV 0, E_ 1]) := by
  refine con_of Tryz.func47 rfl rfl rfl rfl rfl ?_
  cases h1 : vldB p l with
  | false =>
    have hv := Valid_c p l
    rw [h1] at hv
    repeat (first | refine seq_ ?_ | refine region_ ?_ | refine nil_ ?_ | refine stepY (y_assign rfl) rfl ?_ | refine stepY (y_loadA rfl rfl rfl) rfl ?_ | refine stepE (e_box rfl rfl rfl rfl rfl rfl) ?_ | refine stepE (e_alloc rfl rfl rfl) ?_)
    refine call_ Tryz.func48 rfl rfl hv rfl (by repeat (first | exact .refl _ | apply Les.cons | exact .nil)) rfl ?_
    repeat (first | refine seq_ ?_ | refine region_ ?_ | refine nil_ ?_ | refine ret_ ?_ | refine cond_t rfl ?_ | refine guard_f rfl rfl rfl rfl ?_ | refine stepY (y_move rfl) rfl ?_ | refine stepY (y_assign rfl) rfl ?_ | refine stepY (y_not rfl) rfl ?_ | refine stepY (y_pick_t rfl rfl) rfl ?_ | refine stepY (y_build rfl rfl rfl) rfl ?_ | refine stepE (e_store rfl rfl rfl rfl rfl rfl rfl) ?_)
    ((apply fin_r); (repeat (first | exact .nil | exact .tmp rfl | exact .agg rfl rfl rfl | apply ResL.cons)); (repeat (first | exact .refl _ | exact .nil _ _ | apply Le.ag | apply Le.tp | apply Les.cons | exact .nil)))
  | true =>
    rw [h1, Bool.true_and] at h
    have hv := Valid_c p l
    have hv2 := Valid_c q k
    rw [h1] at hv
    rw [h] at hv2
    repeat (first | refine seq_ ?_ | refine region_ ?_ | refine nil_ ?_ | refine stepY (y_assign rfl) rfl ?_ | refine stepY (y_loadA rfl rfl rfl) rfl ?_ | refine stepE (e_box rfl rfl rfl rfl rfl rfl) ?_ | refine stepE (e_alloc rfl rfl rfl) ?_)
    refine call_ Tryz.func48 rfl rfl hv rfl (by repeat (first | exact .refl _ | apply Les.cons | exact .nil)) rfl ?_
    repeat (first | refine guard_t rfl rfl rfl ?_ | refine stepY (y_move rfl) rfl ?_ | refine stepY (y_loadA rfl rfl rfl) rfl ?_ | refine stepY (y_not rfl) rfl ?_)
    refine call_ Tryz.func48 rfl rfl hv2 rfl (by repeat (first | exact .refl _ | apply Les.cons | exact .nil)) rfl ?_
    repeat (first | refine seq_ ?_ | refine region_ ?_ | refine nil_ ?_ | refine ret_ ?_ | refine cond_t rfl ?_ | refine guard_t rfl rfl rfl ?_ | refine stepY (y_assign rfl) rfl ?_ | refine stepY (y_not rfl) rfl ?_ | refine stepY (y_pick_f rfl rfl) rfl ?_ | refine stepY (y_build rfl rfl rfl) rfl ?_ | refine stepE (e_store rfl rfl rfl rfl rfl rfl rfl) ?_)
    ((apply fin_r); (repeat (first | exact .nil | exact .tmp rfl | exact .agg rfl rfl rfl | apply ResL.cons)); (repeat (first | exact .refl _ | exact .nil _ _ | apply Le.ag | apply Le.tp | apply Les.cons | exact .nil)))
theorem Mul_e (p q : Bool) (l k : List Int) (h : (vldB p l && vldB q k) = false) : Con Tryz.prog 45 [AV p l, AV q k] (.tp [FIV 0, E_ 1]) := by
  refine con_of Tryz.func45 rfl rfl rfl rfl rfl ?_
  cases h1 : vldB p l with
  | false =>
    have hv := Valid_c p l
    rw [h1] at hv
    repeat (first | refine seq_ ?_ | refine region_ ?_ | refine nil_ ?_ | refine stepY (y_assign rfl) rfl ?_ | refine stepY (y_loadA rfl rfl rfl) rfl ?_ | refine stepE (e_box rfl rfl rfl rfl rfl rfl) ?_ | refine stepE (e_alloc rfl rfl rfl) ?_)
    refine call_ Tryz.func48 rfl rfl hv rfl (by repeat (first | exact .refl _ | apply Les.cons | exact .nil)) rfl ?_
    repeat (first | refine seq_ ?_ | refine region_ ?_ | refine nil_ ?_ | refine ret_ ?_ | refine cond_t rfl ?_ | refine guard_f rfl rfl rfl rfl ?_ | refine stepY (y_move rfl) rfl ?_ | refine stepY (y_assign rfl) rfl ?_ | refine stepY (y_not rfl) rfl ?_ | refine stepY (y_pick_t rfl rfl) rfl ?_ | refine stepY (y_build rfl rfl rfl) rfl ?_ | refine stepE (e_store rfl rfl rfl rfl rfl rfl rfl) ?_)
    ((apply fin_r); (repeat (first | exact .nil | exact .tmp rfl | exact .agg rfl rfl rfl | apply ResL.cons)); (repeat (first | exact .refl _ | exact .nil _ _ | apply Le.ag | apply Le.tp | apply Les.cons | exact .nil)))
  | true =>
    rw [h1, Bool.true_and] at h
    have hv := Valid_c p l
    have hv2 := Valid_c q k
    rw [h1] at hv
    rw [h] at hv2
    repeat (first | refine seq_ ?_ | refine region_ ?_ | refine nil_ ?_ | refine stepY (y_assign rfl) rfl ?_ | refine stepY (y_loadA rfl rfl rfl) rfl ?_ | refine stepE (e_box rfl rfl rfl rfl rfl rfl) ?_ | refine stepE (e_alloc rfl rfl rfl) ?_)
    refine call_ Tryz.func48 rfl rfl hv rfl (by repeat (first | exact .refl _ | apply Les.cons | exact .nil)) rfl ?_
    repeat (first | refine guard_t rfl rfl rfl ?_ | refine stepY (y_move rfl) rfl ?_ | refine stepY (y_loadA rfl rfl rfl) rfl ?_ | refine stepY (y_not rfl) rfl ?_)
    refine call_ Tryz.func48 rfl rfl hv2 rfl (by repeat (first | exact .refl _ | apply Les.cons | exact .nil)) rfl ?_
    repeat (first | refine seq_ ?_ | refine region_ ?_ | refine nil_ ?_ | refine ret_ ?_ | refine cond_t rfl ?_ | refine guard_t rfl rfl rfl ?_ | refine stepY (y_assign rfl) rfl ?_ | refine stepY (y_not rfl) rfl ?_ | refine stepY (y_pick_f rfl rfl) rfl ?_ | refine stepY (y_build rfl rfl rfl) rfl ?_ | refine stepE (e_store rfl rfl rfl rfl rfl rfl rfl) ?_)
    ((apply fin_r); (repeat (first | exact .nil | exact .tmp rfl | exact .agg rfl rfl rfl | apply ResL.cons)); (repeat (first | exact .refl _ | exact .nil _ _ | apply Le.ag | apply Le.tp | apply Les.cons | exact .nil)))
theorem RMul_e (p q : Bool) (l k : List Int) (h : (vldB p l && vldB q k) = false) : Con Tryz.prog 51 [AV p l, AV q k] (.tp [FIV 0, E_ 1]) := by
  refine con_of Tryz.func51 rfl rfl rfl rfl rfl ?_
  cases h1 : vldB p l with
  | false =>
    have hv := RValid_c p l
    rw [h1] at hv
    repeat (first | refine seq_ ?_ | refine region_ ?_ | refine nil_ ?_ | refine stepY (y_assign rfl) rfl ?_ | refine stepY (y_loadA rfl rfl rfl) rfl ?_ | refine stepE (e_box rfl rfl rfl rfl rfl rfl) ?_ | refine stepE (e_alloc rfl rfl rfl) ?_)
    refine call_ Tryz.func53 rfl rfl hv rfl (by repeat (first | exact .refl _ | apply Les.cons | exact .nil)) rfl ?_
    repeat (first | refine seq_ ?_ | refine region_ ?_ | refine nil_ ?_ | refine ret_ ?_ | refine cond_t rfl ?_ | refine guard_f rfl rfl rfl rfl ?_ | refine stepY (y_move rfl) rfl ?_ | refine stepY (y_assign rfl) rfl ?_ | refine stepY (y_not rfl) rfl ?_ | refine stepY (y_pick_t rfl rfl) rfl ?_ | refine stepY (y_build rfl rfl rfl) rfl ?_ | refine stepE (e_store rfl rfl rfl rfl rfl rfl rfl) ?_)
    ((apply fin_r); (repeat (first | exact .nil | exact .tmp rfl | exact .agg rfl rfl rfl | apply ResL.cons)); (repeat (first | exact .refl _ | exact .nil _ _ | apply Le.ag | apply Le.tp | apply Les.cons | exact .nil)))
  | true =>
    rw [h1, Bool.true_and] at h
    have hv := RValid_c p l
    have hv2 := RValid_c q k
    rw [h1] at hv
    rw [h] at hv2
    repeat (first | refine seq_ ?_ | refine region_ ?_ | refine nil_ ?_ | refine stepY (y_assign rfl) rfl ?_ | refine stepY (y_loadA rfl rfl rfl) rfl ?_ | refine stepE (e_box rfl rfl rfl rfl rfl rfl) ?_ | refine stepE (e_alloc rfl rfl rfl) ?_)
    refine call_ Tryz.func53 rfl rfl hv rfl (by repeat (first | exact .refl _ | apply Les.cons | exact .nil)) rfl ?_
    repeat (first | refine guard_t rfl rfl rfl ?_ | refine stepY (y_move rfl) rfl ?_ | refine stepY (y_loadA rfl rfl rfl) rfl ?_ | refine stepY (y_not rfl) rfl ?_)
    refine call_ Tryz.func53 rfl rfl hv2 rfl (by repeat (first | exact .refl _ | apply Les.cons | exact .nil)) rfl ?_
    repeat (first | refine seq_ ?_ | refine region_ ?_ | refine nil_ ?_ | refine ret_ ?_ | refine cond_t rfl ?_ | refine guard_t rfl rfl rfl ?_ | refine stepY (y_assign rfl) rfl ?_ | refine stepY (y_not rfl) rfl ?_ | refine stepY (y_pick_f rfl rfl) rfl ?_ | refine stepY (y_build rfl rfl rfl) rfl ?_ | refine stepE (e_store rfl rfl rfl rfl rfl rfl rfl) ?_)
    ((apply fin_r); (repeat (first | exact .nil | exact .tmp rfl | exact .agg rfl rfl rfl | apply ResL.cons)); (repeat (first | exact .refl _ | exact .nil _ _ | apply Le.ag | apply Le.tp | apply Les.cons | exact .nil)))
theorem Neg_e (p : Bool) (l : List Int) (h : vldB p l = false) : Con Tryz.prog 64 [AV p l] (FIV 0) := by
  refine con_of Tryz.func64 rfl rfl rfl rfl rfl ?_
  have hv := Valid_c p l
  rw [h] at hv
  repeat (first | refine seq_ ?_ | refine region_ ?_ | refine nil_ ?_ | refine stepY (y_loadA rfl rfl rfl) rfl ?_ | refine stepE (e_box rfl rfl rfl rfl rfl rfl) ?_ | refine stepE (e_alloc rfl rfl rfl) ?_)
  refine call_ Tryz.func48 rfl rfl hv rfl (by repeat (first | exact .refl _ | apply Les.cons | exact .nil)) rfl ?_
  repeat (first | refine seq_ ?_ | refine region_ ?_ | refine nil_ ?_ | refine ret_ ?_ | refine cond_t rfl ?_ | refine stepY (y_not rfl) rfl ?_ | refine stepY (y_build rfl rfl rfl) rfl ?_ | refine stepE (e_store rfl rfl rfl rfl rfl rfl rfl) ?_)
  ((apply fin_r); (repeat (first | exact .nil | exact .agg rfl rfl rfl | apply ResL.cons)); (repeat (first | exact .refl _ | exact .nil _ _ | apply Le.ag | apply Les.cons | exact .nil)))
theorem RNeg_e (p : Bool) (l : List Int) (h : vldB p l = false) : Con Tryz.prog 71 [AV p l] (FIV 0) := by
  refine con_of Tryz.func71 rfl rfl rfl rfl rfl ?_
  have hv := RValid_c p l
  rw [h] at hv
  repeat (first | refine seq_ ?_ | refine region_ ?_ | refine nil_ ?_ | refine stepY (y_loadA rfl rfl rfl) rfl ?_ | refine stepE (e_box rfl rfl rfl rfl rfl rfl) ?_ | refine stepE (e_alloc rfl rfl rfl) ?_)
  refine call_ Tryz.func53 rfl rfl hv rfl (by repeat (first | exact .refl _ | apply Les.cons | exact .nil)) rfl ?_
  repeat (first | refine seq_ ?_ | refine region_ ?_ | refine nil_ ?_ | refine ret_ ?_ | refine cond_t rfl ?_ | refine stepY (y_not rfl) rfl ?_ | refine stepY (y_build rfl rfl rfl) rfl ?_ | refine stepE (e_store rfl rfl rfl rfl rfl rfl rfl) ?_)
  ((apply fin_r); (repeat (first | exact .nil | exact .agg rfl rfl rfl | apply ResL.cons)); (repeat (first | exact .refl _ | exact .nil _ _ | apply Le.ag | apply Les.cons | exact .nil)))
end Go.Av

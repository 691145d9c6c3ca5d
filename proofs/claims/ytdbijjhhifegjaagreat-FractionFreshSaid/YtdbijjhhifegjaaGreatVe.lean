/- Contracts behind a law: no conditions beyond those in each statement. -/
import Derived.Test.YtdbijjhhifegjaaGreatVd
set_option maxHeartbeats 16000000
set_option exponentiation.threshold 100000
set_option maxRecDepth 100000
set_option linter.unusedVariables false
set_option linter.unusedSimpArgs false
namespace Go.Av
open Go Go.Proofs Go.RowKit
abbrev aF (p : Bool) (l : List Int) (q : Bool) (k : List Int) : List PV := [Bo p, .si false .u32 l, Bo q, .si false .u32 k]
abbrev tF (p : Bool) (l : List Int) (q : Bool) (k : List Int) : List PV := [Bo p, .si true .u32 l, Bo q, .si true .u32 k]
theorem FFresh_c (p q : Bool) (l k : List Int) (p' q' : Bool) (l' k' : List Int) (hl : wf l) (hk : wf k) (hl' : wf l') (hk' : wf k') : Con Tryz.prog 3 [AF p l q k, AF p' l' q' k'] (Bo true) := by
  have t1 := tiny_c p l q k
  have t2 := tiny_c p' l' q' k'
  have v1 := RFValid_c p l q k hl hk
  have v2 := RFValid_c p' l' q' k' hl' hk'
  have h9 := exampleHolds_c
  refine con_of Tryz.func3 rfl rfl rfl rfl rfl ?_
  by_cases c1 : l.length ≤ 3 ∧ k.length ≤ 3
  · rw [decide_eq_true c1] at t1
    by_cases c2 : l'.length ≤ 3 ∧ k'.length ≤ 3
    · rw [decide_eq_true c2] at t2
      cases e1 : vldF p l q k with
      | false =>
        rw [e1] at v1
        repeat (first | refine seq_ ?_ | refine region_ ?_ | refine nil_ ?_ | refine stepY (y_assign rfl) rfl ?_ | refine stepY (y_loadA rfl rfl rfl) rfl ?_ | refine stepE (e_box rfl rfl rfl rfl rfl rfl) ?_)
        refine call_ Tryz.func4 rfl rfl (t1) rfl (by repeat (first | exact .refl _ | apply Les.cons | exact .nil)) rfl ?_
        repeat (first | refine guard_t rfl rfl rfl ?_ | refine stepY (y_move rfl) rfl ?_ | refine stepY (y_loadA rfl rfl rfl) rfl ?_ | refine stepY (y_not rfl) rfl ?_)
        refine call_ Tryz.func4 rfl rfl (t2) rfl (by repeat (first | exact .refl _ | apply Les.cons | exact .nil)) rfl ?_
        repeat (first | refine guard_t rfl rfl rfl ?_ | refine stepY (y_move rfl) rfl ?_ | refine stepY (y_loadA rfl rfl rfl) rfl ?_ | refine stepY (y_not rfl) rfl ?_ | refine stepY (y_pick_f rfl rfl) rfl ?_)
        refine call_ Tryz.func5 rfl rfl (v1) rfl (by repeat (first | exact .refl _ | apply Les.cons | exact .nil)) rfl ?_
        repeat (first | refine seq_ ?_ | refine region_ ?_ | refine nil_ ?_ | refine cond_t rfl ?_ | refine guard_t rfl rfl rfl ?_ | refine guard_f rfl rfl rfl rfl ?_ | refine stepY (y_move rfl) rfl ?_ | refine stepY (y_not rfl) rfl ?_ | (first | refine stepY (y_pick_t rfl rfl) rfl ?_ | refine stepY (y_pick_f rfl rfl) rfl ?_))
        refine call_ Tryz.func6 rfl rfl (h9) rfl (by repeat (exact .nil)) rfl ?_
        repeat (first | refine nil_ ?_ | refine ret_ ?_ | refine stepY (y_assign rfl) rfl ?_)
        ((apply fin_r); (repeat (first | exact .nil | exact .tmp rfl | apply ResL.cons)); (repeat (exact .refl _)))
      | true =>
        rw [e1] at v1
        cases e2 : vldF p' l' q' k' with
        | false =>
          rw [e2] at v2
          repeat (first | refine seq_ ?_ | refine region_ ?_ | refine nil_ ?_ | refine stepY (y_assign rfl) rfl ?_ | refine stepY (y_loadA rfl rfl rfl) rfl ?_ | refine stepE (e_box rfl rfl rfl rfl rfl rfl) ?_)
          refine call_ Tryz.func4 rfl rfl (t1) rfl (by repeat (first | exact .refl _ | apply Les.cons | exact .nil)) rfl ?_
          repeat (first | refine guard_t rfl rfl rfl ?_ | refine stepY (y_move rfl) rfl ?_ | refine stepY (y_loadA rfl rfl rfl) rfl ?_ | refine stepY (y_not rfl) rfl ?_)
          refine call_ Tryz.func4 rfl rfl (t2) rfl (by repeat (first | exact .refl _ | apply Les.cons | exact .nil)) rfl ?_
          repeat (first | refine guard_t rfl rfl rfl ?_ | refine stepY (y_move rfl) rfl ?_ | refine stepY (y_loadA rfl rfl rfl) rfl ?_ | refine stepY (y_not rfl) rfl ?_ | refine stepY (y_pick_f rfl rfl) rfl ?_)
          refine call_ Tryz.func5 rfl rfl (v1) rfl (by repeat (first | exact .refl _ | apply Les.cons | exact .nil)) rfl ?_
          repeat (first | refine guard_t rfl rfl rfl ?_ | refine stepY (y_move rfl) rfl ?_ | refine stepY (y_loadA rfl rfl rfl) rfl ?_ | refine stepY (y_not rfl) rfl ?_ | refine stepY (y_pick_f rfl rfl) rfl ?_)
          refine call_ Tryz.func5 rfl rfl (v2) rfl (by repeat (first | exact .refl _ | apply Les.cons | exact .nil)) rfl ?_
          repeat (first | refine seq_ ?_ | refine region_ ?_ | refine nil_ ?_ | refine cond_t rfl ?_ | refine guard_t rfl rfl rfl ?_ | refine stepY (y_not rfl) rfl ?_ | refine stepY (y_pick_f rfl rfl) rfl ?_)
          refine call_ Tryz.func6 rfl rfl (h9) rfl (by repeat (exact .nil)) rfl ?_
          repeat (first | refine nil_ ?_ | refine ret_ ?_ | refine stepY (y_assign rfl) rfl ?_)
          ((apply fin_r); (repeat (first | exact .nil | exact .tmp rfl | apply ResL.cons)); (repeat (exact .refl _)))
        | true =>
          rw [e2] at v2
          have cp1 := Copy_c p q l k (by omega) (by omega)
          have cp2 := Copy_c p' q' l' k' (by omega) (by omega)
          have o0 := of_c 0 1 (by omega) (by omega) (by omega)
          have o1 := of_c 1 1 (by omega) (by omega) (by omega)
          have ok0 : okQ (Q_ 0 1) := okQ_div 0 1 (by omega) (by omega) (by omega)
          have ok1 : okQ (Q_ 1 1) := okQ_div 1 1 (by omega) (by omega) (by omega)
          have hne : Q_ 1 1 ≠ 0 := by decide
          repeat (first | refine seq_ ?_ | refine region_ ?_ | refine nil_ ?_ | refine stepY (y_assign rfl) rfl ?_ | refine stepY (y_loadA rfl rfl rfl) rfl ?_ | refine stepE (e_box rfl rfl rfl rfl rfl rfl) ?_)
          refine call_ Tryz.func4 rfl rfl (t1) rfl (by repeat (first | exact .refl _ | apply Les.cons | exact .nil)) rfl ?_
          repeat (first | refine guard_t rfl rfl rfl ?_ | refine stepY (y_move rfl) rfl ?_ | refine stepY (y_loadA rfl rfl rfl) rfl ?_ | refine stepY (y_not rfl) rfl ?_)
          refine call_ Tryz.func4 rfl rfl (t2) rfl (by repeat (first | exact .refl _ | apply Les.cons | exact .nil)) rfl ?_
          repeat (first | refine guard_t rfl rfl rfl ?_ | refine stepY (y_move rfl) rfl ?_ | refine stepY (y_loadA rfl rfl rfl) rfl ?_ | refine stepY (y_not rfl) rfl ?_ | refine stepY (y_pick_f rfl rfl) rfl ?_)
          refine call_ Tryz.func5 rfl rfl (v1) rfl (by repeat (first | exact .refl _ | apply Les.cons | exact .nil)) rfl ?_
          repeat (first | refine guard_t rfl rfl rfl ?_ | refine stepY (y_move rfl) rfl ?_ | refine stepY (y_loadA rfl rfl rfl) rfl ?_ | refine stepY (y_not rfl) rfl ?_ | refine stepY (y_pick_f rfl rfl) rfl ?_)
          refine call_ Tryz.func5 rfl rfl (v2) rfl (by repeat (first | exact .refl _ | apply Les.cons | exact .nil)) rfl ?_
          repeat (first | refine seq_ ?_ | refine nil_ ?_ | refine skip_ ?_ | refine cond_f rfl ?_ | refine guard_t rfl rfl rfl ?_ | refine stepY (y_not rfl) rfl ?_ | refine stepY (y_pick_f rfl rfl) rfl ?_)
          refine cut_ [(2, .ptr 2 0), (3, .ptr 3 0), (5, .ptr 5 0), (6, .ptr 6 0)] [(2, .bx (aF p l q k)), (3, .bx (aF p' l' q' k')), (5, .bx (tF p l q k)), (6, .bx (tF p' l' q' k'))] ?_ ?_
          · refine xDraw 1000 [2, 3] mixed ?_
            refine xY (i := 0) (op := .load _ _) rfl (by (exact y_loadA rfl rfl rfl)) rfl rfl rfl rfl (by kernel_rfl) ?_
            refine xY (i := 2) (op := .load _ _) rfl (by (exact y_loadA rfl rfl rfl)) rfl rfl rfl rfl (by kernel_rfl) ?_
            refine xAll (rs := [1, 4, 5]) (by kernel_rfl) rfl ⟨?_, ?_, ?_, trivial⟩
            · (refine iC rfl Tryz.func7 rfl rfl (cp1) rfl ?_ rfl rfl ?_; (focus ((repeat (first | exact .refl _ | apply Les.cons | exact .nil)); done)))
              refine xAll (rs := [3, 4, 5]) (by kernel_rfl) rfl ⟨?_, ?_, ?_, trivial⟩
              · (refine iC rfl Tryz.func7 rfl rfl (cp2) rfl ?_ rfl rfl ?_; (focus ((repeat (first | exact .refl _ | apply Les.cons | exact .nil)); done)))
                refine xAll (rs := [4, 5]) (by kernel_rfl) rfl ⟨?_, ?_, trivial⟩
                · (refine iE rfl (e_alloc rfl rfl rfl) rfl rfl ?_)
                  refine xAll (rs := [5]) (by kernel_rfl) rfl ⟨?_, trivial⟩
                  · (refine iE rfl (e_alloc rfl rfl rfl) rfl rfl ?_)
                    refine xAll (rs := [6]) (by kernel_rfl) rfl ⟨?_, trivial⟩
                    · (refine iE rfl (e_store rfl rfl rfl rfl rfl rfl rfl) rfl rfl ?_)
                      refine xAll (rs := [7]) (by kernel_rfl) rfl ⟨?_, trivial⟩
                      · (refine iE rfl (e_store rfl rfl rfl rfl rfl rfl rfl) rfl rfl ?_)
                        exact xEnd (by kernel_rfl) ⟨rfl, by (repeat (first | exact sub_nil | refine sub_cons rfl ?_)), by (repeat (first | exact subH_nil | refine subH_cons rfl ?_))⟩
                · (refine iE rfl (e_alloc rfl rfl rfl) rfl rfl ?_)
                  refine xAll (rs := [4]) (by kernel_rfl) rfl ⟨?_, trivial⟩
                  · (refine iE rfl (e_alloc rfl rfl rfl) rfl rfl ?_)
                    refine xAll (rs := [6]) (by kernel_rfl) rfl ⟨?_, trivial⟩
                    · (refine iE rfl (e_store rfl rfl rfl rfl rfl rfl rfl) rfl rfl ?_)
                      refine xAll (rs := [7]) (by kernel_rfl) rfl ⟨?_, trivial⟩
                      · (refine iE rfl (e_store rfl rfl rfl rfl rfl rfl rfl) rfl rfl ?_)
                        exact xEnd (by kernel_rfl) ⟨rfl, by (repeat (first | exact sub_nil | refine sub_cons rfl ?_)), by (repeat (first | exact subH_nil | refine subH_cons rfl ?_))⟩
              · (refine iE rfl (e_alloc rfl rfl rfl) rfl rfl ?_)
                refine xAll (rs := [3, 5]) (by kernel_rfl) rfl ⟨?_, ?_, trivial⟩
                · (refine iC rfl Tryz.func7 rfl rfl (cp2) rfl ?_ rfl rfl ?_; (focus ((repeat (first | exact .refl _ | apply Les.cons | exact .nil)); done)))
                  refine xAll (rs := [5]) (by kernel_rfl) rfl ⟨?_, trivial⟩
                  · (refine iE rfl (e_alloc rfl rfl rfl) rfl rfl ?_)
                    refine xAll (rs := [6]) (by kernel_rfl) rfl ⟨?_, trivial⟩
                    · (refine iE rfl (e_store rfl rfl rfl rfl rfl rfl rfl) rfl rfl ?_)
                      refine xAll (rs := [7]) (by kernel_rfl) rfl ⟨?_, trivial⟩
                      · (refine iE rfl (e_store rfl rfl rfl rfl rfl rfl rfl) rfl rfl ?_)
                        exact xEnd (by kernel_rfl) ⟨rfl, by (repeat (first | exact sub_nil | refine sub_cons rfl ?_)), by (repeat (first | exact subH_nil | refine subH_cons rfl ?_))⟩
                · (refine iE rfl (e_alloc rfl rfl rfl) rfl rfl ?_)
                  refine xAll (rs := [3]) (by kernel_rfl) rfl ⟨?_, trivial⟩
                  · (refine iC rfl Tryz.func7 rfl rfl (cp2) rfl ?_ rfl rfl ?_; (focus ((repeat (first | exact .refl _ | apply Les.cons | exact .nil)); done)))
                    refine xAll (rs := [6]) (by kernel_rfl) rfl ⟨?_, trivial⟩
                    · (refine iE rfl (e_store rfl rfl rfl rfl rfl rfl rfl) rfl rfl ?_)
                      refine xAll (rs := [7]) (by kernel_rfl) rfl ⟨?_, trivial⟩
                      · (refine iE rfl (e_store rfl rfl rfl rfl rfl rfl rfl) rfl rfl ?_)
                        exact xEnd (by kernel_rfl) ⟨rfl, by (repeat (first | exact sub_nil | refine sub_cons rfl ?_)), by (repeat (first | exact subH_nil | refine subH_cons rfl ?_))⟩
              · (refine iE rfl (e_alloc rfl rfl rfl) rfl rfl ?_)
                refine xAll (rs := [3, 4]) (by kernel_rfl) rfl ⟨?_, ?_, trivial⟩
                · (refine iC rfl Tryz.func7 rfl rfl (cp2) rfl ?_ rfl rfl ?_; (focus ((repeat (first | exact .refl _ | apply Les.cons | exact .nil)); done)))
                  refine xAll (rs := [4]) (by kernel_rfl) rfl ⟨?_, trivial⟩
                  · (refine iE rfl (e_alloc rfl rfl rfl) rfl rfl ?_)
                    refine xAll (rs := [6]) (by kernel_rfl) rfl ⟨?_, trivial⟩
                    · (refine iE rfl (e_store rfl rfl rfl rfl rfl rfl rfl) rfl rfl ?_)
                      refine xAll (rs := [7]) (by kernel_rfl) rfl ⟨?_, trivial⟩
                      · (refine iE rfl (e_store rfl rfl rfl rfl rfl rfl rfl) rfl rfl ?_)
                        exact xEnd (by kernel_rfl) ⟨rfl, by (repeat (first | exact sub_nil | refine sub_cons rfl ?_)), by (repeat (first | exact subH_nil | refine subH_cons rfl ?_))⟩
                · (refine iE rfl (e_alloc rfl rfl rfl) rfl rfl ?_)
                  refine xAll (rs := [3]) (by kernel_rfl) rfl ⟨?_, trivial⟩
                  · (refine iC rfl Tryz.func7 rfl rfl (cp2) rfl ?_ rfl rfl ?_; (focus ((repeat (first | exact .refl _ | apply Les.cons | exact .nil)); done)))
                    refine xAll (rs := [6]) (by kernel_rfl) rfl ⟨?_, trivial⟩
                    · (refine iE rfl (e_store rfl rfl rfl rfl rfl rfl rfl) rfl rfl ?_)
                      refine xAll (rs := [7]) (by kernel_rfl) rfl ⟨?_, trivial⟩
                      · (refine iE rfl (e_store rfl rfl rfl rfl rfl rfl rfl) rfl rfl ?_)
                        exact xEnd (by kernel_rfl) ⟨rfl, by (repeat (first | exact sub_nil | refine sub_cons rfl ?_)), by (repeat (first | exact subH_nil | refine subH_cons rfl ?_))⟩
            · (refine iE rfl (e_alloc rfl rfl rfl) rfl rfl ?_)
              refine xAll (rs := [1, 5]) (by kernel_rfl) rfl ⟨?_, ?_, trivial⟩
              · (refine iC rfl Tryz.func7 rfl rfl (cp1) rfl ?_ rfl rfl ?_; (focus ((repeat (first | exact .refl _ | apply Les.cons | exact .nil)); done)))
                refine xAll (rs := [3, 5]) (by kernel_rfl) rfl ⟨?_, ?_, trivial⟩
                · (refine iC rfl Tryz.func7 rfl rfl (cp2) rfl ?_ rfl rfl ?_; (focus ((repeat (first | exact .refl _ | apply Les.cons | exact .nil)); done)))
                  refine xAll (rs := [5]) (by kernel_rfl) rfl ⟨?_, trivial⟩
                  · (refine iE rfl (e_alloc rfl rfl rfl) rfl rfl ?_)
                    refine xAll (rs := [6]) (by kernel_rfl) rfl ⟨?_, trivial⟩
                    · (refine iE rfl (e_store rfl rfl rfl rfl rfl rfl rfl) rfl rfl ?_)
                      refine xAll (rs := [7]) (by kernel_rfl) rfl ⟨?_, trivial⟩
                      · (refine iE rfl (e_store rfl rfl rfl rfl rfl rfl rfl) rfl rfl ?_)
                        exact xEnd (by kernel_rfl) ⟨rfl, by (repeat (first | exact sub_nil | refine sub_cons rfl ?_)), by (repeat (first | exact subH_nil | refine subH_cons rfl ?_))⟩
                · (refine iE rfl (e_alloc rfl rfl rfl) rfl rfl ?_)
                  refine xAll (rs := [3]) (by kernel_rfl) rfl ⟨?_, trivial⟩
                  · (refine iC rfl Tryz.func7 rfl rfl (cp2) rfl ?_ rfl rfl ?_; (focus ((repeat (first | exact .refl _ | apply Les.cons | exact .nil)); done)))
                    refine xAll (rs := [6]) (by kernel_rfl) rfl ⟨?_, trivial⟩
                    · (refine iE rfl (e_store rfl rfl rfl rfl rfl rfl rfl) rfl rfl ?_)
                      refine xAll (rs := [7]) (by kernel_rfl) rfl ⟨?_, trivial⟩
                      · (refine iE rfl (e_store rfl rfl rfl rfl rfl rfl rfl) rfl rfl ?_)
                        exact xEnd (by kernel_rfl) ⟨rfl, by (repeat (first | exact sub_nil | refine sub_cons rfl ?_)), by (repeat (first | exact subH_nil | refine subH_cons rfl ?_))⟩
              · (refine iE rfl (e_alloc rfl rfl rfl) rfl rfl ?_)
                refine xAll (rs := [1]) (by kernel_rfl) rfl ⟨?_, trivial⟩
                · (refine iC rfl Tryz.func7 rfl rfl (cp1) rfl ?_ rfl rfl ?_; (focus ((repeat (first | exact .refl _ | apply Les.cons | exact .nil)); done)))
                  refine xAll (rs := [3]) (by kernel_rfl) rfl ⟨?_, trivial⟩
                  · (refine iC rfl Tryz.func7 rfl rfl (cp2) rfl ?_ rfl rfl ?_; (focus ((repeat (first | exact .refl _ | apply Les.cons | exact .nil)); done)))
                    refine xAll (rs := [6]) (by kernel_rfl) rfl ⟨?_, trivial⟩
                    · (refine iE rfl (e_store rfl rfl rfl rfl rfl rfl rfl) rfl rfl ?_)
                      refine xAll (rs := [7]) (by kernel_rfl) rfl ⟨?_, trivial⟩
                      · (refine iE rfl (e_store rfl rfl rfl rfl rfl rfl rfl) rfl rfl ?_)
                        exact xEnd (by kernel_rfl) ⟨rfl, by (repeat (first | exact sub_nil | refine sub_cons rfl ?_)), by (repeat (first | exact subH_nil | refine subH_cons rfl ?_))⟩
            · (refine iE rfl (e_alloc rfl rfl rfl) rfl rfl ?_)
              refine xAll (rs := [1, 4]) (by kernel_rfl) rfl ⟨?_, ?_, trivial⟩
              · (refine iC rfl Tryz.func7 rfl rfl (cp1) rfl ?_ rfl rfl ?_; (focus ((repeat (first | exact .refl _ | apply Les.cons | exact .nil)); done)))
                refine xAll (rs := [3, 4]) (by kernel_rfl) rfl ⟨?_, ?_, trivial⟩
                · (refine iC rfl Tryz.func7 rfl rfl (cp2) rfl ?_ rfl rfl ?_; (focus ((repeat (first | exact .refl _ | apply Les.cons | exact .nil)); done)))
                  refine xAll (rs := [4]) (by kernel_rfl) rfl ⟨?_, trivial⟩
                  · (refine iE rfl (e_alloc rfl rfl rfl) rfl rfl ?_)
                    refine xAll (rs := [6]) (by kernel_rfl) rfl ⟨?_, trivial⟩
                    · (refine iE rfl (e_store rfl rfl rfl rfl rfl rfl rfl) rfl rfl ?_)
                      refine xAll (rs := [7]) (by kernel_rfl) rfl ⟨?_, trivial⟩
                      · (refine iE rfl (e_store rfl rfl rfl rfl rfl rfl rfl) rfl rfl ?_)
                        exact xEnd (by kernel_rfl) ⟨rfl, by (repeat (first | exact sub_nil | refine sub_cons rfl ?_)), by (repeat (first | exact subH_nil | refine subH_cons rfl ?_))⟩
                · (refine iE rfl (e_alloc rfl rfl rfl) rfl rfl ?_)
                  refine xAll (rs := [3]) (by kernel_rfl) rfl ⟨?_, trivial⟩
                  · (refine iC rfl Tryz.func7 rfl rfl (cp2) rfl ?_ rfl rfl ?_; (focus ((repeat (first | exact .refl _ | apply Les.cons | exact .nil)); done)))
                    refine xAll (rs := [6]) (by kernel_rfl) rfl ⟨?_, trivial⟩
                    · (refine iE rfl (e_store rfl rfl rfl rfl rfl rfl rfl) rfl rfl ?_)
                      refine xAll (rs := [7]) (by kernel_rfl) rfl ⟨?_, trivial⟩
                      · (refine iE rfl (e_store rfl rfl rfl rfl rfl rfl rfl) rfl rfl ?_)
                        exact xEnd (by kernel_rfl) ⟨rfl, by (repeat (first | exact sub_nil | refine sub_cons rfl ?_)), by (repeat (first | exact subH_nil | refine subH_cons rfl ?_))⟩
              · (refine iE rfl (e_alloc rfl rfl rfl) rfl rfl ?_)
                refine xAll (rs := [1]) (by kernel_rfl) rfl ⟨?_, trivial⟩
                · (refine iC rfl Tryz.func7 rfl rfl (cp1) rfl ?_ rfl rfl ?_; (focus ((repeat (first | exact .refl _ | apply Les.cons | exact .nil)); done)))
                  refine xAll (rs := [3]) (by kernel_rfl) rfl ⟨?_, trivial⟩
                  · (refine iC rfl Tryz.func7 rfl rfl (cp2) rfl ?_ rfl rfl ?_; (focus ((repeat (first | exact .refl _ | apply Les.cons | exact .nil)); done)))
                    refine xAll (rs := [6]) (by kernel_rfl) rfl ⟨?_, trivial⟩
                    · (refine iE rfl (e_store rfl rfl rfl rfl rfl rfl rfl) rfl rfl ?_)
                      refine xAll (rs := [7]) (by kernel_rfl) rfl ⟨?_, trivial⟩
                      · (refine iE rfl (e_store rfl rfl rfl rfl rfl rfl rfl) rfl rfl ?_)
                        exact xEnd (by kernel_rfl) ⟨rfl, by (repeat (first | exact sub_nil | refine sub_cons rfl ?_)), by (repeat (first | exact subH_nil | refine subH_cons rfl ?_))⟩
          refine seq_ (cut_ [(2, .ptr 2 0), (3, .ptr 3 0), (5, .ptr 5 0), (6, .ptr 6 0), (7, .ptr 7 0), (8, .ptr 8 0)] [(2, .bx (aF p l q k)), (3, .bx (aF p' l' q' k')), (5, .bx (tF p l q k)), (6, .bx (tF p' l' q' k')), (7, .bx (tF (decide ((Q_ 0 1).num < 0)) (limbs (Q_ 0 1).num.natAbs) false (limbs (Q_ 0 1).den))), (8, .bx (tF (decide ((Q_ 1 1).num < 0)) (limbs (Q_ 1 1).num.natAbs) false (limbs (Q_ 1 1).den)))] ?_ ?_)
          · repeat (refine region_ ?_)
            refine call_ Tryz.func8 rfl rfl (o0) rfl (by repeat (first | exact .refl _ | apply Les.cons | exact .nil)) rfl ?_
            skip
            refine call_ Tryz.func8 rfl rfl (o1) rfl (by repeat (first | exact .refl _ | apply Les.cons | exact .nil)) rfl ?_
            repeat (first | refine nil_ ?_ | refine stepE (e_alloc rfl rfl rfl) ?_ | refine stepE (e_store rfl rfl rfl rfl rfl rfl rfl) ?_)
            exact ⟨rfl, by (repeat (first | exact sub_nil | refine sub_cons rfl ?_)), by (repeat (first | exact subH_nil | refine subH_cons rfl ?_))⟩
          obtain ⟨x, hx, rfl, rfl, rfl, rfl⟩ := vldF_q hl hk e1
          obtain ⟨y, hy, rfl, rfl, rfl, rfl⟩ := vldF_q hl' hk' e2
          generalize Q_ 0 1 = zr at *
          generalize Q_ 1 1 = on at *
          refine restart_ [2, 3, 5, 6, 7, 8] (E1 := [(2, .ro (.ag (aF (decide (x.num < 0)) (limbs x.num.natAbs) false (limbs x.den)))), (3, .ro (.ag (aF (decide (y.num < 0)) (limbs y.num.natAbs) false (limbs y.den)))), (5, .ro (.ag (aF (decide (x.num < 0)) (limbs x.num.natAbs) false (limbs x.den)))), (6, .ro (.ag (aF (decide (y.num < 0)) (limbs y.num.natAbs) false (limbs y.den)))), (7, .ro (.ag (aF (decide (zr.num < 0)) (limbs zr.num.natAbs) false (limbs zr.den)))), (8, .ro (.ag (aF (decide (on.num < 0)) (limbs on.num.natAbs) false (limbs on.den))))]) 4 (.bool true) rfl ?_ (fun e he => ⟨he, _, .cons (.tmp rfl) .nil, .refl _⟩)
          obtain ⟨_, _, hxd, _, b1, b2⟩ := vG_bd (vG_q hx)
          have hN := New_s (decide (x.num < 0)) false x.num.natAbs x.den b1 b2 hxd
          have hA := FAdd_q x zr hx ok0
          have hS := FSub_q x zr hx ok0
          have hM := FMul_q x on hx ok1
          have hD := FDiv_q y on hy ok1 hne
          have hSm := Simplest_q x x hx hx (Rat.le_refl)
          have hF := FFloor_q x hx
          have hR := FRound_q y hy
          have s1 := Same_m (decide (x.num < 0)) false x.num.natAbs x.den
          have s2 := Same_m (decide (y.num < 0)) false y.num.natAbs y.den
          obtain ⟨P1, l1, Q1, k1, r1, g1⟩ := resQ_sh (mkRat (sgn (decide (x.num < 0) != false) x.num.natAbs) x.den)
          obtain ⟨P2, l2, Q2, k2, r2, g2⟩ := resQ_sh (x + zr)
          obtain ⟨P3, l3, Q3, k3, r3, g3⟩ := resQ_sh (x - zr)
          obtain ⟨P4, l4, Q4, k4, r4, g4⟩ := resQ_sh (x * on)
          obtain ⟨P5, l5, Q5, k5, r5, g5⟩ := resQ_sh (y / on)
          rw [g1] at hN
          rw [g2] at hA
          rw [g3] at hS
          rw [g4] at hM
          rw [g5] at hD
          clear g1 g2 g3 g4 g5
          generalize smp x x = sm1 at *
          generalize x.floor = fl at *
          generalize rnd y = rd1 at *
          have hgood : Good ([] ++ [.ag (tF P1 l1 Q1 k1), .ag (tF P2 l2 Q2 k2), .ag (tF P3 l3 Q3 k3), .ag (tF P4 l4 Q4 k4), .ag (tF P5 l5 Q5 k5), .ag (tF (decide (sm1.num < 0)) (limbs sm1.num.natAbs) false (limbs sm1.den))]) := by
            intro e he
            simp only [List.nil_append, List.mem_cons, List.not_mem_nil, or_false] at he
            rcases he with rfl | rfl | rfl | rfl | rfl | rfl <;> exact ⟨_, _, _, _, rfl⟩
          repeat (first | refine seq_ ?_ | refine region_ ?_ | refine nil_ ?_ | refine stepY (y_assign rfl) rfl ?_ | refine stepY (y_load_ro rfl rfl rfl) rfl ?_ | (first | refine stepY (y_fieldAddr_ro0 rfl) rfl ?_ | refine stepY (y_fieldAddr_ro2 rfl) rfl ?_) | refine stepE (e_bs_vs rfl rfl rfl rfl rfl rfl) ?_)
          refine call_ Tryz.func9 rfl rfl (hN) rfl (by repeat (first | exact .refl _ | apply Les.cons | exact .nil)) rfl ?_
          repeat (first | refine seq_ ?_ | refine region_ ?_ | refine nil_ ?_ | refine stepY (y_move rfl) rfl ?_ | refine stepY (y_assign rfl) rfl ?_ | refine stepY (y_load_ro rfl rfl rfl) rfl ?_ | refine stepY (y_extract rfl rfl) rfl ?_ | refine stepE (e_alloc rfl rfl rfl) ?_ | refine stepE (e_store rfl rfl rfl rfl rfl rfl rfl) ?_)
          refine call_ Tryz.func10 rfl rfl (hA) rfl (by repeat (first | exact .refl _ | apply Les.cons | exact .nil)) rfl ?_
          repeat (first | refine seq_ ?_ | refine region_ ?_ | refine nil_ ?_ | refine stepY (y_move rfl) rfl ?_ | refine stepY (y_assign rfl) rfl ?_ | refine stepY (y_load_ro rfl rfl rfl) rfl ?_ | refine stepY (y_extract rfl rfl) rfl ?_ | refine stepE (e_alloc rfl rfl rfl) ?_ | refine stepE (e_store rfl rfl rfl rfl rfl rfl rfl) ?_)
          refine call_ Tryz.func11 rfl rfl (hS) rfl (by repeat (first | exact .refl _ | apply Les.cons | exact .nil)) rfl ?_
          repeat (first | refine seq_ ?_ | refine region_ ?_ | refine nil_ ?_ | refine stepY (y_move rfl) rfl ?_ | refine stepY (y_assign rfl) rfl ?_ | refine stepY (y_load_ro rfl rfl rfl) rfl ?_ | refine stepY (y_extract rfl rfl) rfl ?_ | refine stepE (e_alloc rfl rfl rfl) ?_ | refine stepE (e_store rfl rfl rfl rfl rfl rfl rfl) ?_)
          refine call_ Tryz.func12 rfl rfl (hM) rfl (by repeat (first | exact .refl _ | apply Les.cons | exact .nil)) rfl ?_
          repeat (first | refine seq_ ?_ | refine region_ ?_ | refine nil_ ?_ | refine stepY (y_move rfl) rfl ?_ | refine stepY (y_assign rfl) rfl ?_ | refine stepY (y_load_ro rfl rfl rfl) rfl ?_ | refine stepY (y_extract rfl rfl) rfl ?_ | refine stepE (e_alloc rfl rfl rfl) ?_ | refine stepE (e_store rfl rfl rfl rfl rfl rfl rfl) ?_)
          refine call_ Tryz.func13 rfl rfl (hD) rfl (by repeat (first | exact .refl _ | apply Les.cons | exact .nil)) rfl ?_
          repeat (first | refine seq_ ?_ | refine region_ ?_ | refine nil_ ?_ | refine stepY (y_move rfl) rfl ?_ | refine stepY (y_assign rfl) rfl ?_ | refine stepY (y_load_ro rfl rfl rfl) rfl ?_ | refine stepY (y_extract rfl rfl) rfl ?_ | refine stepE (e_alloc rfl rfl rfl) ?_ | refine stepE (e_store rfl rfl rfl rfl rfl rfl rfl) ?_)
          refine call_ Tryz.func14 rfl rfl (hSm) rfl (by repeat (first | exact .refl _ | apply Les.cons | exact .nil)) rfl ?_
          repeat (first | refine seq_ ?_ | refine region_ ?_ | refine nil_ ?_ | refine stepY (y_move rfl) rfl ?_ | refine stepY (y_assign rfl) rfl ?_ | refine stepY (y_loadA rfl rfl rfl) rfl ?_ | refine stepY (y_extract rfl rfl) rfl ?_ | refine stepE (e_alloc rfl rfl rfl) ?_ | refine stepE (e_store rfl rfl rfl rfl rfl rfl rfl) ?_ | refine stepE (e_bs_vs rfl rfl rfl rfl rfl rfl) ?_)
          refine stepE (e_app_vs (es := []) (es2 := [.ag (tF P1 l1 Q1 k1), .ag (tF P2 l2 Q2 k2), .ag (tF P3 l3 Q3 k3), .ag (tF P4 l4 Q4 k4), .ag (tF P5 l5 Q5 k5), .ag (tF (decide (sm1.num < 0)) (limbs sm1.num.natAbs) false (limbs sm1.den))]) rfl rfl rfl (src_vs rfl rfl) (by simp only [List.length_cons, List.length_nil]; omega) rfl rfl) ?_
          repeat (first | refine seq_ ?_ | refine region_ ?_ | refine nil_ ?_ | refine stepY (y_assign rfl) rfl ?_ | refine stepY (y_load_ro rfl rfl rfl) rfl ?_)
          refine call_ Tryz.func15 rfl rfl (hF) rfl (by repeat (first | exact .refl _ | apply Les.cons | exact .nil)) rfl ?_
          repeat (first | refine seq_ ?_ | refine region_ ?_ | refine nil_ ?_ | refine stepY (y_move rfl) rfl ?_ | refine stepY (y_assign rfl) rfl ?_ | refine stepY (y_load_ro rfl rfl rfl) rfl ?_ | refine stepY (y_extract rfl rfl) rfl ?_ | refine stepE (e_alloc rfl rfl rfl) ?_ | refine stepE (e_store rfl rfl rfl rfl rfl rfl rfl) ?_)
          refine call_ Tryz.func16 rfl rfl (hR) rfl (by repeat (first | exact .refl _ | apply Les.cons | exact .nil)) rfl ?_
          repeat (first | refine seq_ ?_ | refine region_ ?_ | refine nil_ ?_ | refine stepY (y_move rfl) rfl ?_ | refine stepY (y_assign rfl) rfl ?_ | refine stepY (y_loadA rfl rfl rfl) rfl ?_ | refine stepY (y_extract rfl rfl) rfl ?_ | refine stepE (e_alloc rfl rfl rfl) ?_ | refine stepE (e_store rfl rfl rfl rfl rfl rfl rfl) ?_)
          have hel : ([] ++ [.ag (tF P1 l1 Q1 k1), .ag (tF P2 l2 Q2 k2), .ag (tF P3 l3 Q3 k3), .ag (tF P4 l4 Q4 k4), .ag (tF P5 l5 Q5 k5), .ag (tF (decide (sm1.num < 0)) (limbs sm1.num.natAbs) false (limbs sm1.den))] : List PV).length = 6 := rfl
          generalize hes : ([] ++ [.ag (tF P1 l1 Q1 k1), .ag (tF P2 l2 Q2 k2), .ag (tF P3 l3 Q3 k3), .ag (tF P4 l4 Q4 k4), .ag (tF P5 l5 Q5 k5), .ag (tF (decide (sm1.num < 0)) (limbs sm1.num.natAbs) false (limbs sm1.den))] : List PV) = es at *
          refine changed2_ [(2, .ro (.ag (aF (decide (x.num < 0)) (limbs x.num.natAbs) false (limbs x.den)))), (3, .ro (.ag (aF (decide (y.num < 0)) (limbs y.num.natAbs) false (limbs y.den)))), (5, .ro (.ag (aF (decide (x.num < 0)) (limbs x.num.natAbs) false (limbs x.den)))), (6, .ro (.ag (aF (decide (y.num < 0)) (limbs y.num.natAbs) false (limbs y.den)))), (9, .vec 52), (24, .ptr 24 0), (110, .p (.ag [Bo (decide (fl < 0)), FM fl.natAbs]))] [(52, .vs 26 4 es), (24, .bx [Bo (decide (rd1 < 0)), FM rd1.natAbs])] rfl (by (repeat (first | exact sub_nil | refine sub_cons rfl ?_))) (by (repeat (first | exact subH_nil | refine subH_cons rfl ?_))) rfl (by simp [wobHB, wobMB, wobsB, wobB, good_wobB hgood]) rfl (fun G hG => ?_)
          obtain ⟨m1, q1, rfl, ⟨es1, rfl, hes1⟩, m2, q2, rfl, ⟨cs, rfl, hcs⟩, rfl⟩ := hG
          simp only [wobs, wob] at hcs
          obtain ⟨u1, z1, rfl, rfl, u2, z2, rfl, ⟨_, lr, _, rfl⟩, rfl⟩ := hcs
          have hgood1 := good_wob hgood hes1
          have hel1 := (wobs_len hes1).trans hel
          repeat (first | refine seq_ ?_ | refine region_ ?_ | refine nil_ ?_ | refine stepY (y_loadA rfl rfl rfl) rfl ?_)
          refine changed2_ [(2, .ro (.ag (aF (decide (x.num < 0)) (limbs x.num.natAbs) false (limbs x.den)))), (3, .ro (.ag (aF (decide (y.num < 0)) (limbs y.num.natAbs) false (limbs y.den)))), (5, .ro (.ag (aF (decide (x.num < 0)) (limbs x.num.natAbs) false (limbs x.den)))), (6, .ro (.ag (aF (decide (y.num < 0)) (limbs y.num.natAbs) false (limbs y.den)))), (9, .vec 52), (112, .p (.ag [Bo (decide (rd1 < 0)), .si true .u32 lr]))] [(52, .vs 26 4 es1)] rfl (by (repeat (first | exact sub_nil | refine sub_cons rfl ?_))) (by (repeat (first | exact subH_nil | refine subH_cons rfl ?_))) rfl (by simp [wobHB, wobMB, good_wobB hgood1]) rfl (fun G hG => ?_)
          obtain ⟨m1, q1, rfl, ⟨es2, rfl, hes2⟩, rfl⟩ := hG
          have hgood2 := good_wob hgood1 hes2
          have hel2 := (wobs_len hes2).trans hel1
          repeat (first | refine seq_ ?_ | refine region_ ?_ | refine nil_ ?_ | refine block_ ?_ | refine stepY (y_assign rfl) rfl ?_)
          refine loop_ (α := Nat × List PV) (fun s => ([(2, .ro (.ag (aF (decide (x.num < 0)) (limbs x.num.natAbs) false (limbs x.den)))), (3, .ro (.ag (aF (decide (y.num < 0)) (limbs y.num.natAbs) false (limbs y.den)))), (5, .ro (.ag (aF (decide (x.num < 0)) (limbs x.num.natAbs) false (limbs x.den)))), (6, .ro (.ag (aF (decide (y.num < 0)) (limbs y.num.natAbs) false (limbs y.den)))), (9, .vec 52), (26, .p (I s.1))], [(52, .vs 26 4 s.2)])) (fun s => s.1 ≤ 6 ∧ s.2.length = 6 ∧ Good s.2) (fun s => 6 - s.1) (0, es2) ⟨by dsimp only; omega, hel2, hgood2⟩ ?_ ?_ ?_
          · (repeat (first | exact sub_nil | refine sub_cons rfl ?_))
          · (repeat (first | exact subH_nil | refine subH_cons rfl ?_))
          rintro ⟨i, fs⟩ ⟨hi, hfl, hfg⟩
          dsimp only at hi hfl hfg ⊢
          by_cases h : i < 6
          · obtain ⟨A1, m1, A2, m2, hgd⟩ := good_at hfg (k := i) (by omega)
            repeat (first | refine seq_ ?_ | refine region_ ?_ | refine nil_ ?_ | refine skip_ ?_ | refine block_ ?_ | refine cond_t rfl ?_ | refine stepY (y_move rfl) rfl ?_ | refine stepY (y_load_vsp rfl rfl (by omega) (by omega) (by assumption) (Nat.le_of_ble_eq_true rfl)) rfl ?_ | refine stepY (y_fieldAddr_vp rfl) rfl ?_ | refine stepY (y_len_vs rfl rfl) rfl ?_ | refine stepY (y_index_vs rfl rfl rfl (by omega) (by omega)) rfl ?_ | refine stepY (y_cmpT rfl rfl rfl (by omega)) rfl ?_)
            refine changed2_ [(2, .ro (.ag (aF (decide (x.num < 0)) (limbs x.num.natAbs) false (limbs x.den)))), (3, .ro (.ag (aF (decide (y.num < 0)) (limbs y.num.natAbs) false (limbs y.den)))), (5, .ro (.ag (aF (decide (x.num < 0)) (limbs x.num.natAbs) false (limbs x.den)))), (6, .ro (.ag (aF (decide (y.num < 0)) (limbs y.num.natAbs) false (limbs y.den)))), (9, .vec 52), (26, .p (I i)), (124, .p (.ag [Bo A1, .si true .u32 m1]))] [(52, .vs 26 4 fs)] rfl (by (repeat (first | exact sub_nil | refine sub_cons rfl ?_))) (by (repeat (first | exact subH_nil | refine subH_cons rfl ?_))) rfl (by simp [wobHB, wobMB, good_wobB hfg]) rfl (fun G hG => ?_)
            obtain ⟨m1', q1, rfl, ⟨fs1, rfl, hfs1⟩, rfl⟩ := hG
            have hfg1 := good_wob hfg hfs1
            have hfl1 := (wobs_len hfs1).trans hfl
            clear hgd
            obtain ⟨B1, n1, B2, n2, hgd⟩ := good_at hfg1 (k := i) (by omega)
            repeat (first | refine region_ ?_ | refine nil_ ?_ | refine stepY (y_move rfl) rfl ?_ | refine stepY (y_load_vsp rfl rfl (by omega) (by omega) (by assumption) (Nat.le_of_ble_eq_true rfl)) rfl ?_ | refine stepY (y_fieldAddr_vp rfl) rfl ?_ | refine stepY (y_index_vs rfl rfl rfl (by omega) (by omega)) rfl ?_)
            refine changed2_ [(2, .ro (.ag (aF (decide (x.num < 0)) (limbs x.num.natAbs) false (limbs x.den)))), (3, .ro (.ag (aF (decide (y.num < 0)) (limbs y.num.natAbs) false (limbs y.den)))), (5, .ro (.ag (aF (decide (x.num < 0)) (limbs x.num.natAbs) false (limbs x.den)))), (6, .ro (.ag (aF (decide (y.num < 0)) (limbs y.num.natAbs) false (limbs y.den)))), (9, .vec 52), (26, .p (I i)), (130, .p (.ag [Bo B2, .si true .u32 n2]))] [(52, .vs 26 4 fs1)] rfl (by (repeat (first | exact sub_nil | refine sub_cons rfl ?_))) (by (repeat (first | exact subH_nil | refine subH_cons rfl ?_))) rfl (by simp [wobHB, wobMB, good_wobB hfg1]) rfl (fun G hG => ?_)
            obtain ⟨m1', q1, rfl, ⟨fs2, rfl, hfs2⟩, rfl⟩ := hG
            have hfg2 := good_wob hfg1 hfs2
            have hfl2 := (wobs_len hfs2).trans hfl1
            repeat (first | refine region_ ?_ | refine nil_ ?_ | refine stepY (y_move rfl) rfl ?_ | refine stepY (y_assign rfl) rfl ?_ | refine stepY (y_binn rfl rfl rfl (by simp only [InK, loK, hiK]; omega)) rfl ?_)
            refine ⟨(i + 1, fs2), ⟨by dsimp only; omega, hfl2, hfg2⟩, by dsimp only; omega, ?_, ?_⟩
            · (repeat (first | exact sub_nil | refine sub_cons rfl ?_))
            · (repeat (first | exact subH_nil | refine subH_cons rfl ?_))
          · repeat (first | refine seq_ ?_ | refine region_ ?_ | refine nil_ ?_ | refine exit_ ?_ | refine cond_f rfl ?_ | refine stepY (y_move rfl) rfl ?_ | refine stepY (y_load_ro rfl rfl rfl) rfl ?_ | refine stepY (y_len_vs rfl rfl) rfl ?_ | refine stepY (y_cmpF rfl rfl rfl (by omega)) rfl ?_)
            refine call_ Tryz.func18 rfl rfl (s1) rfl (by repeat (first | exact .refl _ | apply Les.cons | exact .nil)) rfl ?_
            repeat (first | refine guard_t rfl rfl rfl ?_ | refine stepY (y_move rfl) rfl ?_ | refine stepY (y_load_ro rfl rfl rfl) rfl ?_)
            refine call_ Tryz.func18 rfl rfl (s2) rfl (by repeat (first | exact .refl _ | apply Les.cons | exact .nil)) rfl ?_
            repeat (first | refine guard_t rfl rfl rfl ?_ | refine stepY (y_move rfl) rfl ?_ | refine stepY (y_pick_t rfl rfl) rfl ?_)
            refine call_ Tryz.func6 rfl rfl (h9) rfl (by repeat (exact .nil)) rfl ?_
            repeat (first | refine nil_ ?_ | refine ret_ ?_ | refine stepY (y_assign rfl) rfl ?_ | refine stepY (y_pick_t rfl rfl) rfl ?_)
            exact ⟨.inr rfl, rfl⟩
    · rw [decide_eq_false c2] at t2
      repeat (first | refine seq_ ?_ | refine region_ ?_ | refine nil_ ?_ | refine stepY (y_assign rfl) rfl ?_ | refine stepY (y_loadA rfl rfl rfl) rfl ?_ | refine stepE (e_box rfl rfl rfl rfl rfl rfl) ?_)
      refine call_ Tryz.func4 rfl rfl (t1) rfl (by repeat (first | exact .refl _ | apply Les.cons | exact .nil)) rfl ?_
      repeat (first | refine guard_t rfl rfl rfl ?_ | refine stepY (y_move rfl) rfl ?_ | refine stepY (y_loadA rfl rfl rfl) rfl ?_ | refine stepY (y_not rfl) rfl ?_)
      refine call_ Tryz.func4 rfl rfl (t2) rfl (by repeat (first | exact .refl _ | apply Les.cons | exact .nil)) rfl ?_
      repeat (first | refine seq_ ?_ | refine region_ ?_ | refine nil_ ?_ | refine cond_t rfl ?_ | refine guard_t rfl rfl rfl ?_ | refine guard_f rfl rfl rfl rfl ?_ | refine stepY (y_move rfl) rfl ?_ | refine stepY (y_not rfl) rfl ?_ | (first | refine stepY (y_pick_t rfl rfl) rfl ?_ | refine stepY (y_pick_f rfl rfl) rfl ?_))
      refine call_ Tryz.func6 rfl rfl (h9) rfl (by repeat (exact .nil)) rfl ?_
      repeat (first | refine nil_ ?_ | refine ret_ ?_ | refine stepY (y_assign rfl) rfl ?_)
      ((apply fin_r); (repeat (first | exact .nil | exact .tmp rfl | apply ResL.cons)); (repeat (exact .refl _)))
  · rw [decide_eq_false c1] at t1
    repeat (first | refine seq_ ?_ | refine region_ ?_ | refine nil_ ?_ | refine stepY (y_assign rfl) rfl ?_ | refine stepY (y_loadA rfl rfl rfl) rfl ?_ | refine stepE (e_box rfl rfl rfl rfl rfl rfl) ?_)
    refine call_ Tryz.func4 rfl rfl (t1) rfl (by repeat (first | exact .refl _ | apply Les.cons | exact .nil)) rfl ?_
    repeat (first | refine seq_ ?_ | refine region_ ?_ | refine nil_ ?_ | refine cond_t rfl ?_ | refine guard_f rfl rfl rfl rfl ?_ | refine stepY (y_move rfl) rfl ?_ | refine stepY (y_not rfl) rfl ?_ | refine stepY (y_pick_t rfl rfl) rfl ?_)
    refine call_ Tryz.func6 rfl rfl (h9) rfl (by repeat (exact .nil)) rfl ?_
    repeat (first | refine nil_ ?_ | refine ret_ ?_ | refine stepY (y_assign rfl) rfl ?_)
    ((apply fin_r); (repeat (first | exact .nil | exact .tmp rfl | apply ResL.cons)); (repeat (exact .refl _)))
end Go.Av

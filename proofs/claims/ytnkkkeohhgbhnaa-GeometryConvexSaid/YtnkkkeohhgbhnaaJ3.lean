/- Contracts of functions that the laws on fractions reach, and the plain arithmetic behind them: no conditions beyond those in each statement. -/
import Derived.Test.YtnkkkeohhgbhnaaJ2
import Derived.Test.YtnkkkeohhgbhnaaJ1
set_option maxHeartbeats 8000000
set_option exponentiation.threshold 100000
set_option maxRecDepth 100000
set_option linter.unusedVariables false
set_option linter.unusedSimpArgs false
namespace Go.Av
open Go Go.Proofs

open Go.RowKit
/-! The corners of a square -/
abbrev P3 := Pt × Pt × Pt
abbrev p3 (t : P3) : PV := .ag [I t.1.1, I t.1.2, I t.2.1.1, I t.2.1.2, I t.2.2.1, I t.2.2.2]
def ord1 (a b c : Pt) : P3 := if farP a c > farP b c then (b, a, c) else (a, b, c)
def ord2 (a b c : Pt) (t : P3) : P3 := if farP a b > farP t.2.1 t.2.2 then (c, a, b) else t
def ord3 (t : P3) : P3 := if crossP t.1 t.2.1 t.2.2 < 0 then (t.1, t.2.2, t.2.1) else t
def orR (a b c : Pt) : P3 × Int := if ¬ (sm a ∧ sm b ∧ sm c) then (((0, 0), (0, 0), (0, 0)), 3) else if crossP a b c = 0 then (((0, 0), (0, 0), (0, 0)), 24) else (ord3 (ord2 a b c (ord1 a b c)), 0)
theorem ROrder_c (a b c : Pt) : Con Try.prog 18 [pt a, pt b, pt c] (.tp [p3 (orR a b c).1, E_ (orR a b c).2]) := by
  unfold orR
  have hc := right_c [a, b, c]
  rw [chk3] at hc
  by_cases hs : sm a ∧ sm b ∧ sm c
  · rw [if_pos hs] at hc
    rw [if_neg (not_not_intro hs)]
    obtain ⟨ha, hb, hcc⟩ := hs
    have hx := Rcross_c a b c ha hb hcc
    have sac := far_c a c ha hcc
    have sbc := far_c b c hb hcc
    have sab := far_c a b ha hb
    refine con_of Try.func18 rfl rfl rfl rfl rfl ?_
    by_cases h0 : crossP a b c = 0
    · rw [if_pos h0]
      repeat (first | refine seq_ ?_ | refine region_ ?_ | refine nil_ ?_ | refine stepY (y_assign rfl) rfl ?_ | refine stepY (y_loadA rfl rfl rfl) rfl ?_ | refine stepE (e_box rfl rfl rfl rfl rfl rfl) ?_ | refine stepE (e_alloc rfl rfl rfl) ?_ | refine stepE (e_bs_vs rfl rfl rfl rfl rfl rfl) ?_)
      refine seal_Ls (i := 13) (h := 13) rfl rfl rfl rfl ?_
      refine call_ Try.func39 rfl rfl (hc) rfl (by repeat (first | exact .tags _ _ | apply Les.cons | exact .nil)) rfl ?_
      repeat (first | refine seq_ ?_ | refine region_ ?_ | refine nil_ ?_ | refine skip_ ?_ | refine cond_f rfl ?_ | refine stepY (y_move rfl) rfl ?_ | refine stepY (y_assign rfl) rfl ?_ | refine stepY (y_loadA rfl rfl rfl) rfl ?_ | refine stepY (y_cmpF rfl rfl rfl (by omega)) rfl ?_)
      refine call_ Try.func40 rfl rfl (hx) rfl (by repeat (first | exact .refl _ | apply Les.cons | exact .nil)) rfl ?_
      repeat (first | refine seq_ ?_ | refine region_ ?_ | refine nil_ ?_ | refine ret_ ?_ | refine cond_t rfl ?_ | refine stepY (y_assign rfl) rfl ?_ | refine stepY (y_build_arrb rfl rfl rfl rfl) rfl ?_ | refine stepY (y_cmpT rfl rfl rfl (by omega)) rfl ?_ | refine stepE (e_store rfl rfl rfl rfl rfl rfl rfl) ?_)
      ((apply fin_r); (repeat (first | exact .nil | exact .tmp rfl | exact .agg rfl rfl rfl | apply ResL.cons)); (repeat (exact .refl _)))
    · rw [if_neg h0]
      unfold ord1
      by_cases g1 : farP a c > farP b c
      · rw [if_pos g1]
        unfold ord2
        dsimp only
        by_cases g2 : farP a b > farP a c
        · rw [if_pos g2]
          unfold ord3
          by_cases g3 : crossP c a b < 0
          · rw [if_pos g3]
            have hx2 := Rcross_c c a b hcc ha hb
            repeat (first | refine seq_ ?_ | refine region_ ?_ | refine nil_ ?_ | refine stepY (y_assign rfl) rfl ?_ | refine stepY (y_loadA rfl rfl rfl) rfl ?_ | refine stepE (e_box rfl rfl rfl rfl rfl rfl) ?_ | refine stepE (e_alloc rfl rfl rfl) ?_ | refine stepE (e_bs_vs rfl rfl rfl rfl rfl rfl) ?_)
            refine seal_Ls (i := 13) (h := 13) rfl rfl rfl rfl ?_
            refine call_ Try.func39 rfl rfl (hc) rfl (by repeat (first | exact .tags _ _ | apply Les.cons | exact .nil)) rfl ?_
            repeat (first | refine seq_ ?_ | refine region_ ?_ | refine nil_ ?_ | refine skip_ ?_ | refine cond_f rfl ?_ | refine stepY (y_move rfl) rfl ?_ | refine stepY (y_assign rfl) rfl ?_ | refine stepY (y_loadA rfl rfl rfl) rfl ?_ | refine stepY (y_cmpF rfl rfl rfl (by omega)) rfl ?_)
            refine call_ Try.func40 rfl rfl (hx) rfl (by repeat (first | exact .refl _ | apply Les.cons | exact .nil)) rfl ?_
            repeat (first | refine seq_ ?_ | refine region_ ?_ | refine nil_ ?_ | refine skip_ ?_ | refine cond_f rfl ?_ | refine stepY (y_loadA rfl rfl rfl) rfl ?_ | refine stepY (y_build_arrb rfl rfl rfl rfl) rfl ?_ | refine stepY (y_cmpF rfl rfl rfl (by omega)) rfl ?_ | refine stepE (e_alloc rfl rfl rfl) ?_ | refine stepE (e_store rfl rfl rfl rfl rfl rfl rfl) ?_)
            refine draw_ [(0, true), (1, true), (3, true), (4, true), (5, true), (6, true), (2, false), (7, false), (8, true)] 1000 [3, 4, 5, 6, 9] mixed (by kernel_rfl) rfl ?_
            ((refine dY rfl (y_loadA rfl rfl rfl) rfl rfl rfl rfl ?_); refine dY rfl (y_loadA rfl rfl rfl) rfl rfl rfl rfl ?_; refine dY rfl (y_index_arrb rfl rfl (by omega) (by omega)) rfl rfl rfl rfl ?_; refine dY rfl (y_loadA rfl rfl rfl) rfl rfl rfl rfl ?_; refine dY rfl (y_index_arrb rfl rfl (by omega) (by omega)) rfl rfl rfl rfl ?_; refine dY rfl (y_loadA rfl rfl rfl) rfl rfl rfl rfl ?_)
            refine dC rfl Try.func44 rfl rfl (sac) rfl (by repeat (first | exact .refl _ | apply Les.cons | exact .nil)) rfl rfl ?_
            skip
            refine dC rfl Try.func44 rfl rfl (sbc) rfl (by repeat (first | exact .refl _ | apply Les.cons | exact .nil)) rfl rfl ?_
            ((refine dY rfl (y_cmpT rfl rfl rfl (by omega)) rfl rfl rfl rfl ?_); refine dEnd ?_)
            repeat (first | refine seq_ ?_ | refine region_ ?_ | refine nil_ ?_ | refine cond_t rfl ?_ | refine stepY (y_loadA rfl rfl rfl) rfl ?_ | refine stepY (y_build_arrb rfl rfl rfl rfl) rfl ?_ | refine stepE (e_store rfl rfl rfl rfl rfl rfl rfl) ?_)
            refine draw_ [(0, true), (1, true), (3, true), (4, true), (5, true), (6, true), (2, false), (7, false), (8, true)] 1000 [3, 4, 5, 6, 9] mixed (by kernel_rfl) rfl ?_
            ((refine dY rfl (y_loadA rfl rfl rfl) rfl rfl rfl rfl ?_); refine dY rfl (y_loadA rfl rfl rfl) rfl rfl rfl rfl ?_; refine dY rfl (y_index_arrb rfl rfl (by omega) (by omega)) rfl rfl rfl rfl ?_; refine dY rfl (y_loadA rfl rfl rfl) rfl rfl rfl rfl ?_; refine dY rfl (y_index_arrb rfl rfl (by omega) (by omega)) rfl rfl rfl rfl ?_; refine dY rfl (y_loadA rfl rfl rfl) rfl rfl rfl rfl ?_)
            refine dC rfl Try.func44 rfl rfl (sab) rfl (by repeat (first | exact .refl _ | apply Les.cons | exact .nil)) rfl rfl ?_
            skip
            refine dC rfl Try.func44 rfl rfl (sac) rfl (by repeat (first | exact .refl _ | apply Les.cons | exact .nil)) rfl rfl ?_
            ((refine dY rfl (y_cmpT rfl rfl rfl (by omega)) rfl rfl rfl rfl ?_); refine dEnd ?_)
            repeat (first | refine seq_ ?_ | refine region_ ?_ | refine nil_ ?_ | refine cond_t rfl ?_ | refine stepY (y_loadA rfl rfl rfl) rfl ?_ | refine stepY (y_build_arrb rfl rfl rfl rfl) rfl ?_ | refine stepY (y_index_arrb rfl rfl (by omega) (by omega)) rfl ?_ | refine stepE (e_store rfl rfl rfl rfl rfl rfl rfl) ?_)
            refine call_ Try.func40 rfl rfl (hx2) rfl (by repeat (first | exact .refl _ | apply Les.cons | exact .nil)) rfl ?_
            repeat (first | refine seq_ ?_ | refine region_ ?_ | refine nil_ ?_ | refine ret_ ?_ | refine cond_t rfl ?_ | refine stepY (y_assign rfl) rfl ?_ | refine stepY (y_loadA rfl rfl rfl) rfl ?_ | refine stepY (y_build_arrb rfl rfl rfl rfl) rfl ?_ | refine stepY (y_index_arrb rfl rfl (by omega) (by omega)) rfl ?_ | refine stepY (y_cmpT rfl rfl rfl (by omega)) rfl ?_ | refine stepE (e_store rfl rfl rfl rfl rfl rfl rfl) ?_)
            ((apply fin_r); (repeat (first | exact .nil | exact .tmp rfl | exact .agg rfl rfl rfl | apply ResL.cons)); (repeat (exact .refl _)))
          · rw [if_neg g3]
            have hx2 := Rcross_c c a b hcc ha hb
            repeat (first | refine seq_ ?_ | refine region_ ?_ | refine nil_ ?_ | refine stepY (y_assign rfl) rfl ?_ | refine stepY (y_loadA rfl rfl rfl) rfl ?_ | refine stepE (e_box rfl rfl rfl rfl rfl rfl) ?_ | refine stepE (e_alloc rfl rfl rfl) ?_ | refine stepE (e_bs_vs rfl rfl rfl rfl rfl rfl) ?_)
            refine seal_Ls (i := 13) (h := 13) rfl rfl rfl rfl ?_
            refine call_ Try.func39 rfl rfl (hc) rfl (by repeat (first | exact .tags _ _ | apply Les.cons | exact .nil)) rfl ?_
            repeat (first | refine seq_ ?_ | refine region_ ?_ | refine nil_ ?_ | refine skip_ ?_ | refine cond_f rfl ?_ | refine stepY (y_move rfl) rfl ?_ | refine stepY (y_assign rfl) rfl ?_ | refine stepY (y_loadA rfl rfl rfl) rfl ?_ | refine stepY (y_cmpF rfl rfl rfl (by omega)) rfl ?_)
            refine call_ Try.func40 rfl rfl (hx) rfl (by repeat (first | exact .refl _ | apply Les.cons | exact .nil)) rfl ?_
            repeat (first | refine seq_ ?_ | refine region_ ?_ | refine nil_ ?_ | refine skip_ ?_ | refine cond_f rfl ?_ | refine stepY (y_loadA rfl rfl rfl) rfl ?_ | refine stepY (y_build_arrb rfl rfl rfl rfl) rfl ?_ | refine stepY (y_cmpF rfl rfl rfl (by omega)) rfl ?_ | refine stepE (e_alloc rfl rfl rfl) ?_ | refine stepE (e_store rfl rfl rfl rfl rfl rfl rfl) ?_)
            refine draw_ [(0, true), (1, true), (3, true), (4, true), (5, true), (6, true), (2, false), (7, false), (8, true)] 1000 [3, 4, 5, 6, 9] mixed (by kernel_rfl) rfl ?_
            ((refine dY rfl (y_loadA rfl rfl rfl) rfl rfl rfl rfl ?_); refine dY rfl (y_loadA rfl rfl rfl) rfl rfl rfl rfl ?_; refine dY rfl (y_index_arrb rfl rfl (by omega) (by omega)) rfl rfl rfl rfl ?_; refine dY rfl (y_loadA rfl rfl rfl) rfl rfl rfl rfl ?_; refine dY rfl (y_index_arrb rfl rfl (by omega) (by omega)) rfl rfl rfl rfl ?_; refine dY rfl (y_loadA rfl rfl rfl) rfl rfl rfl rfl ?_)
            refine dC rfl Try.func44 rfl rfl (sac) rfl (by repeat (first | exact .refl _ | apply Les.cons | exact .nil)) rfl rfl ?_
            skip
            refine dC rfl Try.func44 rfl rfl (sbc) rfl (by repeat (first | exact .refl _ | apply Les.cons | exact .nil)) rfl rfl ?_
            ((refine dY rfl (y_cmpT rfl rfl rfl (by omega)) rfl rfl rfl rfl ?_); refine dEnd ?_)
            repeat (first | refine seq_ ?_ | refine region_ ?_ | refine nil_ ?_ | refine cond_t rfl ?_ | refine stepY (y_loadA rfl rfl rfl) rfl ?_ | refine stepY (y_build_arrb rfl rfl rfl rfl) rfl ?_ | refine stepE (e_store rfl rfl rfl rfl rfl rfl rfl) ?_)
            refine draw_ [(0, true), (1, true), (3, true), (4, true), (5, true), (6, true), (2, false), (7, false), (8, true)] 1000 [3, 4, 5, 6, 9] mixed (by kernel_rfl) rfl ?_
            ((refine dY rfl (y_loadA rfl rfl rfl) rfl rfl rfl rfl ?_); refine dY rfl (y_loadA rfl rfl rfl) rfl rfl rfl rfl ?_; refine dY rfl (y_index_arrb rfl rfl (by omega) (by omega)) rfl rfl rfl rfl ?_; refine dY rfl (y_loadA rfl rfl rfl) rfl rfl rfl rfl ?_; refine dY rfl (y_index_arrb rfl rfl (by omega) (by omega)) rfl rfl rfl rfl ?_; refine dY rfl (y_loadA rfl rfl rfl) rfl rfl rfl rfl ?_)
            refine dC rfl Try.func44 rfl rfl (sab) rfl (by repeat (first | exact .refl _ | apply Les.cons | exact .nil)) rfl rfl ?_
            skip
            refine dC rfl Try.func44 rfl rfl (sac) rfl (by repeat (first | exact .refl _ | apply Les.cons | exact .nil)) rfl rfl ?_
            ((refine dY rfl (y_cmpT rfl rfl rfl (by omega)) rfl rfl rfl rfl ?_); refine dEnd ?_)
            repeat (first | refine seq_ ?_ | refine region_ ?_ | refine nil_ ?_ | refine cond_t rfl ?_ | refine stepY (y_loadA rfl rfl rfl) rfl ?_ | refine stepY (y_build_arrb rfl rfl rfl rfl) rfl ?_ | refine stepY (y_index_arrb rfl rfl (by omega) (by omega)) rfl ?_ | refine stepE (e_store rfl rfl rfl rfl rfl rfl rfl) ?_)
            refine call_ Try.func40 rfl rfl (hx2) rfl (by repeat (first | exact .refl _ | apply Les.cons | exact .nil)) rfl ?_
            repeat (first | refine seq_ ?_ | refine region_ ?_ | refine nil_ ?_ | refine skip_ ?_ | refine ret_ ?_ | refine cond_f rfl ?_ | refine stepY (y_assign rfl) rfl ?_ | refine stepY (y_loadA rfl rfl rfl) rfl ?_ | refine stepY (y_cmpF rfl rfl rfl (by omega)) rfl ?_ | refine stepE (e_store rfl rfl rfl rfl rfl rfl rfl) ?_)
            ((apply fin_r); (repeat (first | exact .nil | exact .tmp rfl | exact .agg rfl rfl rfl | apply ResL.cons)); (repeat (exact .refl _)))
        · rw [if_neg g2]
          unfold ord3
          by_cases g3 : crossP b a c < 0
          · rw [if_pos g3]
            have hx2 := Rcross_c b a c hb ha hcc
            repeat (first | refine seq_ ?_ | refine region_ ?_ | refine nil_ ?_ | refine stepY (y_assign rfl) rfl ?_ | refine stepY (y_loadA rfl rfl rfl) rfl ?_ | refine stepE (e_box rfl rfl rfl rfl rfl rfl) ?_ | refine stepE (e_alloc rfl rfl rfl) ?_ | refine stepE (e_bs_vs rfl rfl rfl rfl rfl rfl) ?_)
            refine seal_Ls (i := 13) (h := 13) rfl rfl rfl rfl ?_
            refine call_ Try.func39 rfl rfl (hc) rfl (by repeat (first | exact .tags _ _ | apply Les.cons | exact .nil)) rfl ?_
            repeat (first | refine seq_ ?_ | refine region_ ?_ | refine nil_ ?_ | refine skip_ ?_ | refine cond_f rfl ?_ | refine stepY (y_move rfl) rfl ?_ | refine stepY (y_assign rfl) rfl ?_ | refine stepY (y_loadA rfl rfl rfl) rfl ?_ | refine stepY (y_cmpF rfl rfl rfl (by omega)) rfl ?_)
            refine call_ Try.func40 rfl rfl (hx) rfl (by repeat (first | exact .refl _ | apply Les.cons | exact .nil)) rfl ?_
            repeat (first | refine seq_ ?_ | refine region_ ?_ | refine nil_ ?_ | refine skip_ ?_ | refine cond_f rfl ?_ | refine stepY (y_loadA rfl rfl rfl) rfl ?_ | refine stepY (y_build_arrb rfl rfl rfl rfl) rfl ?_ | refine stepY (y_cmpF rfl rfl rfl (by omega)) rfl ?_ | refine stepE (e_alloc rfl rfl rfl) ?_ | refine stepE (e_store rfl rfl rfl rfl rfl rfl rfl) ?_)
            refine draw_ [(0, true), (1, true), (3, true), (4, true), (5, true), (6, true), (2, false), (7, false), (8, true)] 1000 [3, 4, 5, 6, 9] mixed (by kernel_rfl) rfl ?_
            ((refine dY rfl (y_loadA rfl rfl rfl) rfl rfl rfl rfl ?_); refine dY rfl (y_loadA rfl rfl rfl) rfl rfl rfl rfl ?_; refine dY rfl (y_index_arrb rfl rfl (by omega) (by omega)) rfl rfl rfl rfl ?_; refine dY rfl (y_loadA rfl rfl rfl) rfl rfl rfl rfl ?_; refine dY rfl (y_index_arrb rfl rfl (by omega) (by omega)) rfl rfl rfl rfl ?_; refine dY rfl (y_loadA rfl rfl rfl) rfl rfl rfl rfl ?_)
            refine dC rfl Try.func44 rfl rfl (sac) rfl (by repeat (first | exact .refl _ | apply Les.cons | exact .nil)) rfl rfl ?_
            skip
            refine dC rfl Try.func44 rfl rfl (sbc) rfl (by repeat (first | exact .refl _ | apply Les.cons | exact .nil)) rfl rfl ?_
            ((refine dY rfl (y_cmpT rfl rfl rfl (by omega)) rfl rfl rfl rfl ?_); refine dEnd ?_)
            repeat (first | refine seq_ ?_ | refine region_ ?_ | refine nil_ ?_ | refine cond_t rfl ?_ | refine stepY (y_loadA rfl rfl rfl) rfl ?_ | refine stepY (y_build_arrb rfl rfl rfl rfl) rfl ?_ | refine stepE (e_store rfl rfl rfl rfl rfl rfl rfl) ?_)
            refine draw_ [(0, true), (1, true), (3, true), (4, true), (5, true), (6, true), (2, false), (7, false), (8, true)] 1000 [3, 4, 5, 6, 9] mixed (by kernel_rfl) rfl ?_
            ((refine dY rfl (y_loadA rfl rfl rfl) rfl rfl rfl rfl ?_); refine dY rfl (y_loadA rfl rfl rfl) rfl rfl rfl rfl ?_; refine dY rfl (y_index_arrb rfl rfl (by omega) (by omega)) rfl rfl rfl rfl ?_; refine dY rfl (y_loadA rfl rfl rfl) rfl rfl rfl rfl ?_; refine dY rfl (y_index_arrb rfl rfl (by omega) (by omega)) rfl rfl rfl rfl ?_; refine dY rfl (y_loadA rfl rfl rfl) rfl rfl rfl rfl ?_)
            refine dC rfl Try.func44 rfl rfl (sab) rfl (by repeat (first | exact .refl _ | apply Les.cons | exact .nil)) rfl rfl ?_
            skip
            refine dC rfl Try.func44 rfl rfl (sac) rfl (by repeat (first | exact .refl _ | apply Les.cons | exact .nil)) rfl rfl ?_
            ((refine dY rfl (y_cmpF rfl rfl rfl (by omega)) rfl rfl rfl rfl ?_); refine dEnd ?_)
            repeat (first | refine seq_ ?_ | refine region_ ?_ | refine skip_ ?_ | refine cond_f rfl ?_ | refine stepY (y_loadA rfl rfl rfl) rfl ?_ | refine stepY (y_index_arrb rfl rfl (by omega) (by omega)) rfl ?_)
            refine call_ Try.func40 rfl rfl (hx2) rfl (by repeat (first | exact .refl _ | apply Les.cons | exact .nil)) rfl ?_
            repeat (first | refine seq_ ?_ | refine region_ ?_ | refine nil_ ?_ | refine ret_ ?_ | refine cond_t rfl ?_ | refine stepY (y_assign rfl) rfl ?_ | refine stepY (y_loadA rfl rfl rfl) rfl ?_ | refine stepY (y_build_arrb rfl rfl rfl rfl) rfl ?_ | refine stepY (y_index_arrb rfl rfl (by omega) (by omega)) rfl ?_ | refine stepY (y_cmpT rfl rfl rfl (by omega)) rfl ?_ | refine stepE (e_store rfl rfl rfl rfl rfl rfl rfl) ?_)
            ((apply fin_r); (repeat (first | exact .nil | exact .tmp rfl | exact .agg rfl rfl rfl | apply ResL.cons)); (repeat (exact .refl _)))
          · rw [if_neg g3]
            have hx2 := Rcross_c b a c hb ha hcc
            repeat (first | refine seq_ ?_ | refine region_ ?_ | refine nil_ ?_ | refine stepY (y_assign rfl) rfl ?_ | refine stepY (y_loadA rfl rfl rfl) rfl ?_ | refine stepE (e_box rfl rfl rfl rfl rfl rfl) ?_ | refine stepE (e_alloc rfl rfl rfl) ?_ | refine stepE (e_bs_vs rfl rfl rfl rfl rfl rfl) ?_)
            refine seal_Ls (i := 13) (h := 13) rfl rfl rfl rfl ?_
            refine call_ Try.func39 rfl rfl (hc) rfl (by repeat (first | exact .tags _ _ | apply Les.cons | exact .nil)) rfl ?_
            repeat (first | refine seq_ ?_ | refine region_ ?_ | refine nil_ ?_ | refine skip_ ?_ | refine cond_f rfl ?_ | refine stepY (y_move rfl) rfl ?_ | refine stepY (y_assign rfl) rfl ?_ | refine stepY (y_loadA rfl rfl rfl) rfl ?_ | refine stepY (y_cmpF rfl rfl rfl (by omega)) rfl ?_)
            refine call_ Try.func40 rfl rfl (hx) rfl (by repeat (first | exact .refl _ | apply Les.cons | exact .nil)) rfl ?_
            repeat (first | refine seq_ ?_ | refine region_ ?_ | refine nil_ ?_ | refine skip_ ?_ | refine cond_f rfl ?_ | refine stepY (y_loadA rfl rfl rfl) rfl ?_ | refine stepY (y_build_arrb rfl rfl rfl rfl) rfl ?_ | refine stepY (y_cmpF rfl rfl rfl (by omega)) rfl ?_ | refine stepE (e_alloc rfl rfl rfl) ?_ | refine stepE (e_store rfl rfl rfl rfl rfl rfl rfl) ?_)
            refine draw_ [(0, true), (1, true), (3, true), (4, true), (5, true), (6, true), (2, false), (7, false), (8, true)] 1000 [3, 4, 5, 6, 9] mixed (by kernel_rfl) rfl ?_
            ((refine dY rfl (y_loadA rfl rfl rfl) rfl rfl rfl rfl ?_); refine dY rfl (y_loadA rfl rfl rfl) rfl rfl rfl rfl ?_; refine dY rfl (y_index_arrb rfl rfl (by omega) (by omega)) rfl rfl rfl rfl ?_; refine dY rfl (y_loadA rfl rfl rfl) rfl rfl rfl rfl ?_; refine dY rfl (y_index_arrb rfl rfl (by omega) (by omega)) rfl rfl rfl rfl ?_; refine dY rfl (y_loadA rfl rfl rfl) rfl rfl rfl rfl ?_)
            refine dC rfl Try.func44 rfl rfl (sac) rfl (by repeat (first | exact .refl _ | apply Les.cons | exact .nil)) rfl rfl ?_
            skip
            refine dC rfl Try.func44 rfl rfl (sbc) rfl (by repeat (first | exact .refl _ | apply Les.cons | exact .nil)) rfl rfl ?_
            ((refine dY rfl (y_cmpT rfl rfl rfl (by omega)) rfl rfl rfl rfl ?_); refine dEnd ?_)
            repeat (first | refine seq_ ?_ | refine region_ ?_ | refine nil_ ?_ | refine cond_t rfl ?_ | refine stepY (y_loadA rfl rfl rfl) rfl ?_ | refine stepY (y_build_arrb rfl rfl rfl rfl) rfl ?_ | refine stepE (e_store rfl rfl rfl rfl rfl rfl rfl) ?_)
            refine draw_ [(0, true), (1, true), (3, true), (4, true), (5, true), (6, true), (2, false), (7, false), (8, true)] 1000 [3, 4, 5, 6, 9] mixed (by kernel_rfl) rfl ?_
            ((refine dY rfl (y_loadA rfl rfl rfl) rfl rfl rfl rfl ?_); refine dY rfl (y_loadA rfl rfl rfl) rfl rfl rfl rfl ?_; refine dY rfl (y_index_arrb rfl rfl (by omega) (by omega)) rfl rfl rfl rfl ?_; refine dY rfl (y_loadA rfl rfl rfl) rfl rfl rfl rfl ?_; refine dY rfl (y_index_arrb rfl rfl (by omega) (by omega)) rfl rfl rfl rfl ?_; refine dY rfl (y_loadA rfl rfl rfl) rfl rfl rfl rfl ?_)
            refine dC rfl Try.func44 rfl rfl (sab) rfl (by repeat (first | exact .refl _ | apply Les.cons | exact .nil)) rfl rfl ?_
            skip
            refine dC rfl Try.func44 rfl rfl (sac) rfl (by repeat (first | exact .refl _ | apply Les.cons | exact .nil)) rfl rfl ?_
            ((refine dY rfl (y_cmpF rfl rfl rfl (by omega)) rfl rfl rfl rfl ?_); refine dEnd ?_)
            repeat (first | refine seq_ ?_ | refine region_ ?_ | refine skip_ ?_ | refine cond_f rfl ?_ | refine stepY (y_loadA rfl rfl rfl) rfl ?_ | refine stepY (y_index_arrb rfl rfl (by omega) (by omega)) rfl ?_)
            refine call_ Try.func40 rfl rfl (hx2) rfl (by repeat (first | exact .refl _ | apply Les.cons | exact .nil)) rfl ?_
            repeat (first | refine seq_ ?_ | refine region_ ?_ | refine nil_ ?_ | refine skip_ ?_ | refine ret_ ?_ | refine cond_f rfl ?_ | refine stepY (y_assign rfl) rfl ?_ | refine stepY (y_loadA rfl rfl rfl) rfl ?_ | refine stepY (y_cmpF rfl rfl rfl (by omega)) rfl ?_ | refine stepE (e_store rfl rfl rfl rfl rfl rfl rfl) ?_)
            ((apply fin_r); (repeat (first | exact .nil | exact .tmp rfl | exact .agg rfl rfl rfl | apply ResL.cons)); (repeat (exact .refl _)))
      · rw [if_neg g1]
        unfold ord2
        dsimp only
        by_cases g2 : farP a b > farP b c
        · rw [if_pos g2]
          unfold ord3
          by_cases g3 : crossP c a b < 0
          · rw [if_pos g3]
            have hx2 := Rcross_c c a b hcc ha hb
            repeat (first | refine seq_ ?_ | refine region_ ?_ | refine nil_ ?_ | refine stepY (y_assign rfl) rfl ?_ | refine stepY (y_loadA rfl rfl rfl) rfl ?_ | refine stepE (e_box rfl rfl rfl rfl rfl rfl) ?_ | refine stepE (e_alloc rfl rfl rfl) ?_ | refine stepE (e_bs_vs rfl rfl rfl rfl rfl rfl) ?_)
            refine seal_Ls (i := 13) (h := 13) rfl rfl rfl rfl ?_
            refine call_ Try.func39 rfl rfl (hc) rfl (by repeat (first | exact .tags _ _ | apply Les.cons | exact .nil)) rfl ?_
            repeat (first | refine seq_ ?_ | refine region_ ?_ | refine nil_ ?_ | refine skip_ ?_ | refine cond_f rfl ?_ | refine stepY (y_move rfl) rfl ?_ | refine stepY (y_assign rfl) rfl ?_ | refine stepY (y_loadA rfl rfl rfl) rfl ?_ | refine stepY (y_cmpF rfl rfl rfl (by omega)) rfl ?_)
            refine call_ Try.func40 rfl rfl (hx) rfl (by repeat (first | exact .refl _ | apply Les.cons | exact .nil)) rfl ?_
            repeat (first | refine seq_ ?_ | refine region_ ?_ | refine nil_ ?_ | refine skip_ ?_ | refine cond_f rfl ?_ | refine stepY (y_loadA rfl rfl rfl) rfl ?_ | refine stepY (y_build_arrb rfl rfl rfl rfl) rfl ?_ | refine stepY (y_cmpF rfl rfl rfl (by omega)) rfl ?_ | refine stepE (e_alloc rfl rfl rfl) ?_ | refine stepE (e_store rfl rfl rfl rfl rfl rfl rfl) ?_)
            refine draw_ [(0, true), (1, true), (3, true), (4, true), (5, true), (6, true), (2, false), (7, false), (8, true)] 1000 [3, 4, 5, 6, 9] mixed (by kernel_rfl) rfl ?_
            ((refine dY rfl (y_loadA rfl rfl rfl) rfl rfl rfl rfl ?_); refine dY rfl (y_loadA rfl rfl rfl) rfl rfl rfl rfl ?_; refine dY rfl (y_index_arrb rfl rfl (by omega) (by omega)) rfl rfl rfl rfl ?_; refine dY rfl (y_loadA rfl rfl rfl) rfl rfl rfl rfl ?_; refine dY rfl (y_index_arrb rfl rfl (by omega) (by omega)) rfl rfl rfl rfl ?_; refine dY rfl (y_loadA rfl rfl rfl) rfl rfl rfl rfl ?_)
            refine dC rfl Try.func44 rfl rfl (sac) rfl (by repeat (first | exact .refl _ | apply Les.cons | exact .nil)) rfl rfl ?_
            skip
            refine dC rfl Try.func44 rfl rfl (sbc) rfl (by repeat (first | exact .refl _ | apply Les.cons | exact .nil)) rfl rfl ?_
            ((refine dY rfl (y_cmpF rfl rfl rfl (by omega)) rfl rfl rfl rfl ?_); refine dEnd ?_)
            repeat (first | refine seq_ ?_ | refine skip_ ?_ | refine cond_f rfl ?_)
            refine draw_ [(0, true), (1, true), (3, true), (4, true), (5, true), (6, true), (2, false), (7, false), (8, true)] 1000 [3, 4, 5, 6, 9] mixed (by kernel_rfl) rfl ?_
            ((refine dY rfl (y_loadA rfl rfl rfl) rfl rfl rfl rfl ?_); refine dY rfl (y_loadA rfl rfl rfl) rfl rfl rfl rfl ?_; refine dY rfl (y_index_arrb rfl rfl (by omega) (by omega)) rfl rfl rfl rfl ?_; refine dY rfl (y_loadA rfl rfl rfl) rfl rfl rfl rfl ?_; refine dY rfl (y_index_arrb rfl rfl (by omega) (by omega)) rfl rfl rfl rfl ?_; refine dY rfl (y_loadA rfl rfl rfl) rfl rfl rfl rfl ?_)
            refine dC rfl Try.func44 rfl rfl (sab) rfl (by repeat (first | exact .refl _ | apply Les.cons | exact .nil)) rfl rfl ?_
            skip
            refine dC rfl Try.func44 rfl rfl (sbc) rfl (by repeat (first | exact .refl _ | apply Les.cons | exact .nil)) rfl rfl ?_
            ((refine dY rfl (y_cmpT rfl rfl rfl (by omega)) rfl rfl rfl rfl ?_); refine dEnd ?_)
            repeat (first | refine seq_ ?_ | refine region_ ?_ | refine nil_ ?_ | refine cond_t rfl ?_ | refine stepY (y_loadA rfl rfl rfl) rfl ?_ | refine stepY (y_build_arrb rfl rfl rfl rfl) rfl ?_ | refine stepY (y_index_arrb rfl rfl (by omega) (by omega)) rfl ?_ | refine stepE (e_store rfl rfl rfl rfl rfl rfl rfl) ?_)
            refine call_ Try.func40 rfl rfl (hx2) rfl (by repeat (first | exact .refl _ | apply Les.cons | exact .nil)) rfl ?_
            repeat (first | refine seq_ ?_ | refine region_ ?_ | refine nil_ ?_ | refine ret_ ?_ | refine cond_t rfl ?_ | refine stepY (y_assign rfl) rfl ?_ | refine stepY (y_loadA rfl rfl rfl) rfl ?_ | refine stepY (y_build_arrb rfl rfl rfl rfl) rfl ?_ | refine stepY (y_index_arrb rfl rfl (by omega) (by omega)) rfl ?_ | refine stepY (y_cmpT rfl rfl rfl (by omega)) rfl ?_ | refine stepE (e_store rfl rfl rfl rfl rfl rfl rfl) ?_)
            ((apply fin_r); (repeat (first | exact .nil | exact .tmp rfl | exact .agg rfl rfl rfl | apply ResL.cons)); (repeat (exact .refl _)))
          · rw [if_neg g3]
            have hx2 := Rcross_c c a b hcc ha hb
            repeat (first | refine seq_ ?_ | refine region_ ?_ | refine nil_ ?_ | refine stepY (y_assign rfl) rfl ?_ | refine stepY (y_loadA rfl rfl rfl) rfl ?_ | refine stepE (e_box rfl rfl rfl rfl rfl rfl) ?_ | refine stepE (e_alloc rfl rfl rfl) ?_ | refine stepE (e_bs_vs rfl rfl rfl rfl rfl rfl) ?_)
            refine seal_Ls (i := 13) (h := 13) rfl rfl rfl rfl ?_
            refine call_ Try.func39 rfl rfl (hc) rfl (by repeat (first | exact .tags _ _ | apply Les.cons | exact .nil)) rfl ?_
            repeat (first | refine seq_ ?_ | refine region_ ?_ | refine nil_ ?_ | refine skip_ ?_ | refine cond_f rfl ?_ | refine stepY (y_move rfl) rfl ?_ | refine stepY (y_assign rfl) rfl ?_ | refine stepY (y_loadA rfl rfl rfl) rfl ?_ | refine stepY (y_cmpF rfl rfl rfl (by omega)) rfl ?_)
            refine call_ Try.func40 rfl rfl (hx) rfl (by repeat (first | exact .refl _ | apply Les.cons | exact .nil)) rfl ?_
            repeat (first | refine seq_ ?_ | refine region_ ?_ | refine nil_ ?_ | refine skip_ ?_ | refine cond_f rfl ?_ | refine stepY (y_loadA rfl rfl rfl) rfl ?_ | refine stepY (y_build_arrb rfl rfl rfl rfl) rfl ?_ | refine stepY (y_cmpF rfl rfl rfl (by omega)) rfl ?_ | refine stepE (e_alloc rfl rfl rfl) ?_ | refine stepE (e_store rfl rfl rfl rfl rfl rfl rfl) ?_)
            refine draw_ [(0, true), (1, true), (3, true), (4, true), (5, true), (6, true), (2, false), (7, false), (8, true)] 1000 [3, 4, 5, 6, 9] mixed (by kernel_rfl) rfl ?_
            ((refine dY rfl (y_loadA rfl rfl rfl) rfl rfl rfl rfl ?_); refine dY rfl (y_loadA rfl rfl rfl) rfl rfl rfl rfl ?_; refine dY rfl (y_index_arrb rfl rfl (by omega) (by omega)) rfl rfl rfl rfl ?_; refine dY rfl (y_loadA rfl rfl rfl) rfl rfl rfl rfl ?_; refine dY rfl (y_index_arrb rfl rfl (by omega) (by omega)) rfl rfl rfl rfl ?_; refine dY rfl (y_loadA rfl rfl rfl) rfl rfl rfl rfl ?_)
            refine dC rfl Try.func44 rfl rfl (sac) rfl (by repeat (first | exact .refl _ | apply Les.cons | exact .nil)) rfl rfl ?_
            skip
            refine dC rfl Try.func44 rfl rfl (sbc) rfl (by repeat (first | exact .refl _ | apply Les.cons | exact .nil)) rfl rfl ?_
            ((refine dY rfl (y_cmpF rfl rfl rfl (by omega)) rfl rfl rfl rfl ?_); refine dEnd ?_)
            repeat (first | refine seq_ ?_ | refine skip_ ?_ | refine cond_f rfl ?_)
            refine draw_ [(0, true), (1, true), (3, true), (4, true), (5, true), (6, true), (2, false), (7, false), (8, true)] 1000 [3, 4, 5, 6, 9] mixed (by kernel_rfl) rfl ?_
            ((refine dY rfl (y_loadA rfl rfl rfl) rfl rfl rfl rfl ?_); refine dY rfl (y_loadA rfl rfl rfl) rfl rfl rfl rfl ?_; refine dY rfl (y_index_arrb rfl rfl (by omega) (by omega)) rfl rfl rfl rfl ?_; refine dY rfl (y_loadA rfl rfl rfl) rfl rfl rfl rfl ?_; refine dY rfl (y_index_arrb rfl rfl (by omega) (by omega)) rfl rfl rfl rfl ?_; refine dY rfl (y_loadA rfl rfl rfl) rfl rfl rfl rfl ?_)
            refine dC rfl Try.func44 rfl rfl (sab) rfl (by repeat (first | exact .refl _ | apply Les.cons | exact .nil)) rfl rfl ?_
            skip
            refine dC rfl Try.func44 rfl rfl (sbc) rfl (by repeat (first | exact .refl _ | apply Les.cons | exact .nil)) rfl rfl ?_
            ((refine dY rfl (y_cmpT rfl rfl rfl (by omega)) rfl rfl rfl rfl ?_); refine dEnd ?_)
            repeat (first | refine seq_ ?_ | refine region_ ?_ | refine nil_ ?_ | refine cond_t rfl ?_ | refine stepY (y_loadA rfl rfl rfl) rfl ?_ | refine stepY (y_build_arrb rfl rfl rfl rfl) rfl ?_ | refine stepY (y_index_arrb rfl rfl (by omega) (by omega)) rfl ?_ | refine stepE (e_store rfl rfl rfl rfl rfl rfl rfl) ?_)
            refine call_ Try.func40 rfl rfl (hx2) rfl (by repeat (first | exact .refl _ | apply Les.cons | exact .nil)) rfl ?_
            repeat (first | refine seq_ ?_ | refine region_ ?_ | refine nil_ ?_ | refine skip_ ?_ | refine ret_ ?_ | refine cond_f rfl ?_ | refine stepY (y_assign rfl) rfl ?_ | refine stepY (y_loadA rfl rfl rfl) rfl ?_ | refine stepY (y_cmpF rfl rfl rfl (by omega)) rfl ?_ | refine stepE (e_store rfl rfl rfl rfl rfl rfl rfl) ?_)
            ((apply fin_r); (repeat (first | exact .nil | exact .tmp rfl | exact .agg rfl rfl rfl | apply ResL.cons)); (repeat (exact .refl _)))
        · rw [if_neg g2]
          unfold ord3
          by_cases g3 : crossP a b c < 0
          · rw [if_pos g3]
            have hx2 := Rcross_c a b c ha hb hcc
            repeat (first | refine seq_ ?_ | refine region_ ?_ | refine nil_ ?_ | refine stepY (y_assign rfl) rfl ?_ | refine stepY (y_loadA rfl rfl rfl) rfl ?_ | refine stepE (e_box rfl rfl rfl rfl rfl rfl) ?_ | refine stepE (e_alloc rfl rfl rfl) ?_ | refine stepE (e_bs_vs rfl rfl rfl rfl rfl rfl) ?_)
            refine seal_Ls (i := 13) (h := 13) rfl rfl rfl rfl ?_
            refine call_ Try.func39 rfl rfl (hc) rfl (by repeat (first | exact .tags _ _ | apply Les.cons | exact .nil)) rfl ?_
            repeat (first | refine seq_ ?_ | refine region_ ?_ | refine nil_ ?_ | refine skip_ ?_ | refine cond_f rfl ?_ | refine stepY (y_move rfl) rfl ?_ | refine stepY (y_assign rfl) rfl ?_ | refine stepY (y_loadA rfl rfl rfl) rfl ?_ | refine stepY (y_cmpF rfl rfl rfl (by omega)) rfl ?_)
            refine call_ Try.func40 rfl rfl (hx) rfl (by repeat (first | exact .refl _ | apply Les.cons | exact .nil)) rfl ?_
            repeat (first | refine seq_ ?_ | refine region_ ?_ | refine nil_ ?_ | refine skip_ ?_ | refine cond_f rfl ?_ | refine stepY (y_loadA rfl rfl rfl) rfl ?_ | refine stepY (y_build_arrb rfl rfl rfl rfl) rfl ?_ | refine stepY (y_cmpF rfl rfl rfl (by omega)) rfl ?_ | refine stepE (e_alloc rfl rfl rfl) ?_ | refine stepE (e_store rfl rfl rfl rfl rfl rfl rfl) ?_)
            refine draw_ [(0, true), (1, true), (3, true), (4, true), (5, true), (6, true), (2, false), (7, false), (8, true)] 1000 [3, 4, 5, 6, 9] mixed (by kernel_rfl) rfl ?_
            ((refine dY rfl (y_loadA rfl rfl rfl) rfl rfl rfl rfl ?_); refine dY rfl (y_loadA rfl rfl rfl) rfl rfl rfl rfl ?_; refine dY rfl (y_index_arrb rfl rfl (by omega) (by omega)) rfl rfl rfl rfl ?_; refine dY rfl (y_loadA rfl rfl rfl) rfl rfl rfl rfl ?_; refine dY rfl (y_index_arrb rfl rfl (by omega) (by omega)) rfl rfl rfl rfl ?_; refine dY rfl (y_loadA rfl rfl rfl) rfl rfl rfl rfl ?_)
            refine dC rfl Try.func44 rfl rfl (sac) rfl (by repeat (first | exact .refl _ | apply Les.cons | exact .nil)) rfl rfl ?_
            skip
            refine dC rfl Try.func44 rfl rfl (sbc) rfl (by repeat (first | exact .refl _ | apply Les.cons | exact .nil)) rfl rfl ?_
            ((refine dY rfl (y_cmpF rfl rfl rfl (by omega)) rfl rfl rfl rfl ?_); refine dEnd ?_)
            repeat (first | refine seq_ ?_ | refine skip_ ?_ | refine cond_f rfl ?_)
            refine draw_ [(0, true), (1, true), (3, true), (4, true), (5, true), (6, true), (2, false), (7, false), (8, true)] 1000 [3, 4, 5, 6, 9] mixed (by kernel_rfl) rfl ?_
            ((refine dY rfl (y_loadA rfl rfl rfl) rfl rfl rfl rfl ?_); refine dY rfl (y_loadA rfl rfl rfl) rfl rfl rfl rfl ?_; refine dY rfl (y_index_arrb rfl rfl (by omega) (by omega)) rfl rfl rfl rfl ?_; refine dY rfl (y_loadA rfl rfl rfl) rfl rfl rfl rfl ?_; refine dY rfl (y_index_arrb rfl rfl (by omega) (by omega)) rfl rfl rfl rfl ?_; refine dY rfl (y_loadA rfl rfl rfl) rfl rfl rfl rfl ?_)
            refine dC rfl Try.func44 rfl rfl (sab) rfl (by repeat (first | exact .refl _ | apply Les.cons | exact .nil)) rfl rfl ?_
            skip
            refine dC rfl Try.func44 rfl rfl (sbc) rfl (by repeat (first | exact .refl _ | apply Les.cons | exact .nil)) rfl rfl ?_
            ((refine dY rfl (y_cmpF rfl rfl rfl (by omega)) rfl rfl rfl rfl ?_); refine dEnd ?_)
            repeat (first | refine seq_ ?_ | refine region_ ?_ | refine skip_ ?_ | refine cond_f rfl ?_ | refine stepY (y_loadA rfl rfl rfl) rfl ?_ | refine stepY (y_index_arrb rfl rfl (by omega) (by omega)) rfl ?_)
            refine call_ Try.func40 rfl rfl (hx2) rfl (by repeat (first | exact .refl _ | apply Les.cons | exact .nil)) rfl ?_
            repeat (first | refine seq_ ?_ | refine region_ ?_ | refine nil_ ?_ | refine ret_ ?_ | refine cond_t rfl ?_ | refine stepY (y_assign rfl) rfl ?_ | refine stepY (y_loadA rfl rfl rfl) rfl ?_ | refine stepY (y_build_arrb rfl rfl rfl rfl) rfl ?_ | refine stepY (y_index_arrb rfl rfl (by omega) (by omega)) rfl ?_ | refine stepY (y_cmpT rfl rfl rfl (by omega)) rfl ?_ | refine stepE (e_store rfl rfl rfl rfl rfl rfl rfl) ?_)
            ((apply fin_r); (repeat (first | exact .nil | exact .tmp rfl | exact .agg rfl rfl rfl | apply ResL.cons)); (repeat (exact .refl _)))
          · rw [if_neg g3]
            have hx2 := Rcross_c a b c ha hb hcc
            repeat (first | refine seq_ ?_ | refine region_ ?_ | refine nil_ ?_ | refine stepY (y_assign rfl) rfl ?_ | refine stepY (y_loadA rfl rfl rfl) rfl ?_ | refine stepE (e_box rfl rfl rfl rfl rfl rfl) ?_ | refine stepE (e_alloc rfl rfl rfl) ?_ | refine stepE (e_bs_vs rfl rfl rfl rfl rfl rfl) ?_)
            refine seal_Ls (i := 13) (h := 13) rfl rfl rfl rfl ?_
            refine call_ Try.func39 rfl rfl (hc) rfl (by repeat (first | exact .tags _ _ | apply Les.cons | exact .nil)) rfl ?_
            repeat (first | refine seq_ ?_ | refine region_ ?_ | refine nil_ ?_ | refine skip_ ?_ | refine cond_f rfl ?_ | refine stepY (y_move rfl) rfl ?_ | refine stepY (y_assign rfl) rfl ?_ | refine stepY (y_loadA rfl rfl rfl) rfl ?_ | refine stepY (y_cmpF rfl rfl rfl (by omega)) rfl ?_)
            refine call_ Try.func40 rfl rfl (hx) rfl (by repeat (first | exact .refl _ | apply Les.cons | exact .nil)) rfl ?_
            repeat (first | refine seq_ ?_ | refine region_ ?_ | refine nil_ ?_ | refine skip_ ?_ | refine cond_f rfl ?_ | refine stepY (y_loadA rfl rfl rfl) rfl ?_ | refine stepY (y_build_arrb rfl rfl rfl rfl) rfl ?_ | refine stepY (y_cmpF rfl rfl rfl (by omega)) rfl ?_ | refine stepE (e_alloc rfl rfl rfl) ?_ | refine stepE (e_store rfl rfl rfl rfl rfl rfl rfl) ?_)
            refine draw_ [(0, true), (1, true), (3, true), (4, true), (5, true), (6, true), (2, false), (7, false), (8, true)] 1000 [3, 4, 5, 6, 9] mixed (by kernel_rfl) rfl ?_
            ((refine dY rfl (y_loadA rfl rfl rfl) rfl rfl rfl rfl ?_); refine dY rfl (y_loadA rfl rfl rfl) rfl rfl rfl rfl ?_; refine dY rfl (y_index_arrb rfl rfl (by omega) (by omega)) rfl rfl rfl rfl ?_; refine dY rfl (y_loadA rfl rfl rfl) rfl rfl rfl rfl ?_; refine dY rfl (y_index_arrb rfl rfl (by omega) (by omega)) rfl rfl rfl rfl ?_; refine dY rfl (y_loadA rfl rfl rfl) rfl rfl rfl rfl ?_)
            refine dC rfl Try.func44 rfl rfl (sac) rfl (by repeat (first | exact .refl _ | apply Les.cons | exact .nil)) rfl rfl ?_
            skip
            refine dC rfl Try.func44 rfl rfl (sbc) rfl (by repeat (first | exact .refl _ | apply Les.cons | exact .nil)) rfl rfl ?_
            ((refine dY rfl (y_cmpF rfl rfl rfl (by omega)) rfl rfl rfl rfl ?_); refine dEnd ?_)
            repeat (first | refine seq_ ?_ | refine skip_ ?_ | refine cond_f rfl ?_)
            refine draw_ [(0, true), (1, true), (3, true), (4, true), (5, true), (6, true), (2, false), (7, false), (8, true)] 1000 [3, 4, 5, 6, 9] mixed (by kernel_rfl) rfl ?_
            ((refine dY rfl (y_loadA rfl rfl rfl) rfl rfl rfl rfl ?_); refine dY rfl (y_loadA rfl rfl rfl) rfl rfl rfl rfl ?_; refine dY rfl (y_index_arrb rfl rfl (by omega) (by omega)) rfl rfl rfl rfl ?_; refine dY rfl (y_loadA rfl rfl rfl) rfl rfl rfl rfl ?_; refine dY rfl (y_index_arrb rfl rfl (by omega) (by omega)) rfl rfl rfl rfl ?_; refine dY rfl (y_loadA rfl rfl rfl) rfl rfl rfl rfl ?_)
            refine dC rfl Try.func44 rfl rfl (sab) rfl (by repeat (first | exact .refl _ | apply Les.cons | exact .nil)) rfl rfl ?_
            skip
            refine dC rfl Try.func44 rfl rfl (sbc) rfl (by repeat (first | exact .refl _ | apply Les.cons | exact .nil)) rfl rfl ?_
            ((refine dY rfl (y_cmpF rfl rfl rfl (by omega)) rfl rfl rfl rfl ?_); refine dEnd ?_)
            repeat (first | refine seq_ ?_ | refine region_ ?_ | refine skip_ ?_ | refine cond_f rfl ?_ | refine stepY (y_loadA rfl rfl rfl) rfl ?_ | refine stepY (y_index_arrb rfl rfl (by omega) (by omega)) rfl ?_)
            refine call_ Try.func40 rfl rfl (hx2) rfl (by repeat (first | exact .refl _ | apply Les.cons | exact .nil)) rfl ?_
            repeat (first | refine seq_ ?_ | refine region_ ?_ | refine nil_ ?_ | refine skip_ ?_ | refine ret_ ?_ | refine cond_f rfl ?_ | refine stepY (y_assign rfl) rfl ?_ | refine stepY (y_loadA rfl rfl rfl) rfl ?_ | refine stepY (y_cmpF rfl rfl rfl (by omega)) rfl ?_ | refine stepE (e_store rfl rfl rfl rfl rfl rfl rfl) ?_)
            ((apply fin_r); (repeat (first | exact .nil | exact .tmp rfl | exact .agg rfl rfl rfl | apply ResL.cons)); (repeat (exact .refl _)))
  · rw [if_neg hs] at hc
    rw [if_pos hs]
    refine con_of Try.func18 rfl rfl rfl rfl rfl ?_
    repeat (first | refine seq_ ?_ | refine region_ ?_ | refine nil_ ?_ | refine stepY (y_assign rfl) rfl ?_ | refine stepY (y_loadA rfl rfl rfl) rfl ?_ | refine stepE (e_box rfl rfl rfl rfl rfl rfl) ?_ | refine stepE (e_alloc rfl rfl rfl) ?_ | refine stepE (e_bs_vs rfl rfl rfl rfl rfl rfl) ?_)
    refine seal_Ls (i := 13) (h := 13) rfl rfl rfl rfl ?_
    refine call_ Try.func39 rfl rfl (hc) rfl (by repeat (first | exact .tags _ _ | apply Les.cons | exact .nil)) rfl ?_
    repeat (first | refine seq_ ?_ | refine region_ ?_ | refine nil_ ?_ | refine ret_ ?_ | refine cond_t rfl ?_ | refine stepY (y_move rfl) rfl ?_ | refine stepY (y_assign rfl) rfl ?_ | refine stepY (y_build_arrb rfl rfl rfl rfl) rfl ?_ | refine stepY (y_cmpT rfl rfl rfl (by omega)) rfl ?_ | refine stepE (e_store rfl rfl rfl rfl rfl rfl rfl) ?_)
    ((apply fin_r); (repeat (first | exact .nil | exact .tmp rfl | exact .agg rfl rfl rfl | apply ResL.cons)); (repeat (exact .refl _)))
end Go.Av

set_option maxHeartbeats 8000000
set_option exponentiation.threshold 100000
set_option maxRecDepth 100000
set_option linter.unusedVariables false
set_option linter.unusedSimpArgs false
namespace Go.Av
open Go Go.Proofs

open Go.RowKit
theorem Order_c (a b c : Pt) : Con Try.prog 17 [pt a, pt b, pt c] (.tp [p3 (orR a b c).1, E_ (orR a b c).2]) := by
  unfold orR
  have hc := check_c [a, b, c]
  rw [chk3] at hc
  by_cases hs : sm a ∧ sm b ∧ sm c
  · rw [if_pos hs] at hc
    rw [if_neg (not_not_intro hs)]
    obtain ⟨ha, hb, hcc⟩ := hs
    have hx := cross_c a b c ha hb hcc
    have sac := square_c a c ha hcc
    have sbc := square_c b c hb hcc
    have sab := square_c a b ha hb
    refine con_of Try.func17 rfl rfl rfl rfl rfl ?_
    by_cases h0 : crossP a b c = 0
    · rw [if_pos h0]
      repeat (first | refine seq_ ?_ | refine region_ ?_ | refine nil_ ?_ | refine stepY (y_assign rfl) rfl ?_ | refine stepY (y_loadA rfl rfl rfl) rfl ?_ | refine stepE (e_box rfl rfl rfl rfl rfl rfl) ?_ | refine stepE (e_alloc rfl rfl rfl) ?_ | refine stepE (e_bs_vs rfl rfl rfl rfl rfl rfl) ?_)
      refine seal_Ls (i := 15) (h := 15) rfl rfl rfl rfl ?_
      refine call_ Try.func32 rfl rfl (hc) rfl (by repeat (first | exact .tags _ _ | apply Les.cons | exact .nil)) rfl ?_
      repeat (first | refine seq_ ?_ | refine region_ ?_ | refine nil_ ?_ | refine skip_ ?_ | refine cond_f rfl ?_ | refine stepY (y_move rfl) rfl ?_ | refine stepY (y_assign rfl) rfl ?_ | refine stepY (y_loadA rfl rfl rfl) rfl ?_ | refine stepY (y_cmpF rfl rfl rfl (by omega)) rfl ?_)
      refine call_ Try.func34 rfl rfl (hx) rfl (by repeat (first | exact .refl _ | apply Les.cons | exact .nil)) rfl ?_
      repeat (first | refine seq_ ?_ | refine region_ ?_ | refine nil_ ?_ | refine ret_ ?_ | refine cond_t rfl ?_ | refine stepY (y_assign rfl) rfl ?_ | refine stepY (y_build_arrb rfl rfl rfl rfl) rfl ?_ | refine stepY (y_cmpT rfl rfl rfl (by omega)) rfl ?_ | refine stepE (e_store rfl rfl rfl rfl rfl rfl rfl) ?_)
      ((apply fin_r); (repeat (first | exact .nil | exact .tmp rfl | exact .agg rfl rfl rfl | apply ResL.cons)); (repeat (exact .refl _)))
    · rw [if_neg h0]
      unfold ord1
      by_cases g1 : farP a c > farP b c
      · rw [if_pos g1]
        unfold ord2
        dsimp only
        by_cases g2 : farP a b > farP a c
        · rw [if_pos g2]
          unfold ord3
          by_cases g3 : crossP c a b < 0
          · rw [if_pos g3]
            have hx2 := cross_c c a b hcc ha hb
            repeat (first | refine seq_ ?_ | refine region_ ?_ | refine nil_ ?_ | refine stepY (y_assign rfl) rfl ?_ | refine stepY (y_loadA rfl rfl rfl) rfl ?_ | refine stepE (e_box rfl rfl rfl rfl rfl rfl) ?_ | refine stepE (e_alloc rfl rfl rfl) ?_ | refine stepE (e_bs_vs rfl rfl rfl rfl rfl rfl) ?_)
            refine seal_Ls (i := 15) (h := 15) rfl rfl rfl rfl ?_
            refine call_ Try.func32 rfl rfl (hc) rfl (by repeat (first | exact .tags _ _ | apply Les.cons | exact .nil)) rfl ?_
            repeat (first | refine seq_ ?_ | refine region_ ?_ | refine nil_ ?_ | refine skip_ ?_ | refine cond_f rfl ?_ | refine stepY (y_move rfl) rfl ?_ | refine stepY (y_assign rfl) rfl ?_ | refine stepY (y_loadA rfl rfl rfl) rfl ?_ | refine stepY (y_cmpF rfl rfl rfl (by omega)) rfl ?_)
            refine call_ Try.func34 rfl rfl (hx) rfl (by repeat (first | exact .refl _ | apply Les.cons | exact .nil)) rfl ?_
            repeat (first | refine seq_ ?_ | refine nil_ ?_ | refine skip_ ?_ | refine cond_f rfl ?_ | refine stepY (y_cmpF rfl rfl rfl (by omega)) rfl ?_)
            refine cut_ [(3, .ptr 3 0), (4, .ptr 4 0), (5, .ptr 5 0), (6, .ptr 6 0), (7, .p (E_ 0)), (9, .ptr 9 0), (10, .ptr 10 0), (11, .ptr 11 0)] [(3, .bx [I a.1, I a.2]), (4, .bx [I b.1, I b.2]), (5, .bx [I c.1, I c.2]), (6, .bx [I 0, I 0, I 0, I 0, I 0, I 0]), (9, .bx [I a.1, I a.2]), (10, .bx [I b.1, I b.2]), (11, .bx [I c.1, I c.2])] ?_ ?_
            · refine xDraw 1000 [3, 4, 5, 6] mixed ?_
              refine xY (i := 0) (op := .load _ _) rfl (by (exact y_loadA rfl rfl rfl)) rfl rfl rfl rfl (by kernel_rfl) ?_
              refine xY (i := 1) (op := .load _ _) rfl (by (exact y_loadA rfl rfl rfl)) rfl rfl rfl rfl (by kernel_rfl) ?_
              refine xY (i := 2) (op := .load _ _) rfl (by (exact y_loadA rfl rfl rfl)) rfl rfl rfl rfl (by kernel_rfl) ?_
              refine xAll (rs := [3, 4, 5]) (by kernel_rfl) rfl ⟨?_, ?_, ?_, trivial⟩
              · (refine iE rfl (e_alloc rfl rfl rfl) rfl rfl ?_)
                refine xAll (rs := [4, 5]) (by kernel_rfl) rfl ⟨?_, ?_, trivial⟩
                · (refine iE rfl (e_alloc rfl rfl rfl) rfl rfl ?_)
                  refine xAll (rs := [5]) (by kernel_rfl) rfl ⟨?_, trivial⟩
                  · (refine iE rfl (e_alloc rfl rfl rfl) rfl rfl ?_)
                    refine xAll (rs := [6]) (by kernel_rfl) rfl ⟨?_, trivial⟩
                    · (refine iE rfl (e_store rfl rfl rfl rfl rfl rfl rfl) rfl rfl ?_)
                      refine xAll (rs := [7]) (by kernel_rfl) rfl ⟨?_, trivial⟩
                      · (refine iE rfl (e_store rfl rfl rfl rfl rfl rfl rfl) rfl rfl ?_)
                        refine xAll (rs := [8]) (by kernel_rfl) rfl ⟨?_, trivial⟩
                        · (refine iE rfl (e_store rfl rfl rfl rfl rfl rfl rfl) rfl rfl ?_)
                          exact xEnd (by kernel_rfl) ⟨rfl, by (repeat (first | exact sub_nil | refine sub_cons rfl ?_)), by (repeat (first | exact subH_nil | refine subH_cons rfl ?_))⟩
                · (refine iE rfl (e_alloc rfl rfl rfl) rfl rfl ?_)
                  refine xAll (rs := [4]) (by kernel_rfl) rfl ⟨?_, trivial⟩
                  · (refine iE rfl (e_alloc rfl rfl rfl) rfl rfl ?_)
                    refine xAll (rs := [6]) (by kernel_rfl) rfl ⟨?_, trivial⟩
                    · (refine iE rfl (e_store rfl rfl rfl rfl rfl rfl rfl) rfl rfl ?_)
                      refine xAll (rs := [7]) (by kernel_rfl) rfl ⟨?_, trivial⟩
                      · (refine iE rfl (e_store rfl rfl rfl rfl rfl rfl rfl) rfl rfl ?_)
                        refine xAll (rs := [8]) (by kernel_rfl) rfl ⟨?_, trivial⟩
                        · (refine iE rfl (e_store rfl rfl rfl rfl rfl rfl rfl) rfl rfl ?_)
                          exact xEnd (by kernel_rfl) ⟨rfl, by (repeat (first | exact sub_nil | refine sub_cons rfl ?_)), by (repeat (first | exact subH_nil | refine subH_cons rfl ?_))⟩
              · (refine iE rfl (e_alloc rfl rfl rfl) rfl rfl ?_)
                refine xAll (rs := [3, 5]) (by kernel_rfl) rfl ⟨?_, ?_, trivial⟩
                · (refine iE rfl (e_alloc rfl rfl rfl) rfl rfl ?_)
                  refine xAll (rs := [5]) (by kernel_rfl) rfl ⟨?_, trivial⟩
                  · (refine iE rfl (e_alloc rfl rfl rfl) rfl rfl ?_)
                    refine xAll (rs := [6]) (by kernel_rfl) rfl ⟨?_, trivial⟩
                    · (refine iE rfl (e_store rfl rfl rfl rfl rfl rfl rfl) rfl rfl ?_)
                      refine xAll (rs := [7]) (by kernel_rfl) rfl ⟨?_, trivial⟩
                      · (refine iE rfl (e_store rfl rfl rfl rfl rfl rfl rfl) rfl rfl ?_)
                        refine xAll (rs := [8]) (by kernel_rfl) rfl ⟨?_, trivial⟩
                        · (refine iE rfl (e_store rfl rfl rfl rfl rfl rfl rfl) rfl rfl ?_)
                          exact xEnd (by kernel_rfl) ⟨rfl, by (repeat (first | exact sub_nil | refine sub_cons rfl ?_)), by (repeat (first | exact subH_nil | refine subH_cons rfl ?_))⟩
                · (refine iE rfl (e_alloc rfl rfl rfl) rfl rfl ?_)
                  refine xAll (rs := [3]) (by kernel_rfl) rfl ⟨?_, trivial⟩
                  · (refine iE rfl (e_alloc rfl rfl rfl) rfl rfl ?_)
                    refine xAll (rs := [6]) (by kernel_rfl) rfl ⟨?_, trivial⟩
                    · (refine iE rfl (e_store rfl rfl rfl rfl rfl rfl rfl) rfl rfl ?_)
                      refine xAll (rs := [7]) (by kernel_rfl) rfl ⟨?_, trivial⟩
                      · (refine iE rfl (e_store rfl rfl rfl rfl rfl rfl rfl) rfl rfl ?_)
                        refine xAll (rs := [8]) (by kernel_rfl) rfl ⟨?_, trivial⟩
                        · (refine iE rfl (e_store rfl rfl rfl rfl rfl rfl rfl) rfl rfl ?_)
                          exact xEnd (by kernel_rfl) ⟨rfl, by (repeat (first | exact sub_nil | refine sub_cons rfl ?_)), by (repeat (first | exact subH_nil | refine subH_cons rfl ?_))⟩
              · (refine iE rfl (e_alloc rfl rfl rfl) rfl rfl ?_)
                refine xAll (rs := [3, 4]) (by kernel_rfl) rfl ⟨?_, ?_, trivial⟩
                · (refine iE rfl (e_alloc rfl rfl rfl) rfl rfl ?_)
                  refine xAll (rs := [4]) (by kernel_rfl) rfl ⟨?_, trivial⟩
                  · (refine iE rfl (e_alloc rfl rfl rfl) rfl rfl ?_)
                    refine xAll (rs := [6]) (by kernel_rfl) rfl ⟨?_, trivial⟩
                    · (refine iE rfl (e_store rfl rfl rfl rfl rfl rfl rfl) rfl rfl ?_)
                      refine xAll (rs := [7]) (by kernel_rfl) rfl ⟨?_, trivial⟩
                      · (refine iE rfl (e_store rfl rfl rfl rfl rfl rfl rfl) rfl rfl ?_)
                        refine xAll (rs := [8]) (by kernel_rfl) rfl ⟨?_, trivial⟩
                        · (refine iE rfl (e_store rfl rfl rfl rfl rfl rfl rfl) rfl rfl ?_)
                          exact xEnd (by kernel_rfl) ⟨rfl, by (repeat (first | exact sub_nil | refine sub_cons rfl ?_)), by (repeat (first | exact subH_nil | refine subH_cons rfl ?_))⟩
                · (refine iE rfl (e_alloc rfl rfl rfl) rfl rfl ?_)
                  refine xAll (rs := [3]) (by kernel_rfl) rfl ⟨?_, trivial⟩
                  · (refine iE rfl (e_alloc rfl rfl rfl) rfl rfl ?_)
                    refine xAll (rs := [6]) (by kernel_rfl) rfl ⟨?_, trivial⟩
                    · (refine iE rfl (e_store rfl rfl rfl rfl rfl rfl rfl) rfl rfl ?_)
                      refine xAll (rs := [7]) (by kernel_rfl) rfl ⟨?_, trivial⟩
                      · (refine iE rfl (e_store rfl rfl rfl rfl rfl rfl rfl) rfl rfl ?_)
                        refine xAll (rs := [8]) (by kernel_rfl) rfl ⟨?_, trivial⟩
                        · (refine iE rfl (e_store rfl rfl rfl rfl rfl rfl rfl) rfl rfl ?_)
                          exact xEnd (by kernel_rfl) ⟨rfl, by (repeat (first | exact sub_nil | refine sub_cons rfl ?_)), by (repeat (first | exact subH_nil | refine subH_cons rfl ?_))⟩
            repeat (refine seq_ ?_)
            refine draw_ [(0, true), (1, true), (3, true), (4, true), (2, false), (5, false), (6, true)] 1000 [3, 4, 5, 6, 9, 10, 11] mixed (by kernel_rfl) rfl ?_
            ((refine dY rfl (y_loadA rfl rfl rfl) rfl rfl rfl rfl ?_); refine dY rfl (y_loadA rfl rfl rfl) rfl rfl rfl rfl ?_; refine dY rfl (y_loadA rfl rfl rfl) rfl rfl rfl rfl ?_; refine dY rfl (y_loadA rfl rfl rfl) rfl rfl rfl rfl ?_)
            refine dC rfl Try.func43 rfl rfl (sac) rfl (by repeat (first | exact .refl _ | apply Les.cons | exact .nil)) rfl rfl ?_
            skip
            refine dC rfl Try.func43 rfl rfl (sbc) rfl (by repeat (first | exact .refl _ | apply Les.cons | exact .nil)) rfl rfl ?_
            ((refine dY rfl (y_cmpT rfl rfl rfl (by omega)) rfl rfl rfl rfl ?_); refine dEnd ?_)
            repeat (refine cond_t rfl ?_)
            refine cut_ [(3, .ptr 3 0), (4, .ptr 4 0), (5, .ptr 5 0), (6, .ptr 6 0), (7, .p (E_ 0)), (9, .ptr 9 0), (10, .ptr 10 0), (11, .ptr 11 0)] [(3, .bx [I a.1, I a.2]), (4, .bx [I b.1, I b.2]), (5, .bx [I c.1, I c.2]), (6, .bx [I 0, I 0, I 0, I 0, I 0, I 0]), (9, .bx [I b.1, I b.2]), (10, .bx [I a.1, I a.2]), (11, .bx [I c.1, I c.2])] ?_ ?_
            · refine xDraw 1000 [3, 4, 5, 6] mixed ?_
              refine xY (i := 0) (op := .load _ _) rfl (by (exact y_loadA rfl rfl rfl)) rfl rfl rfl rfl (by kernel_rfl) ?_
              refine xY (i := 1) (op := .load _ _) rfl (by (exact y_loadA rfl rfl rfl)) rfl rfl rfl rfl (by kernel_rfl) ?_
              refine xY (i := 2) (op := .load _ _) rfl (by (exact y_loadA rfl rfl rfl)) rfl rfl rfl rfl (by kernel_rfl) ?_
              refine xAll (rs := [3]) (by kernel_rfl) rfl ⟨?_, trivial⟩
              · (refine iE rfl (e_store rfl rfl rfl rfl rfl rfl rfl) rfl rfl ?_)
                refine xAll (rs := [4]) (by kernel_rfl) rfl ⟨?_, trivial⟩
                · (refine iE rfl (e_store rfl rfl rfl rfl rfl rfl rfl) rfl rfl ?_)
                  refine xAll (rs := [5]) (by kernel_rfl) rfl ⟨?_, trivial⟩
                  · (refine iE rfl (e_store rfl rfl rfl rfl rfl rfl rfl) rfl rfl ?_)
                    exact xEnd (by kernel_rfl) ⟨rfl, by (repeat (first | exact sub_nil | refine sub_cons rfl ?_)), by (repeat (first | exact subH_nil | refine subH_cons rfl ?_))⟩
            repeat (refine seq_ ?_)
            refine draw_ [(0, true), (1, true), (3, true), (4, true), (2, false), (5, false), (6, true)] 1000 [3, 4, 5, 6, 9, 10, 11] mixed (by kernel_rfl) rfl ?_
            ((refine dY rfl (y_loadA rfl rfl rfl) rfl rfl rfl rfl ?_); refine dY rfl (y_loadA rfl rfl rfl) rfl rfl rfl rfl ?_; refine dY rfl (y_loadA rfl rfl rfl) rfl rfl rfl rfl ?_; refine dY rfl (y_loadA rfl rfl rfl) rfl rfl rfl rfl ?_)
            refine dC rfl Try.func43 rfl rfl (sab) rfl (by repeat (first | exact .refl _ | apply Les.cons | exact .nil)) rfl rfl ?_
            skip
            refine dC rfl Try.func43 rfl rfl (sac) rfl (by repeat (first | exact .refl _ | apply Les.cons | exact .nil)) rfl rfl ?_
            ((refine dY rfl (y_cmpT rfl rfl rfl (by omega)) rfl rfl rfl rfl ?_); refine dEnd ?_)
            repeat (refine cond_t rfl ?_)
            refine cut_ [(3, .ptr 3 0), (4, .ptr 4 0), (5, .ptr 5 0), (6, .ptr 6 0), (7, .p (E_ 0)), (9, .ptr 9 0), (10, .ptr 10 0), (11, .ptr 11 0)] [(3, .bx [I a.1, I a.2]), (4, .bx [I b.1, I b.2]), (5, .bx [I c.1, I c.2]), (6, .bx [I 0, I 0, I 0, I 0, I 0, I 0]), (9, .bx [I c.1, I c.2]), (10, .bx [I a.1, I a.2]), (11, .bx [I b.1, I b.2])] ?_ ?_
            · refine xDraw 1000 [3, 4, 5, 6] mixed ?_
              refine xY (i := 0) (op := .load _ _) rfl (by (exact y_loadA rfl rfl rfl)) rfl rfl rfl rfl (by kernel_rfl) ?_
              refine xY (i := 1) (op := .load _ _) rfl (by (exact y_loadA rfl rfl rfl)) rfl rfl rfl rfl (by kernel_rfl) ?_
              refine xY (i := 2) (op := .load _ _) rfl (by (exact y_loadA rfl rfl rfl)) rfl rfl rfl rfl (by kernel_rfl) ?_
              refine xAll (rs := [3]) (by kernel_rfl) rfl ⟨?_, trivial⟩
              · (refine iE rfl (e_store rfl rfl rfl rfl rfl rfl rfl) rfl rfl ?_)
                refine xAll (rs := [4]) (by kernel_rfl) rfl ⟨?_, trivial⟩
                · (refine iE rfl (e_store rfl rfl rfl rfl rfl rfl rfl) rfl rfl ?_)
                  refine xAll (rs := [5]) (by kernel_rfl) rfl ⟨?_, trivial⟩
                  · (refine iE rfl (e_store rfl rfl rfl rfl rfl rfl rfl) rfl rfl ?_)
                    exact xEnd (by kernel_rfl) ⟨rfl, by (repeat (first | exact sub_nil | refine sub_cons rfl ?_)), by (repeat (first | exact subH_nil | refine subH_cons rfl ?_))⟩
            repeat (first | refine seq_ ?_ | refine region_ ?_ | refine stepY (y_loadA rfl rfl rfl) rfl ?_)
            refine call_ Try.func34 rfl rfl (hx2) rfl (by repeat (first | exact .refl _ | apply Les.cons | exact .nil)) rfl ?_
            repeat (first | refine seq_ ?_ | refine region_ ?_ | refine nil_ ?_ | refine ret_ ?_ | refine cond_t rfl ?_ | refine stepY (y_assign rfl) rfl ?_ | refine stepY (y_loadA rfl rfl rfl) rfl ?_ | refine stepY (y_build_arrb rfl rfl rfl rfl) rfl ?_ | refine stepY (y_cmpT rfl rfl rfl (by omega)) rfl ?_ | refine stepE (e_store rfl rfl rfl rfl rfl rfl rfl) ?_)
            ((apply fin_r); (repeat (first | exact .nil | exact .tmp rfl | exact .agg rfl rfl rfl | apply ResL.cons)); (repeat (exact .refl _)))
          · rw [if_neg g3]
            have hx2 := cross_c c a b hcc ha hb
            repeat (first | refine seq_ ?_ | refine region_ ?_ | refine nil_ ?_ | refine stepY (y_assign rfl) rfl ?_ | refine stepY (y_loadA rfl rfl rfl) rfl ?_ | refine stepE (e_box rfl rfl rfl rfl rfl rfl) ?_ | refine stepE (e_alloc rfl rfl rfl) ?_ | refine stepE (e_bs_vs rfl rfl rfl rfl rfl rfl) ?_)
            refine seal_Ls (i := 15) (h := 15) rfl rfl rfl rfl ?_
            refine call_ Try.func32 rfl rfl (hc) rfl (by repeat (first | exact .tags _ _ | apply Les.cons | exact .nil)) rfl ?_
            repeat (first | refine seq_ ?_ | refine region_ ?_ | refine nil_ ?_ | refine skip_ ?_ | refine cond_f rfl ?_ | refine stepY (y_move rfl) rfl ?_ | refine stepY (y_assign rfl) rfl ?_ | refine stepY (y_loadA rfl rfl rfl) rfl ?_ | refine stepY (y_cmpF rfl rfl rfl (by omega)) rfl ?_)
            refine call_ Try.func34 rfl rfl (hx) rfl (by repeat (first | exact .refl _ | apply Les.cons | exact .nil)) rfl ?_
            repeat (first | refine seq_ ?_ | refine nil_ ?_ | refine skip_ ?_ | refine cond_f rfl ?_ | refine stepY (y_cmpF rfl rfl rfl (by omega)) rfl ?_)
            refine cut_ [(3, .ptr 3 0), (4, .ptr 4 0), (5, .ptr 5 0), (6, .ptr 6 0), (7, .p (E_ 0)), (9, .ptr 9 0), (10, .ptr 10 0), (11, .ptr 11 0)] [(3, .bx [I a.1, I a.2]), (4, .bx [I b.1, I b.2]), (5, .bx [I c.1, I c.2]), (6, .bx [I 0, I 0, I 0, I 0, I 0, I 0]), (9, .bx [I a.1, I a.2]), (10, .bx [I b.1, I b.2]), (11, .bx [I c.1, I c.2])] ?_ ?_
            · refine xDraw 1000 [3, 4, 5, 6] mixed ?_
              refine xY (i := 0) (op := .load _ _) rfl (by (exact y_loadA rfl rfl rfl)) rfl rfl rfl rfl (by kernel_rfl) ?_
              refine xY (i := 1) (op := .load _ _) rfl (by (exact y_loadA rfl rfl rfl)) rfl rfl rfl rfl (by kernel_rfl) ?_
              refine xY (i := 2) (op := .load _ _) rfl (by (exact y_loadA rfl rfl rfl)) rfl rfl rfl rfl (by kernel_rfl) ?_
              refine xAll (rs := [3, 4, 5]) (by kernel_rfl) rfl ⟨?_, ?_, ?_, trivial⟩
              · (refine iE rfl (e_alloc rfl rfl rfl) rfl rfl ?_)
                refine xAll (rs := [4, 5]) (by kernel_rfl) rfl ⟨?_, ?_, trivial⟩
                · (refine iE rfl (e_alloc rfl rfl rfl) rfl rfl ?_)
                  refine xAll (rs := [5]) (by kernel_rfl) rfl ⟨?_, trivial⟩
                  · (refine iE rfl (e_alloc rfl rfl rfl) rfl rfl ?_)
                    refine xAll (rs := [6]) (by kernel_rfl) rfl ⟨?_, trivial⟩
                    · (refine iE rfl (e_store rfl rfl rfl rfl rfl rfl rfl) rfl rfl ?_)
                      refine xAll (rs := [7]) (by kernel_rfl) rfl ⟨?_, trivial⟩
                      · (refine iE rfl (e_store rfl rfl rfl rfl rfl rfl rfl) rfl rfl ?_)
                        refine xAll (rs := [8]) (by kernel_rfl) rfl ⟨?_, trivial⟩
                        · (refine iE rfl (e_store rfl rfl rfl rfl rfl rfl rfl) rfl rfl ?_)
                          exact xEnd (by kernel_rfl) ⟨rfl, by (repeat (first | exact sub_nil | refine sub_cons rfl ?_)), by (repeat (first | exact subH_nil | refine subH_cons rfl ?_))⟩
                · (refine iE rfl (e_alloc rfl rfl rfl) rfl rfl ?_)
                  refine xAll (rs := [4]) (by kernel_rfl) rfl ⟨?_, trivial⟩
                  · (refine iE rfl (e_alloc rfl rfl rfl) rfl rfl ?_)
                    refine xAll (rs := [6]) (by kernel_rfl) rfl ⟨?_, trivial⟩
                    · (refine iE rfl (e_store rfl rfl rfl rfl rfl rfl rfl) rfl rfl ?_)
                      refine xAll (rs := [7]) (by kernel_rfl) rfl ⟨?_, trivial⟩
                      · (refine iE rfl (e_store rfl rfl rfl rfl rfl rfl rfl) rfl rfl ?_)
                        refine xAll (rs := [8]) (by kernel_rfl) rfl ⟨?_, trivial⟩
                        · (refine iE rfl (e_store rfl rfl rfl rfl rfl rfl rfl) rfl rfl ?_)
                          exact xEnd (by kernel_rfl) ⟨rfl, by (repeat (first | exact sub_nil | refine sub_cons rfl ?_)), by (repeat (first | exact subH_nil | refine subH_cons rfl ?_))⟩
              · (refine iE rfl (e_alloc rfl rfl rfl) rfl rfl ?_)
                refine xAll (rs := [3, 5]) (by kernel_rfl) rfl ⟨?_, ?_, trivial⟩
                · (refine iE rfl (e_alloc rfl rfl rfl) rfl rfl ?_)
                  refine xAll (rs := [5]) (by kernel_rfl) rfl ⟨?_, trivial⟩
                  · (refine iE rfl (e_alloc rfl rfl rfl) rfl rfl ?_)
                    refine xAll (rs := [6]) (by kernel_rfl) rfl ⟨?_, trivial⟩
                    · (refine iE rfl (e_store rfl rfl rfl rfl rfl rfl rfl) rfl rfl ?_)
                      refine xAll (rs := [7]) (by kernel_rfl) rfl ⟨?_, trivial⟩
                      · (refine iE rfl (e_store rfl rfl rfl rfl rfl rfl rfl) rfl rfl ?_)
                        refine xAll (rs := [8]) (by kernel_rfl) rfl ⟨?_, trivial⟩
                        · (refine iE rfl (e_store rfl rfl rfl rfl rfl rfl rfl) rfl rfl ?_)
                          exact xEnd (by kernel_rfl) ⟨rfl, by (repeat (first | exact sub_nil | refine sub_cons rfl ?_)), by (repeat (first | exact subH_nil | refine subH_cons rfl ?_))⟩
                · (refine iE rfl (e_alloc rfl rfl rfl) rfl rfl ?_)
                  refine xAll (rs := [3]) (by kernel_rfl) rfl ⟨?_, trivial⟩
                  · (refine iE rfl (e_alloc rfl rfl rfl) rfl rfl ?_)
                    refine xAll (rs := [6]) (by kernel_rfl) rfl ⟨?_, trivial⟩
                    · (refine iE rfl (e_store rfl rfl rfl rfl rfl rfl rfl) rfl rfl ?_)
                      refine xAll (rs := [7]) (by kernel_rfl) rfl ⟨?_, trivial⟩
                      · (refine iE rfl (e_store rfl rfl rfl rfl rfl rfl rfl) rfl rfl ?_)
                        refine xAll (rs := [8]) (by kernel_rfl) rfl ⟨?_, trivial⟩
                        · (refine iE rfl (e_store rfl rfl rfl rfl rfl rfl rfl) rfl rfl ?_)
                          exact xEnd (by kernel_rfl) ⟨rfl, by (repeat (first | exact sub_nil | refine sub_cons rfl ?_)), by (repeat (first | exact subH_nil | refine subH_cons rfl ?_))⟩
              · (refine iE rfl (e_alloc rfl rfl rfl) rfl rfl ?_)
                refine xAll (rs := [3, 4]) (by kernel_rfl) rfl ⟨?_, ?_, trivial⟩
                · (refine iE rfl (e_alloc rfl rfl rfl) rfl rfl ?_)
                  refine xAll (rs := [4]) (by kernel_rfl) rfl ⟨?_, trivial⟩
                  · (refine iE rfl (e_alloc rfl rfl rfl) rfl rfl ?_)
                    refine xAll (rs := [6]) (by kernel_rfl) rfl ⟨?_, trivial⟩
                    · (refine iE rfl (e_store rfl rfl rfl rfl rfl rfl rfl) rfl rfl ?_)
                      refine xAll (rs := [7]) (by kernel_rfl) rfl ⟨?_, trivial⟩
                      · (refine iE rfl (e_store rfl rfl rfl rfl rfl rfl rfl) rfl rfl ?_)
                        refine xAll (rs := [8]) (by kernel_rfl) rfl ⟨?_, trivial⟩
                        · (refine iE rfl (e_store rfl rfl rfl rfl rfl rfl rfl) rfl rfl ?_)
                          exact xEnd (by kernel_rfl) ⟨rfl, by (repeat (first | exact sub_nil | refine sub_cons rfl ?_)), by (repeat (first | exact subH_nil | refine subH_cons rfl ?_))⟩
                · (refine iE rfl (e_alloc rfl rfl rfl) rfl rfl ?_)
                  refine xAll (rs := [3]) (by kernel_rfl) rfl ⟨?_, trivial⟩
                  · (refine iE rfl (e_alloc rfl rfl rfl) rfl rfl ?_)
                    refine xAll (rs := [6]) (by kernel_rfl) rfl ⟨?_, trivial⟩
                    · (refine iE rfl (e_store rfl rfl rfl rfl rfl rfl rfl) rfl rfl ?_)
                      refine xAll (rs := [7]) (by kernel_rfl) rfl ⟨?_, trivial⟩
                      · (refine iE rfl (e_store rfl rfl rfl rfl rfl rfl rfl) rfl rfl ?_)
                        refine xAll (rs := [8]) (by kernel_rfl) rfl ⟨?_, trivial⟩
                        · (refine iE rfl (e_store rfl rfl rfl rfl rfl rfl rfl) rfl rfl ?_)
                          exact xEnd (by kernel_rfl) ⟨rfl, by (repeat (first | exact sub_nil | refine sub_cons rfl ?_)), by (repeat (first | exact subH_nil | refine subH_cons rfl ?_))⟩
            repeat (refine seq_ ?_)
            refine draw_ [(0, true), (1, true), (3, true), (4, true), (2, false), (5, false), (6, true)] 1000 [3, 4, 5, 6, 9, 10, 11] mixed (by kernel_rfl) rfl ?_
            ((refine dY rfl (y_loadA rfl rfl rfl) rfl rfl rfl rfl ?_); refine dY rfl (y_loadA rfl rfl rfl) rfl rfl rfl rfl ?_; refine dY rfl (y_loadA rfl rfl rfl) rfl rfl rfl rfl ?_; refine dY rfl (y_loadA rfl rfl rfl) rfl rfl rfl rfl ?_)
            refine dC rfl Try.func43 rfl rfl (sac) rfl (by repeat (first | exact .refl _ | apply Les.cons | exact .nil)) rfl rfl ?_
            skip
            refine dC rfl Try.func43 rfl rfl (sbc) rfl (by repeat (first | exact .refl _ | apply Les.cons | exact .nil)) rfl rfl ?_
            ((refine dY rfl (y_cmpT rfl rfl rfl (by omega)) rfl rfl rfl rfl ?_); refine dEnd ?_)
            repeat (refine cond_t rfl ?_)
            refine cut_ [(3, .ptr 3 0), (4, .ptr 4 0), (5, .ptr 5 0), (6, .ptr 6 0), (7, .p (E_ 0)), (9, .ptr 9 0), (10, .ptr 10 0), (11, .ptr 11 0)] [(3, .bx [I a.1, I a.2]), (4, .bx [I b.1, I b.2]), (5, .bx [I c.1, I c.2]), (6, .bx [I 0, I 0, I 0, I 0, I 0, I 0]), (9, .bx [I b.1, I b.2]), (10, .bx [I a.1, I a.2]), (11, .bx [I c.1, I c.2])] ?_ ?_
            · refine xDraw 1000 [3, 4, 5, 6] mixed ?_
              refine xY (i := 0) (op := .load _ _) rfl (by (exact y_loadA rfl rfl rfl)) rfl rfl rfl rfl (by kernel_rfl) ?_
              refine xY (i := 1) (op := .load _ _) rfl (by (exact y_loadA rfl rfl rfl)) rfl rfl rfl rfl (by kernel_rfl) ?_
              refine xY (i := 2) (op := .load _ _) rfl (by (exact y_loadA rfl rfl rfl)) rfl rfl rfl rfl (by kernel_rfl) ?_
              refine xAll (rs := [3]) (by kernel_rfl) rfl ⟨?_, trivial⟩
              · (refine iE rfl (e_store rfl rfl rfl rfl rfl rfl rfl) rfl rfl ?_)
                refine xAll (rs := [4]) (by kernel_rfl) rfl ⟨?_, trivial⟩
                · (refine iE rfl (e_store rfl rfl rfl rfl rfl rfl rfl) rfl rfl ?_)
                  refine xAll (rs := [5]) (by kernel_rfl) rfl ⟨?_, trivial⟩
                  · (refine iE rfl (e_store rfl rfl rfl rfl rfl rfl rfl) rfl rfl ?_)
                    exact xEnd (by kernel_rfl) ⟨rfl, by (repeat (first | exact sub_nil | refine sub_cons rfl ?_)), by (repeat (first | exact subH_nil | refine subH_cons rfl ?_))⟩
            repeat (refine seq_ ?_)
            refine draw_ [(0, true), (1, true), (3, true), (4, true), (2, false), (5, false), (6, true)] 1000 [3, 4, 5, 6, 9, 10, 11] mixed (by kernel_rfl) rfl ?_
            ((refine dY rfl (y_loadA rfl rfl rfl) rfl rfl rfl rfl ?_); refine dY rfl (y_loadA rfl rfl rfl) rfl rfl rfl rfl ?_; refine dY rfl (y_loadA rfl rfl rfl) rfl rfl rfl rfl ?_; refine dY rfl (y_loadA rfl rfl rfl) rfl rfl rfl rfl ?_)
            refine dC rfl Try.func43 rfl rfl (sab) rfl (by repeat (first | exact .refl _ | apply Les.cons | exact .nil)) rfl rfl ?_
            skip
            refine dC rfl Try.func43 rfl rfl (sac) rfl (by repeat (first | exact .refl _ | apply Les.cons | exact .nil)) rfl rfl ?_
            ((refine dY rfl (y_cmpT rfl rfl rfl (by omega)) rfl rfl rfl rfl ?_); refine dEnd ?_)
            repeat (refine cond_t rfl ?_)
            refine cut_ [(3, .ptr 3 0), (4, .ptr 4 0), (5, .ptr 5 0), (6, .ptr 6 0), (7, .p (E_ 0)), (9, .ptr 9 0), (10, .ptr 10 0), (11, .ptr 11 0)] [(3, .bx [I a.1, I a.2]), (4, .bx [I b.1, I b.2]), (5, .bx [I c.1, I c.2]), (6, .bx [I 0, I 0, I 0, I 0, I 0, I 0]), (9, .bx [I c.1, I c.2]), (10, .bx [I a.1, I a.2]), (11, .bx [I b.1, I b.2])] ?_ ?_
            · refine xDraw 1000 [3, 4, 5, 6] mixed ?_
              refine xY (i := 0) (op := .load _ _) rfl (by (exact y_loadA rfl rfl rfl)) rfl rfl rfl rfl (by kernel_rfl) ?_
              refine xY (i := 1) (op := .load _ _) rfl (by (exact y_loadA rfl rfl rfl)) rfl rfl rfl rfl (by kernel_rfl) ?_
              refine xY (i := 2) (op := .load _ _) rfl (by (exact y_loadA rfl rfl rfl)) rfl rfl rfl rfl (by kernel_rfl) ?_
              refine xAll (rs := [3]) (by kernel_rfl) rfl ⟨?_, trivial⟩
              · (refine iE rfl (e_store rfl rfl rfl rfl rfl rfl rfl) rfl rfl ?_)
                refine xAll (rs := [4]) (by kernel_rfl) rfl ⟨?_, trivial⟩
                · (refine iE rfl (e_store rfl rfl rfl rfl rfl rfl rfl) rfl rfl ?_)
                  refine xAll (rs := [5]) (by kernel_rfl) rfl ⟨?_, trivial⟩
                  · (refine iE rfl (e_store rfl rfl rfl rfl rfl rfl rfl) rfl rfl ?_)
                    exact xEnd (by kernel_rfl) ⟨rfl, by (repeat (first | exact sub_nil | refine sub_cons rfl ?_)), by (repeat (first | exact subH_nil | refine subH_cons rfl ?_))⟩
            repeat (first | refine seq_ ?_ | refine region_ ?_ | refine stepY (y_loadA rfl rfl rfl) rfl ?_)
            refine call_ Try.func34 rfl rfl (hx2) rfl (by repeat (first | exact .refl _ | apply Les.cons | exact .nil)) rfl ?_
            repeat (first | refine seq_ ?_ | refine region_ ?_ | refine nil_ ?_ | refine skip_ ?_ | refine ret_ ?_ | refine cond_f rfl ?_ | refine stepY (y_assign rfl) rfl ?_ | refine stepY (y_loadA rfl rfl rfl) rfl ?_ | refine stepY (y_build_arrb rfl rfl rfl rfl) rfl ?_ | refine stepY (y_cmpF rfl rfl rfl (by omega)) rfl ?_ | refine stepE (e_store rfl rfl rfl rfl rfl rfl rfl) ?_)
            ((apply fin_r); (repeat (first | exact .nil | exact .tmp rfl | exact .agg rfl rfl rfl | apply ResL.cons)); (repeat (exact .refl _)))
        · rw [if_neg g2]
          unfold ord3
          by_cases g3 : crossP b a c < 0
          · rw [if_pos g3]
            have hx2 := cross_c b a c hb ha hcc
            repeat (first | refine seq_ ?_ | refine region_ ?_ | refine nil_ ?_ | refine stepY (y_assign rfl) rfl ?_ | refine stepY (y_loadA rfl rfl rfl) rfl ?_ | refine stepE (e_box rfl rfl rfl rfl rfl rfl) ?_ | refine stepE (e_alloc rfl rfl rfl) ?_ | refine stepE (e_bs_vs rfl rfl rfl rfl rfl rfl) ?_)
            refine seal_Ls (i := 15) (h := 15) rfl rfl rfl rfl ?_
            refine call_ Try.func32 rfl rfl (hc) rfl (by repeat (first | exact .tags _ _ | apply Les.cons | exact .nil)) rfl ?_
            repeat (first | refine seq_ ?_ | refine region_ ?_ | refine nil_ ?_ | refine skip_ ?_ | refine cond_f rfl ?_ | refine stepY (y_move rfl) rfl ?_ | refine stepY (y_assign rfl) rfl ?_ | refine stepY (y_loadA rfl rfl rfl) rfl ?_ | refine stepY (y_cmpF rfl rfl rfl (by omega)) rfl ?_)
            refine call_ Try.func34 rfl rfl (hx) rfl (by repeat (first | exact .refl _ | apply Les.cons | exact .nil)) rfl ?_
            repeat (first | refine seq_ ?_ | refine nil_ ?_ | refine skip_ ?_ | refine cond_f rfl ?_ | refine stepY (y_cmpF rfl rfl rfl (by omega)) rfl ?_)
            refine cut_ [(3, .ptr 3 0), (4, .ptr 4 0), (5, .ptr 5 0), (6, .ptr 6 0), (7, .p (E_ 0)), (9, .ptr 9 0), (10, .ptr 10 0), (11, .ptr 11 0)] [(3, .bx [I a.1, I a.2]), (4, .bx [I b.1, I b.2]), (5, .bx [I c.1, I c.2]), (6, .bx [I 0, I 0, I 0, I 0, I 0, I 0]), (9, .bx [I a.1, I a.2]), (10, .bx [I b.1, I b.2]), (11, .bx [I c.1, I c.2])] ?_ ?_
            · refine xDraw 1000 [3, 4, 5, 6] mixed ?_
              refine xY (i := 0) (op := .load _ _) rfl (by (exact y_loadA rfl rfl rfl)) rfl rfl rfl rfl (by kernel_rfl) ?_
              refine xY (i := 1) (op := .load _ _) rfl (by (exact y_loadA rfl rfl rfl)) rfl rfl rfl rfl (by kernel_rfl) ?_
              refine xY (i := 2) (op := .load _ _) rfl (by (exact y_loadA rfl rfl rfl)) rfl rfl rfl rfl (by kernel_rfl) ?_
              refine xAll (rs := [3, 4, 5]) (by kernel_rfl) rfl ⟨?_, ?_, ?_, trivial⟩
              · (refine iE rfl (e_alloc rfl rfl rfl) rfl rfl ?_)
                refine xAll (rs := [4, 5]) (by kernel_rfl) rfl ⟨?_, ?_, trivial⟩
                · (refine iE rfl (e_alloc rfl rfl rfl) rfl rfl ?_)
                  refine xAll (rs := [5]) (by kernel_rfl) rfl ⟨?_, trivial⟩
                  · (refine iE rfl (e_alloc rfl rfl rfl) rfl rfl ?_)
                    refine xAll (rs := [6]) (by kernel_rfl) rfl ⟨?_, trivial⟩
                    · (refine iE rfl (e_store rfl rfl rfl rfl rfl rfl rfl) rfl rfl ?_)
                      refine xAll (rs := [7]) (by kernel_rfl) rfl ⟨?_, trivial⟩
                      · (refine iE rfl (e_store rfl rfl rfl rfl rfl rfl rfl) rfl rfl ?_)
                        refine xAll (rs := [8]) (by kernel_rfl) rfl ⟨?_, trivial⟩
                        · (refine iE rfl (e_store rfl rfl rfl rfl rfl rfl rfl) rfl rfl ?_)
                          exact xEnd (by kernel_rfl) ⟨rfl, by (repeat (first | exact sub_nil | refine sub_cons rfl ?_)), by (repeat (first | exact subH_nil | refine subH_cons rfl ?_))⟩
                · (refine iE rfl (e_alloc rfl rfl rfl) rfl rfl ?_)
                  refine xAll (rs := [4]) (by kernel_rfl) rfl ⟨?_, trivial⟩
                  · (refine iE rfl (e_alloc rfl rfl rfl) rfl rfl ?_)
                    refine xAll (rs := [6]) (by kernel_rfl) rfl ⟨?_, trivial⟩
                    · (refine iE rfl (e_store rfl rfl rfl rfl rfl rfl rfl) rfl rfl ?_)
                      refine xAll (rs := [7]) (by kernel_rfl) rfl ⟨?_, trivial⟩
                      · (refine iE rfl (e_store rfl rfl rfl rfl rfl rfl rfl) rfl rfl ?_)
                        refine xAll (rs := [8]) (by kernel_rfl) rfl ⟨?_, trivial⟩
                        · (refine iE rfl (e_store rfl rfl rfl rfl rfl rfl rfl) rfl rfl ?_)
                          exact xEnd (by kernel_rfl) ⟨rfl, by (repeat (first | exact sub_nil | refine sub_cons rfl ?_)), by (repeat (first | exact subH_nil | refine subH_cons rfl ?_))⟩
              · (refine iE rfl (e_alloc rfl rfl rfl) rfl rfl ?_)
                refine xAll (rs := [3, 5]) (by kernel_rfl) rfl ⟨?_, ?_, trivial⟩
                · (refine iE rfl (e_alloc rfl rfl rfl) rfl rfl ?_)
                  refine xAll (rs := [5]) (by kernel_rfl) rfl ⟨?_, trivial⟩
                  · (refine iE rfl (e_alloc rfl rfl rfl) rfl rfl ?_)
                    refine xAll (rs := [6]) (by kernel_rfl) rfl ⟨?_, trivial⟩
                    · (refine iE rfl (e_store rfl rfl rfl rfl rfl rfl rfl) rfl rfl ?_)
                      refine xAll (rs := [7]) (by kernel_rfl) rfl ⟨?_, trivial⟩
                      · (refine iE rfl (e_store rfl rfl rfl rfl rfl rfl rfl) rfl rfl ?_)
                        refine xAll (rs := [8]) (by kernel_rfl) rfl ⟨?_, trivial⟩
                        · (refine iE rfl (e_store rfl rfl rfl rfl rfl rfl rfl) rfl rfl ?_)
                          exact xEnd (by kernel_rfl) ⟨rfl, by (repeat (first | exact sub_nil | refine sub_cons rfl ?_)), by (repeat (first | exact subH_nil | refine subH_cons rfl ?_))⟩
                · (refine iE rfl (e_alloc rfl rfl rfl) rfl rfl ?_)
                  refine xAll (rs := [3]) (by kernel_rfl) rfl ⟨?_, trivial⟩
                  · (refine iE rfl (e_alloc rfl rfl rfl) rfl rfl ?_)
                    refine xAll (rs := [6]) (by kernel_rfl) rfl ⟨?_, trivial⟩
                    · (refine iE rfl (e_store rfl rfl rfl rfl rfl rfl rfl) rfl rfl ?_)
                      refine xAll (rs := [7]) (by kernel_rfl) rfl ⟨?_, trivial⟩
                      · (refine iE rfl (e_store rfl rfl rfl rfl rfl rfl rfl) rfl rfl ?_)
                        refine xAll (rs := [8]) (by kernel_rfl) rfl ⟨?_, trivial⟩
                        · (refine iE rfl (e_store rfl rfl rfl rfl rfl rfl rfl) rfl rfl ?_)
                          exact xEnd (by kernel_rfl) ⟨rfl, by (repeat (first | exact sub_nil | refine sub_cons rfl ?_)), by (repeat (first | exact subH_nil | refine subH_cons rfl ?_))⟩
              · (refine iE rfl (e_alloc rfl rfl rfl) rfl rfl ?_)
                refine xAll (rs := [3, 4]) (by kernel_rfl) rfl ⟨?_, ?_, trivial⟩
                · (refine iE rfl (e_alloc rfl rfl rfl) rfl rfl ?_)
                  refine xAll (rs := [4]) (by kernel_rfl) rfl ⟨?_, trivial⟩
                  · (refine iE rfl (e_alloc rfl rfl rfl) rfl rfl ?_)
                    refine xAll (rs := [6]) (by kernel_rfl) rfl ⟨?_, trivial⟩
                    · (refine iE rfl (e_store rfl rfl rfl rfl rfl rfl rfl) rfl rfl ?_)
                      refine xAll (rs := [7]) (by kernel_rfl) rfl ⟨?_, trivial⟩
                      · (refine iE rfl (e_store rfl rfl rfl rfl rfl rfl rfl) rfl rfl ?_)
                        refine xAll (rs := [8]) (by kernel_rfl) rfl ⟨?_, trivial⟩
                        · (refine iE rfl (e_store rfl rfl rfl rfl rfl rfl rfl) rfl rfl ?_)
                          exact xEnd (by kernel_rfl) ⟨rfl, by (repeat (first | exact sub_nil | refine sub_cons rfl ?_)), by (repeat (first | exact subH_nil | refine subH_cons rfl ?_))⟩
                · (refine iE rfl (e_alloc rfl rfl rfl) rfl rfl ?_)
                  refine xAll (rs := [3]) (by kernel_rfl) rfl ⟨?_, trivial⟩
                  · (refine iE rfl (e_alloc rfl rfl rfl) rfl rfl ?_)
                    refine xAll (rs := [6]) (by kernel_rfl) rfl ⟨?_, trivial⟩
                    · (refine iE rfl (e_store rfl rfl rfl rfl rfl rfl rfl) rfl rfl ?_)
                      refine xAll (rs := [7]) (by kernel_rfl) rfl ⟨?_, trivial⟩
                      · (refine iE rfl (e_store rfl rfl rfl rfl rfl rfl rfl) rfl rfl ?_)
                        refine xAll (rs := [8]) (by kernel_rfl) rfl ⟨?_, trivial⟩
                        · (refine iE rfl (e_store rfl rfl rfl rfl rfl rfl rfl) rfl rfl ?_)
                          exact xEnd (by kernel_rfl) ⟨rfl, by (repeat (first | exact sub_nil | refine sub_cons rfl ?_)), by (repeat (first | exact subH_nil | refine subH_cons rfl ?_))⟩
            repeat (refine seq_ ?_)
            refine draw_ [(0, true), (1, true), (3, true), (4, true), (2, false), (5, false), (6, true)] 1000 [3, 4, 5, 6, 9, 10, 11] mixed (by kernel_rfl) rfl ?_
            ((refine dY rfl (y_loadA rfl rfl rfl) rfl rfl rfl rfl ?_); refine dY rfl (y_loadA rfl rfl rfl) rfl rfl rfl rfl ?_; refine dY rfl (y_loadA rfl rfl rfl) rfl rfl rfl rfl ?_; refine dY rfl (y_loadA rfl rfl rfl) rfl rfl rfl rfl ?_)
            refine dC rfl Try.func43 rfl rfl (sac) rfl (by repeat (first | exact .refl _ | apply Les.cons | exact .nil)) rfl rfl ?_
            skip
            refine dC rfl Try.func43 rfl rfl (sbc) rfl (by repeat (first | exact .refl _ | apply Les.cons | exact .nil)) rfl rfl ?_
            ((refine dY rfl (y_cmpT rfl rfl rfl (by omega)) rfl rfl rfl rfl ?_); refine dEnd ?_)
            repeat (refine cond_t rfl ?_)
            refine cut_ [(3, .ptr 3 0), (4, .ptr 4 0), (5, .ptr 5 0), (6, .ptr 6 0), (7, .p (E_ 0)), (9, .ptr 9 0), (10, .ptr 10 0), (11, .ptr 11 0)] [(3, .bx [I a.1, I a.2]), (4, .bx [I b.1, I b.2]), (5, .bx [I c.1, I c.2]), (6, .bx [I 0, I 0, I 0, I 0, I 0, I 0]), (9, .bx [I b.1, I b.2]), (10, .bx [I a.1, I a.2]), (11, .bx [I c.1, I c.2])] ?_ ?_
            · refine xDraw 1000 [3, 4, 5, 6] mixed ?_
              refine xY (i := 0) (op := .load _ _) rfl (by (exact y_loadA rfl rfl rfl)) rfl rfl rfl rfl (by kernel_rfl) ?_
              refine xY (i := 1) (op := .load _ _) rfl (by (exact y_loadA rfl rfl rfl)) rfl rfl rfl rfl (by kernel_rfl) ?_
              refine xY (i := 2) (op := .load _ _) rfl (by (exact y_loadA rfl rfl rfl)) rfl rfl rfl rfl (by kernel_rfl) ?_
              refine xAll (rs := [3]) (by kernel_rfl) rfl ⟨?_, trivial⟩
              · (refine iE rfl (e_store rfl rfl rfl rfl rfl rfl rfl) rfl rfl ?_)
                refine xAll (rs := [4]) (by kernel_rfl) rfl ⟨?_, trivial⟩
                · (refine iE rfl (e_store rfl rfl rfl rfl rfl rfl rfl) rfl rfl ?_)
                  refine xAll (rs := [5]) (by kernel_rfl) rfl ⟨?_, trivial⟩
                  · (refine iE rfl (e_store rfl rfl rfl rfl rfl rfl rfl) rfl rfl ?_)
                    exact xEnd (by kernel_rfl) ⟨rfl, by (repeat (first | exact sub_nil | refine sub_cons rfl ?_)), by (repeat (first | exact subH_nil | refine subH_cons rfl ?_))⟩
            repeat (refine seq_ ?_)
            refine draw_ [(0, true), (1, true), (3, true), (4, true), (2, false), (5, false), (6, true)] 1000 [3, 4, 5, 6, 9, 10, 11] mixed (by kernel_rfl) rfl ?_
            ((refine dY rfl (y_loadA rfl rfl rfl) rfl rfl rfl rfl ?_); refine dY rfl (y_loadA rfl rfl rfl) rfl rfl rfl rfl ?_; refine dY rfl (y_loadA rfl rfl rfl) rfl rfl rfl rfl ?_; refine dY rfl (y_loadA rfl rfl rfl) rfl rfl rfl rfl ?_)
            refine dC rfl Try.func43 rfl rfl (sab) rfl (by repeat (first | exact .refl _ | apply Les.cons | exact .nil)) rfl rfl ?_
            skip
            refine dC rfl Try.func43 rfl rfl (sac) rfl (by repeat (first | exact .refl _ | apply Les.cons | exact .nil)) rfl rfl ?_
            ((refine dY rfl (y_cmpF rfl rfl rfl (by omega)) rfl rfl rfl rfl ?_); refine dEnd ?_)
            repeat (first | refine seq_ ?_ | refine region_ ?_ | refine skip_ ?_ | refine cond_f rfl ?_ | refine stepY (y_loadA rfl rfl rfl) rfl ?_)
            refine call_ Try.func34 rfl rfl (hx2) rfl (by repeat (first | exact .refl _ | apply Les.cons | exact .nil)) rfl ?_
            repeat (first | refine seq_ ?_ | refine region_ ?_ | refine nil_ ?_ | refine ret_ ?_ | refine cond_t rfl ?_ | refine stepY (y_assign rfl) rfl ?_ | refine stepY (y_loadA rfl rfl rfl) rfl ?_ | refine stepY (y_build_arrb rfl rfl rfl rfl) rfl ?_ | refine stepY (y_cmpT rfl rfl rfl (by omega)) rfl ?_ | refine stepE (e_store rfl rfl rfl rfl rfl rfl rfl) ?_)
            ((apply fin_r); (repeat (first | exact .nil | exact .tmp rfl | exact .agg rfl rfl rfl | apply ResL.cons)); (repeat (exact .refl _)))
          · rw [if_neg g3]
            have hx2 := cross_c b a c hb ha hcc
            repeat (first | refine seq_ ?_ | refine region_ ?_ | refine nil_ ?_ | refine stepY (y_assign rfl) rfl ?_ | refine stepY (y_loadA rfl rfl rfl) rfl ?_ | refine stepE (e_box rfl rfl rfl rfl rfl rfl) ?_ | refine stepE (e_alloc rfl rfl rfl) ?_ | refine stepE (e_bs_vs rfl rfl rfl rfl rfl rfl) ?_)
            refine seal_Ls (i := 15) (h := 15) rfl rfl rfl rfl ?_
            refine call_ Try.func32 rfl rfl (hc) rfl (by repeat (first | exact .tags _ _ | apply Les.cons | exact .nil)) rfl ?_
            repeat (first | refine seq_ ?_ | refine region_ ?_ | refine nil_ ?_ | refine skip_ ?_ | refine cond_f rfl ?_ | refine stepY (y_move rfl) rfl ?_ | refine stepY (y_assign rfl) rfl ?_ | refine stepY (y_loadA rfl rfl rfl) rfl ?_ | refine stepY (y_cmpF rfl rfl rfl (by omega)) rfl ?_)
            refine call_ Try.func34 rfl rfl (hx) rfl (by repeat (first | exact .refl _ | apply Les.cons | exact .nil)) rfl ?_
            repeat (first | refine seq_ ?_ | refine nil_ ?_ | refine skip_ ?_ | refine cond_f rfl ?_ | refine stepY (y_cmpF rfl rfl rfl (by omega)) rfl ?_)
            refine cut_ [(3, .ptr 3 0), (4, .ptr 4 0), (5, .ptr 5 0), (6, .ptr 6 0), (7, .p (E_ 0)), (9, .ptr 9 0), (10, .ptr 10 0), (11, .ptr 11 0)] [(3, .bx [I a.1, I a.2]), (4, .bx [I b.1, I b.2]), (5, .bx [I c.1, I c.2]), (6, .bx [I 0, I 0, I 0, I 0, I 0, I 0]), (9, .bx [I a.1, I a.2]), (10, .bx [I b.1, I b.2]), (11, .bx [I c.1, I c.2])] ?_ ?_
            · refine xDraw 1000 [3, 4, 5, 6] mixed ?_
              refine xY (i := 0) (op := .load _ _) rfl (by (exact y_loadA rfl rfl rfl)) rfl rfl rfl rfl (by kernel_rfl) ?_
              refine xY (i := 1) (op := .load _ _) rfl (by (exact y_loadA rfl rfl rfl)) rfl rfl rfl rfl (by kernel_rfl) ?_
              refine xY (i := 2) (op := .load _ _) rfl (by (exact y_loadA rfl rfl rfl)) rfl rfl rfl rfl (by kernel_rfl) ?_
              refine xAll (rs := [3, 4, 5]) (by kernel_rfl) rfl ⟨?_, ?_, ?_, trivial⟩
              · (refine iE rfl (e_alloc rfl rfl rfl) rfl rfl ?_)
                refine xAll (rs := [4, 5]) (by kernel_rfl) rfl ⟨?_, ?_, trivial⟩
                · (refine iE rfl (e_alloc rfl rfl rfl) rfl rfl ?_)
                  refine xAll (rs := [5]) (by kernel_rfl) rfl ⟨?_, trivial⟩
                  · (refine iE rfl (e_alloc rfl rfl rfl) rfl rfl ?_)
                    refine xAll (rs := [6]) (by kernel_rfl) rfl ⟨?_, trivial⟩
                    · (refine iE rfl (e_store rfl rfl rfl rfl rfl rfl rfl) rfl rfl ?_)
                      refine xAll (rs := [7]) (by kernel_rfl) rfl ⟨?_, trivial⟩
                      · (refine iE rfl (e_store rfl rfl rfl rfl rfl rfl rfl) rfl rfl ?_)
                        refine xAll (rs := [8]) (by kernel_rfl) rfl ⟨?_, trivial⟩
                        · (refine iE rfl (e_store rfl rfl rfl rfl rfl rfl rfl) rfl rfl ?_)
                          exact xEnd (by kernel_rfl) ⟨rfl, by (repeat (first | exact sub_nil | refine sub_cons rfl ?_)), by (repeat (first | exact subH_nil | refine subH_cons rfl ?_))⟩
                · (refine iE rfl (e_alloc rfl rfl rfl) rfl rfl ?_)
                  refine xAll (rs := [4]) (by kernel_rfl) rfl ⟨?_, trivial⟩
                  · (refine iE rfl (e_alloc rfl rfl rfl) rfl rfl ?_)
                    refine xAll (rs := [6]) (by kernel_rfl) rfl ⟨?_, trivial⟩
                    · (refine iE rfl (e_store rfl rfl rfl rfl rfl rfl rfl) rfl rfl ?_)
                      refine xAll (rs := [7]) (by kernel_rfl) rfl ⟨?_, trivial⟩
                      · (refine iE rfl (e_store rfl rfl rfl rfl rfl rfl rfl) rfl rfl ?_)
                        refine xAll (rs := [8]) (by kernel_rfl) rfl ⟨?_, trivial⟩
                        · (refine iE rfl (e_store rfl rfl rfl rfl rfl rfl rfl) rfl rfl ?_)
                          exact xEnd (by kernel_rfl) ⟨rfl, by (repeat (first | exact sub_nil | refine sub_cons rfl ?_)), by (repeat (first | exact subH_nil | refine subH_cons rfl ?_))⟩
              · (refine iE rfl (e_alloc rfl rfl rfl) rfl rfl ?_)
                refine xAll (rs := [3, 5]) (by kernel_rfl) rfl ⟨?_, ?_, trivial⟩
                · (refine iE rfl (e_alloc rfl rfl rfl) rfl rfl ?_)
                  refine xAll (rs := [5]) (by kernel_rfl) rfl ⟨?_, trivial⟩
                  · (refine iE rfl (e_alloc rfl rfl rfl) rfl rfl ?_)
                    refine xAll (rs := [6]) (by kernel_rfl) rfl ⟨?_, trivial⟩
                    · (refine iE rfl (e_store rfl rfl rfl rfl rfl rfl rfl) rfl rfl ?_)
                      refine xAll (rs := [7]) (by kernel_rfl) rfl ⟨?_, trivial⟩
                      · (refine iE rfl (e_store rfl rfl rfl rfl rfl rfl rfl) rfl rfl ?_)
                        refine xAll (rs := [8]) (by kernel_rfl) rfl ⟨?_, trivial⟩
                        · (refine iE rfl (e_store rfl rfl rfl rfl rfl rfl rfl) rfl rfl ?_)
                          exact xEnd (by kernel_rfl) ⟨rfl, by (repeat (first | exact sub_nil | refine sub_cons rfl ?_)), by (repeat (first | exact subH_nil | refine subH_cons rfl ?_))⟩
                · (refine iE rfl (e_alloc rfl rfl rfl) rfl rfl ?_)
                  refine xAll (rs := [3]) (by kernel_rfl) rfl ⟨?_, trivial⟩
                  · (refine iE rfl (e_alloc rfl rfl rfl) rfl rfl ?_)
                    refine xAll (rs := [6]) (by kernel_rfl) rfl ⟨?_, trivial⟩
                    · (refine iE rfl (e_store rfl rfl rfl rfl rfl rfl rfl) rfl rfl ?_)
                      refine xAll (rs := [7]) (by kernel_rfl) rfl ⟨?_, trivial⟩
                      · (refine iE rfl (e_store rfl rfl rfl rfl rfl rfl rfl) rfl rfl ?_)
                        refine xAll (rs := [8]) (by kernel_rfl) rfl ⟨?_, trivial⟩
                        · (refine iE rfl (e_store rfl rfl rfl rfl rfl rfl rfl) rfl rfl ?_)
                          exact xEnd (by kernel_rfl) ⟨rfl, by (repeat (first | exact sub_nil | refine sub_cons rfl ?_)), by (repeat (first | exact subH_nil | refine subH_cons rfl ?_))⟩
              · (refine iE rfl (e_alloc rfl rfl rfl) rfl rfl ?_)
                refine xAll (rs := [3, 4]) (by kernel_rfl) rfl ⟨?_, ?_, trivial⟩
                · (refine iE rfl (e_alloc rfl rfl rfl) rfl rfl ?_)
                  refine xAll (rs := [4]) (by kernel_rfl) rfl ⟨?_, trivial⟩
                  · (refine iE rfl (e_alloc rfl rfl rfl) rfl rfl ?_)
                    refine xAll (rs := [6]) (by kernel_rfl) rfl ⟨?_, trivial⟩
                    · (refine iE rfl (e_store rfl rfl rfl rfl rfl rfl rfl) rfl rfl ?_)
                      refine xAll (rs := [7]) (by kernel_rfl) rfl ⟨?_, trivial⟩
                      · (refine iE rfl (e_store rfl rfl rfl rfl rfl rfl rfl) rfl rfl ?_)
                        refine xAll (rs := [8]) (by kernel_rfl) rfl ⟨?_, trivial⟩
                        · (refine iE rfl (e_store rfl rfl rfl rfl rfl rfl rfl) rfl rfl ?_)
                          exact xEnd (by kernel_rfl) ⟨rfl, by (repeat (first | exact sub_nil | refine sub_cons rfl ?_)), by (repeat (first | exact subH_nil | refine subH_cons rfl ?_))⟩
                · (refine iE rfl (e_alloc rfl rfl rfl) rfl rfl ?_)
                  refine xAll (rs := [3]) (by kernel_rfl) rfl ⟨?_, trivial⟩
                  · (refine iE rfl (e_alloc rfl rfl rfl) rfl rfl ?_)
                    refine xAll (rs := [6]) (by kernel_rfl) rfl ⟨?_, trivial⟩
                    · (refine iE rfl (e_store rfl rfl rfl rfl rfl rfl rfl) rfl rfl ?_)
                      refine xAll (rs := [7]) (by kernel_rfl) rfl ⟨?_, trivial⟩
                      · (refine iE rfl (e_store rfl rfl rfl rfl rfl rfl rfl) rfl rfl ?_)
                        refine xAll (rs := [8]) (by kernel_rfl) rfl ⟨?_, trivial⟩
                        · (refine iE rfl (e_store rfl rfl rfl rfl rfl rfl rfl) rfl rfl ?_)
                          exact xEnd (by kernel_rfl) ⟨rfl, by (repeat (first | exact sub_nil | refine sub_cons rfl ?_)), by (repeat (first | exact subH_nil | refine subH_cons rfl ?_))⟩
            repeat (refine seq_ ?_)
            refine draw_ [(0, true), (1, true), (3, true), (4, true), (2, false), (5, false), (6, true)] 1000 [3, 4, 5, 6, 9, 10, 11] mixed (by kernel_rfl) rfl ?_
            ((refine dY rfl (y_loadA rfl rfl rfl) rfl rfl rfl rfl ?_); refine dY rfl (y_loadA rfl rfl rfl) rfl rfl rfl rfl ?_; refine dY rfl (y_loadA rfl rfl rfl) rfl rfl rfl rfl ?_; refine dY rfl (y_loadA rfl rfl rfl) rfl rfl rfl rfl ?_)
            refine dC rfl Try.func43 rfl rfl (sac) rfl (by repeat (first | exact .refl _ | apply Les.cons | exact .nil)) rfl rfl ?_
            skip
            refine dC rfl Try.func43 rfl rfl (sbc) rfl (by repeat (first | exact .refl _ | apply Les.cons | exact .nil)) rfl rfl ?_
            ((refine dY rfl (y_cmpT rfl rfl rfl (by omega)) rfl rfl rfl rfl ?_); refine dEnd ?_)
            repeat (refine cond_t rfl ?_)
            refine cut_ [(3, .ptr 3 0), (4, .ptr 4 0), (5, .ptr 5 0), (6, .ptr 6 0), (7, .p (E_ 0)), (9, .ptr 9 0), (10, .ptr 10 0), (11, .ptr 11 0)] [(3, .bx [I a.1, I a.2]), (4, .bx [I b.1, I b.2]), (5, .bx [I c.1, I c.2]), (6, .bx [I 0, I 0, I 0, I 0, I 0, I 0]), (9, .bx [I b.1, I b.2]), (10, .bx [I a.1, I a.2]), (11, .bx [I c.1, I c.2])] ?_ ?_
            · refine xDraw 1000 [3, 4, 5, 6] mixed ?_
              refine xY (i := 0) (op := .load _ _) rfl (by (exact y_loadA rfl rfl rfl)) rfl rfl rfl rfl (by kernel_rfl) ?_
              refine xY (i := 1) (op := .load _ _) rfl (by (exact y_loadA rfl rfl rfl)) rfl rfl rfl rfl (by kernel_rfl) ?_
              refine xY (i := 2) (op := .load _ _) rfl (by (exact y_loadA rfl rfl rfl)) rfl rfl rfl rfl (by kernel_rfl) ?_
              refine xAll (rs := [3]) (by kernel_rfl) rfl ⟨?_, trivial⟩
              · (refine iE rfl (e_store rfl rfl rfl rfl rfl rfl rfl) rfl rfl ?_)
                refine xAll (rs := [4]) (by kernel_rfl) rfl ⟨?_, trivial⟩
                · (refine iE rfl (e_store rfl rfl rfl rfl rfl rfl rfl) rfl rfl ?_)
                  refine xAll (rs := [5]) (by kernel_rfl) rfl ⟨?_, trivial⟩
                  · (refine iE rfl (e_store rfl rfl rfl rfl rfl rfl rfl) rfl rfl ?_)
                    exact xEnd (by kernel_rfl) ⟨rfl, by (repeat (first | exact sub_nil | refine sub_cons rfl ?_)), by (repeat (first | exact subH_nil | refine subH_cons rfl ?_))⟩
            repeat (refine seq_ ?_)
            refine draw_ [(0, true), (1, true), (3, true), (4, true), (2, false), (5, false), (6, true)] 1000 [3, 4, 5, 6, 9, 10, 11] mixed (by kernel_rfl) rfl ?_
            ((refine dY rfl (y_loadA rfl rfl rfl) rfl rfl rfl rfl ?_); refine dY rfl (y_loadA rfl rfl rfl) rfl rfl rfl rfl ?_; refine dY rfl (y_loadA rfl rfl rfl) rfl rfl rfl rfl ?_; refine dY rfl (y_loadA rfl rfl rfl) rfl rfl rfl rfl ?_)
            refine dC rfl Try.func43 rfl rfl (sab) rfl (by repeat (first | exact .refl _ | apply Les.cons | exact .nil)) rfl rfl ?_
            skip
            refine dC rfl Try.func43 rfl rfl (sac) rfl (by repeat (first | exact .refl _ | apply Les.cons | exact .nil)) rfl rfl ?_
            ((refine dY rfl (y_cmpF rfl rfl rfl (by omega)) rfl rfl rfl rfl ?_); refine dEnd ?_)
            repeat (first | refine seq_ ?_ | refine region_ ?_ | refine skip_ ?_ | refine cond_f rfl ?_ | refine stepY (y_loadA rfl rfl rfl) rfl ?_)
            refine call_ Try.func34 rfl rfl (hx2) rfl (by repeat (first | exact .refl _ | apply Les.cons | exact .nil)) rfl ?_
            repeat (first | refine seq_ ?_ | refine region_ ?_ | refine nil_ ?_ | refine skip_ ?_ | refine ret_ ?_ | refine cond_f rfl ?_ | refine stepY (y_assign rfl) rfl ?_ | refine stepY (y_loadA rfl rfl rfl) rfl ?_ | refine stepY (y_build_arrb rfl rfl rfl rfl) rfl ?_ | refine stepY (y_cmpF rfl rfl rfl (by omega)) rfl ?_ | refine stepE (e_store rfl rfl rfl rfl rfl rfl rfl) ?_)
            ((apply fin_r); (repeat (first | exact .nil | exact .tmp rfl | exact .agg rfl rfl rfl | apply ResL.cons)); (repeat (exact .refl _)))
      · rw [if_neg g1]
        unfold ord2
        dsimp only
        by_cases g2 : farP a b > farP b c
        · rw [if_pos g2]
          unfold ord3
          by_cases g3 : crossP c a b < 0
          · rw [if_pos g3]
            have hx2 := cross_c c a b hcc ha hb
            repeat (first | refine seq_ ?_ | refine region_ ?_ | refine nil_ ?_ | refine stepY (y_assign rfl) rfl ?_ | refine stepY (y_loadA rfl rfl rfl) rfl ?_ | refine stepE (e_box rfl rfl rfl rfl rfl rfl) ?_ | refine stepE (e_alloc rfl rfl rfl) ?_ | refine stepE (e_bs_vs rfl rfl rfl rfl rfl rfl) ?_)
            refine seal_Ls (i := 15) (h := 15) rfl rfl rfl rfl ?_
            refine call_ Try.func32 rfl rfl (hc) rfl (by repeat (first | exact .tags _ _ | apply Les.cons | exact .nil)) rfl ?_
            repeat (first | refine seq_ ?_ | refine region_ ?_ | refine nil_ ?_ | refine skip_ ?_ | refine cond_f rfl ?_ | refine stepY (y_move rfl) rfl ?_ | refine stepY (y_assign rfl) rfl ?_ | refine stepY (y_loadA rfl rfl rfl) rfl ?_ | refine stepY (y_cmpF rfl rfl rfl (by omega)) rfl ?_)
            refine call_ Try.func34 rfl rfl (hx) rfl (by repeat (first | exact .refl _ | apply Les.cons | exact .nil)) rfl ?_
            repeat (first | refine seq_ ?_ | refine nil_ ?_ | refine skip_ ?_ | refine cond_f rfl ?_ | refine stepY (y_cmpF rfl rfl rfl (by omega)) rfl ?_)
            refine cut_ [(3, .ptr 3 0), (4, .ptr 4 0), (5, .ptr 5 0), (6, .ptr 6 0), (7, .p (E_ 0)), (9, .ptr 9 0), (10, .ptr 10 0), (11, .ptr 11 0)] [(3, .bx [I a.1, I a.2]), (4, .bx [I b.1, I b.2]), (5, .bx [I c.1, I c.2]), (6, .bx [I 0, I 0, I 0, I 0, I 0, I 0]), (9, .bx [I a.1, I a.2]), (10, .bx [I b.1, I b.2]), (11, .bx [I c.1, I c.2])] ?_ ?_
            · refine xDraw 1000 [3, 4, 5, 6] mixed ?_
              refine xY (i := 0) (op := .load _ _) rfl (by (exact y_loadA rfl rfl rfl)) rfl rfl rfl rfl (by kernel_rfl) ?_
              refine xY (i := 1) (op := .load _ _) rfl (by (exact y_loadA rfl rfl rfl)) rfl rfl rfl rfl (by kernel_rfl) ?_
              refine xY (i := 2) (op := .load _ _) rfl (by (exact y_loadA rfl rfl rfl)) rfl rfl rfl rfl (by kernel_rfl) ?_
              refine xAll (rs := [3, 4, 5]) (by kernel_rfl) rfl ⟨?_, ?_, ?_, trivial⟩
              · (refine iE rfl (e_alloc rfl rfl rfl) rfl rfl ?_)
                refine xAll (rs := [4, 5]) (by kernel_rfl) rfl ⟨?_, ?_, trivial⟩
                · (refine iE rfl (e_alloc rfl rfl rfl) rfl rfl ?_)
                  refine xAll (rs := [5]) (by kernel_rfl) rfl ⟨?_, trivial⟩
                  · (refine iE rfl (e_alloc rfl rfl rfl) rfl rfl ?_)
                    refine xAll (rs := [6]) (by kernel_rfl) rfl ⟨?_, trivial⟩
                    · (refine iE rfl (e_store rfl rfl rfl rfl rfl rfl rfl) rfl rfl ?_)
                      refine xAll (rs := [7]) (by kernel_rfl) rfl ⟨?_, trivial⟩
                      · (refine iE rfl (e_store rfl rfl rfl rfl rfl rfl rfl) rfl rfl ?_)
                        refine xAll (rs := [8]) (by kernel_rfl) rfl ⟨?_, trivial⟩
                        · (refine iE rfl (e_store rfl rfl rfl rfl rfl rfl rfl) rfl rfl ?_)
                          exact xEnd (by kernel_rfl) ⟨rfl, by (repeat (first | exact sub_nil | refine sub_cons rfl ?_)), by (repeat (first | exact subH_nil | refine subH_cons rfl ?_))⟩
                · (refine iE rfl (e_alloc rfl rfl rfl) rfl rfl ?_)
                  refine xAll (rs := [4]) (by kernel_rfl) rfl ⟨?_, trivial⟩
                  · (refine iE rfl (e_alloc rfl rfl rfl) rfl rfl ?_)
                    refine xAll (rs := [6]) (by kernel_rfl) rfl ⟨?_, trivial⟩
                    · (refine iE rfl (e_store rfl rfl rfl rfl rfl rfl rfl) rfl rfl ?_)
                      refine xAll (rs := [7]) (by kernel_rfl) rfl ⟨?_, trivial⟩
                      · (refine iE rfl (e_store rfl rfl rfl rfl rfl rfl rfl) rfl rfl ?_)
                        refine xAll (rs := [8]) (by kernel_rfl) rfl ⟨?_, trivial⟩
                        · (refine iE rfl (e_store rfl rfl rfl rfl rfl rfl rfl) rfl rfl ?_)
                          exact xEnd (by kernel_rfl) ⟨rfl, by (repeat (first | exact sub_nil | refine sub_cons rfl ?_)), by (repeat (first | exact subH_nil | refine subH_cons rfl ?_))⟩
              · (refine iE rfl (e_alloc rfl rfl rfl) rfl rfl ?_)
                refine xAll (rs := [3, 5]) (by kernel_rfl) rfl ⟨?_, ?_, trivial⟩
                · (refine iE rfl (e_alloc rfl rfl rfl) rfl rfl ?_)
                  refine xAll (rs := [5]) (by kernel_rfl) rfl ⟨?_, trivial⟩
                  · (refine iE rfl (e_alloc rfl rfl rfl) rfl rfl ?_)
                    refine xAll (rs := [6]) (by kernel_rfl) rfl ⟨?_, trivial⟩
                    · (refine iE rfl (e_store rfl rfl rfl rfl rfl rfl rfl) rfl rfl ?_)
                      refine xAll (rs := [7]) (by kernel_rfl) rfl ⟨?_, trivial⟩
                      · (refine iE rfl (e_store rfl rfl rfl rfl rfl rfl rfl) rfl rfl ?_)
                        refine xAll (rs := [8]) (by kernel_rfl) rfl ⟨?_, trivial⟩
                        · (refine iE rfl (e_store rfl rfl rfl rfl rfl rfl rfl) rfl rfl ?_)
                          exact xEnd (by kernel_rfl) ⟨rfl, by (repeat (first | exact sub_nil | refine sub_cons rfl ?_)), by (repeat (first | exact subH_nil | refine subH_cons rfl ?_))⟩
                · (refine iE rfl (e_alloc rfl rfl rfl) rfl rfl ?_)
                  refine xAll (rs := [3]) (by kernel_rfl) rfl ⟨?_, trivial⟩
                  · (refine iE rfl (e_alloc rfl rfl rfl) rfl rfl ?_)
                    refine xAll (rs := [6]) (by kernel_rfl) rfl ⟨?_, trivial⟩
                    · (refine iE rfl (e_store rfl rfl rfl rfl rfl rfl rfl) rfl rfl ?_)
                      refine xAll (rs := [7]) (by kernel_rfl) rfl ⟨?_, trivial⟩
                      · (refine iE rfl (e_store rfl rfl rfl rfl rfl rfl rfl) rfl rfl ?_)
                        refine xAll (rs := [8]) (by kernel_rfl) rfl ⟨?_, trivial⟩
                        · (refine iE rfl (e_store rfl rfl rfl rfl rfl rfl rfl) rfl rfl ?_)
                          exact xEnd (by kernel_rfl) ⟨rfl, by (repeat (first | exact sub_nil | refine sub_cons rfl ?_)), by (repeat (first | exact subH_nil | refine subH_cons rfl ?_))⟩
              · (refine iE rfl (e_alloc rfl rfl rfl) rfl rfl ?_)
                refine xAll (rs := [3, 4]) (by kernel_rfl) rfl ⟨?_, ?_, trivial⟩
                · (refine iE rfl (e_alloc rfl rfl rfl) rfl rfl ?_)
                  refine xAll (rs := [4]) (by kernel_rfl) rfl ⟨?_, trivial⟩
                  · (refine iE rfl (e_alloc rfl rfl rfl) rfl rfl ?_)
                    refine xAll (rs := [6]) (by kernel_rfl) rfl ⟨?_, trivial⟩
                    · (refine iE rfl (e_store rfl rfl rfl rfl rfl rfl rfl) rfl rfl ?_)
                      refine xAll (rs := [7]) (by kernel_rfl) rfl ⟨?_, trivial⟩
                      · (refine iE rfl (e_store rfl rfl rfl rfl rfl rfl rfl) rfl rfl ?_)
                        refine xAll (rs := [8]) (by kernel_rfl) rfl ⟨?_, trivial⟩
                        · (refine iE rfl (e_store rfl rfl rfl rfl rfl rfl rfl) rfl rfl ?_)
                          exact xEnd (by kernel_rfl) ⟨rfl, by (repeat (first | exact sub_nil | refine sub_cons rfl ?_)), by (repeat (first | exact subH_nil | refine subH_cons rfl ?_))⟩
                · (refine iE rfl (e_alloc rfl rfl rfl) rfl rfl ?_)
                  refine xAll (rs := [3]) (by kernel_rfl) rfl ⟨?_, trivial⟩
                  · (refine iE rfl (e_alloc rfl rfl rfl) rfl rfl ?_)
                    refine xAll (rs := [6]) (by kernel_rfl) rfl ⟨?_, trivial⟩
                    · (refine iE rfl (e_store rfl rfl rfl rfl rfl rfl rfl) rfl rfl ?_)
                      refine xAll (rs := [7]) (by kernel_rfl) rfl ⟨?_, trivial⟩
                      · (refine iE rfl (e_store rfl rfl rfl rfl rfl rfl rfl) rfl rfl ?_)
                        refine xAll (rs := [8]) (by kernel_rfl) rfl ⟨?_, trivial⟩
                        · (refine iE rfl (e_store rfl rfl rfl rfl rfl rfl rfl) rfl rfl ?_)
                          exact xEnd (by kernel_rfl) ⟨rfl, by (repeat (first | exact sub_nil | refine sub_cons rfl ?_)), by (repeat (first | exact subH_nil | refine subH_cons rfl ?_))⟩
            repeat (refine seq_ ?_)
            refine draw_ [(0, true), (1, true), (3, true), (4, true), (2, false), (5, false), (6, true)] 1000 [3, 4, 5, 6, 9, 10, 11] mixed (by kernel_rfl) rfl ?_
            ((refine dY rfl (y_loadA rfl rfl rfl) rfl rfl rfl rfl ?_); refine dY rfl (y_loadA rfl rfl rfl) rfl rfl rfl rfl ?_; refine dY rfl (y_loadA rfl rfl rfl) rfl rfl rfl rfl ?_; refine dY rfl (y_loadA rfl rfl rfl) rfl rfl rfl rfl ?_)
            refine dC rfl Try.func43 rfl rfl (sac) rfl (by repeat (first | exact .refl _ | apply Les.cons | exact .nil)) rfl rfl ?_
            skip
            refine dC rfl Try.func43 rfl rfl (sbc) rfl (by repeat (first | exact .refl _ | apply Les.cons | exact .nil)) rfl rfl ?_
            ((refine dY rfl (y_cmpF rfl rfl rfl (by omega)) rfl rfl rfl rfl ?_); refine dEnd ?_)
            repeat (first | refine seq_ ?_ | refine skip_ ?_ | refine cond_f rfl ?_)
            refine draw_ [(0, true), (1, true), (3, true), (4, true), (2, false), (5, false), (6, true)] 1000 [3, 4, 5, 6, 9, 10, 11] mixed (by kernel_rfl) rfl ?_
            ((refine dY rfl (y_loadA rfl rfl rfl) rfl rfl rfl rfl ?_); refine dY rfl (y_loadA rfl rfl rfl) rfl rfl rfl rfl ?_; refine dY rfl (y_loadA rfl rfl rfl) rfl rfl rfl rfl ?_; refine dY rfl (y_loadA rfl rfl rfl) rfl rfl rfl rfl ?_)
            refine dC rfl Try.func43 rfl rfl (sab) rfl (by repeat (first | exact .refl _ | apply Les.cons | exact .nil)) rfl rfl ?_
            skip
            refine dC rfl Try.func43 rfl rfl (sbc) rfl (by repeat (first | exact .refl _ | apply Les.cons | exact .nil)) rfl rfl ?_
            ((refine dY rfl (y_cmpT rfl rfl rfl (by omega)) rfl rfl rfl rfl ?_); refine dEnd ?_)
            repeat (refine cond_t rfl ?_)
            refine cut_ [(3, .ptr 3 0), (4, .ptr 4 0), (5, .ptr 5 0), (6, .ptr 6 0), (7, .p (E_ 0)), (9, .ptr 9 0), (10, .ptr 10 0), (11, .ptr 11 0)] [(3, .bx [I a.1, I a.2]), (4, .bx [I b.1, I b.2]), (5, .bx [I c.1, I c.2]), (6, .bx [I 0, I 0, I 0, I 0, I 0, I 0]), (9, .bx [I c.1, I c.2]), (10, .bx [I a.1, I a.2]), (11, .bx [I b.1, I b.2])] ?_ ?_
            · refine xDraw 1000 [3, 4, 5, 6] mixed ?_
              refine xY (i := 0) (op := .load _ _) rfl (by (exact y_loadA rfl rfl rfl)) rfl rfl rfl rfl (by kernel_rfl) ?_
              refine xY (i := 1) (op := .load _ _) rfl (by (exact y_loadA rfl rfl rfl)) rfl rfl rfl rfl (by kernel_rfl) ?_
              refine xY (i := 2) (op := .load _ _) rfl (by (exact y_loadA rfl rfl rfl)) rfl rfl rfl rfl (by kernel_rfl) ?_
              refine xAll (rs := [3]) (by kernel_rfl) rfl ⟨?_, trivial⟩
              · (refine iE rfl (e_store rfl rfl rfl rfl rfl rfl rfl) rfl rfl ?_)
                refine xAll (rs := [4]) (by kernel_rfl) rfl ⟨?_, trivial⟩
                · (refine iE rfl (e_store rfl rfl rfl rfl rfl rfl rfl) rfl rfl ?_)
                  refine xAll (rs := [5]) (by kernel_rfl) rfl ⟨?_, trivial⟩
                  · (refine iE rfl (e_store rfl rfl rfl rfl rfl rfl rfl) rfl rfl ?_)
                    exact xEnd (by kernel_rfl) ⟨rfl, by (repeat (first | exact sub_nil | refine sub_cons rfl ?_)), by (repeat (first | exact subH_nil | refine subH_cons rfl ?_))⟩
            repeat (first | refine seq_ ?_ | refine region_ ?_ | refine stepY (y_loadA rfl rfl rfl) rfl ?_)
            refine call_ Try.func34 rfl rfl (hx2) rfl (by repeat (first | exact .refl _ | apply Les.cons | exact .nil)) rfl ?_
            repeat (first | refine seq_ ?_ | refine region_ ?_ | refine nil_ ?_ | refine ret_ ?_ | refine cond_t rfl ?_ | refine stepY (y_assign rfl) rfl ?_ | refine stepY (y_loadA rfl rfl rfl) rfl ?_ | refine stepY (y_build_arrb rfl rfl rfl rfl) rfl ?_ | refine stepY (y_cmpT rfl rfl rfl (by omega)) rfl ?_ | refine stepE (e_store rfl rfl rfl rfl rfl rfl rfl) ?_)
            ((apply fin_r); (repeat (first | exact .nil | exact .tmp rfl | exact .agg rfl rfl rfl | apply ResL.cons)); (repeat (exact .refl _)))
          · rw [if_neg g3]
            have hx2 := cross_c c a b hcc ha hb
            repeat (first | refine seq_ ?_ | refine region_ ?_ | refine nil_ ?_ | refine stepY (y_assign rfl) rfl ?_ | refine stepY (y_loadA rfl rfl rfl) rfl ?_ | refine stepE (e_box rfl rfl rfl rfl rfl rfl) ?_ | refine stepE (e_alloc rfl rfl rfl) ?_ | refine stepE (e_bs_vs rfl rfl rfl rfl rfl rfl) ?_)
            refine seal_Ls (i := 15) (h := 15) rfl rfl rfl rfl ?_
            refine call_ Try.func32 rfl rfl (hc) rfl (by repeat (first | exact .tags _ _ | apply Les.cons | exact .nil)) rfl ?_
            repeat (first | refine seq_ ?_ | refine region_ ?_ | refine nil_ ?_ | refine skip_ ?_ | refine cond_f rfl ?_ | refine stepY (y_move rfl) rfl ?_ | refine stepY (y_assign rfl) rfl ?_ | refine stepY (y_loadA rfl rfl rfl) rfl ?_ | refine stepY (y_cmpF rfl rfl rfl (by omega)) rfl ?_)
            refine call_ Try.func34 rfl rfl (hx) rfl (by repeat (first | exact .refl _ | apply Les.cons | exact .nil)) rfl ?_
            repeat (first | refine seq_ ?_ | refine nil_ ?_ | refine skip_ ?_ | refine cond_f rfl ?_ | refine stepY (y_cmpF rfl rfl rfl (by omega)) rfl ?_)
            refine cut_ [(3, .ptr 3 0), (4, .ptr 4 0), (5, .ptr 5 0), (6, .ptr 6 0), (7, .p (E_ 0)), (9, .ptr 9 0), (10, .ptr 10 0), (11, .ptr 11 0)] [(3, .bx [I a.1, I a.2]), (4, .bx [I b.1, I b.2]), (5, .bx [I c.1, I c.2]), (6, .bx [I 0, I 0, I 0, I 0, I 0, I 0]), (9, .bx [I a.1, I a.2]), (10, .bx [I b.1, I b.2]), (11, .bx [I c.1, I c.2])] ?_ ?_
            · refine xDraw 1000 [3, 4, 5, 6] mixed ?_
              refine xY (i := 0) (op := .load _ _) rfl (by (exact y_loadA rfl rfl rfl)) rfl rfl rfl rfl (by kernel_rfl) ?_
              refine xY (i := 1) (op := .load _ _) rfl (by (exact y_loadA rfl rfl rfl)) rfl rfl rfl rfl (by kernel_rfl) ?_
              refine xY (i := 2) (op := .load _ _) rfl (by (exact y_loadA rfl rfl rfl)) rfl rfl rfl rfl (by kernel_rfl) ?_
              refine xAll (rs := [3, 4, 5]) (by kernel_rfl) rfl ⟨?_, ?_, ?_, trivial⟩
              · (refine iE rfl (e_alloc rfl rfl rfl) rfl rfl ?_)
                refine xAll (rs := [4, 5]) (by kernel_rfl) rfl ⟨?_, ?_, trivial⟩
                · (refine iE rfl (e_alloc rfl rfl rfl) rfl rfl ?_)
                  refine xAll (rs := [5]) (by kernel_rfl) rfl ⟨?_, trivial⟩
                  · (refine iE rfl (e_alloc rfl rfl rfl) rfl rfl ?_)
                    refine xAll (rs := [6]) (by kernel_rfl) rfl ⟨?_, trivial⟩
                    · (refine iE rfl (e_store rfl rfl rfl rfl rfl rfl rfl) rfl rfl ?_)
                      refine xAll (rs := [7]) (by kernel_rfl) rfl ⟨?_, trivial⟩
                      · (refine iE rfl (e_store rfl rfl rfl rfl rfl rfl rfl) rfl rfl ?_)
                        refine xAll (rs := [8]) (by kernel_rfl) rfl ⟨?_, trivial⟩
                        · (refine iE rfl (e_store rfl rfl rfl rfl rfl rfl rfl) rfl rfl ?_)
                          exact xEnd (by kernel_rfl) ⟨rfl, by (repeat (first | exact sub_nil | refine sub_cons rfl ?_)), by (repeat (first | exact subH_nil | refine subH_cons rfl ?_))⟩
                · (refine iE rfl (e_alloc rfl rfl rfl) rfl rfl ?_)
                  refine xAll (rs := [4]) (by kernel_rfl) rfl ⟨?_, trivial⟩
                  · (refine iE rfl (e_alloc rfl rfl rfl) rfl rfl ?_)
                    refine xAll (rs := [6]) (by kernel_rfl) rfl ⟨?_, trivial⟩
                    · (refine iE rfl (e_store rfl rfl rfl rfl rfl rfl rfl) rfl rfl ?_)
                      refine xAll (rs := [7]) (by kernel_rfl) rfl ⟨?_, trivial⟩
                      · (refine iE rfl (e_store rfl rfl rfl rfl rfl rfl rfl) rfl rfl ?_)
                        refine xAll (rs := [8]) (by kernel_rfl) rfl ⟨?_, trivial⟩
                        · (refine iE rfl (e_store rfl rfl rfl rfl rfl rfl rfl) rfl rfl ?_)
                          exact xEnd (by kernel_rfl) ⟨rfl, by (repeat (first | exact sub_nil | refine sub_cons rfl ?_)), by (repeat (first | exact subH_nil | refine subH_cons rfl ?_))⟩
              · (refine iE rfl (e_alloc rfl rfl rfl) rfl rfl ?_)
                refine xAll (rs := [3, 5]) (by kernel_rfl) rfl ⟨?_, ?_, trivial⟩
                · (refine iE rfl (e_alloc rfl rfl rfl) rfl rfl ?_)
                  refine xAll (rs := [5]) (by kernel_rfl) rfl ⟨?_, trivial⟩
                  · (refine iE rfl (e_alloc rfl rfl rfl) rfl rfl ?_)
                    refine xAll (rs := [6]) (by kernel_rfl) rfl ⟨?_, trivial⟩
                    · (refine iE rfl (e_store rfl rfl rfl rfl rfl rfl rfl) rfl rfl ?_)
                      refine xAll (rs := [7]) (by kernel_rfl) rfl ⟨?_, trivial⟩
                      · (refine iE rfl (e_store rfl rfl rfl rfl rfl rfl rfl) rfl rfl ?_)
                        refine xAll (rs := [8]) (by kernel_rfl) rfl ⟨?_, trivial⟩
                        · (refine iE rfl (e_store rfl rfl rfl rfl rfl rfl rfl) rfl rfl ?_)
                          exact xEnd (by kernel_rfl) ⟨rfl, by (repeat (first | exact sub_nil | refine sub_cons rfl ?_)), by (repeat (first | exact subH_nil | refine subH_cons rfl ?_))⟩
                · (refine iE rfl (e_alloc rfl rfl rfl) rfl rfl ?_)
                  refine xAll (rs := [3]) (by kernel_rfl) rfl ⟨?_, trivial⟩
                  · (refine iE rfl (e_alloc rfl rfl rfl) rfl rfl ?_)
                    refine xAll (rs := [6]) (by kernel_rfl) rfl ⟨?_, trivial⟩
                    · (refine iE rfl (e_store rfl rfl rfl rfl rfl rfl rfl) rfl rfl ?_)
                      refine xAll (rs := [7]) (by kernel_rfl) rfl ⟨?_, trivial⟩
                      · (refine iE rfl (e_store rfl rfl rfl rfl rfl rfl rfl) rfl rfl ?_)
                        refine xAll (rs := [8]) (by kernel_rfl) rfl ⟨?_, trivial⟩
                        · (refine iE rfl (e_store rfl rfl rfl rfl rfl rfl rfl) rfl rfl ?_)
                          exact xEnd (by kernel_rfl) ⟨rfl, by (repeat (first | exact sub_nil | refine sub_cons rfl ?_)), by (repeat (first | exact subH_nil | refine subH_cons rfl ?_))⟩
              · (refine iE rfl (e_alloc rfl rfl rfl) rfl rfl ?_)
                refine xAll (rs := [3, 4]) (by kernel_rfl) rfl ⟨?_, ?_, trivial⟩
                · (refine iE rfl (e_alloc rfl rfl rfl) rfl rfl ?_)
                  refine xAll (rs := [4]) (by kernel_rfl) rfl ⟨?_, trivial⟩
                  · (refine iE rfl (e_alloc rfl rfl rfl) rfl rfl ?_)
                    refine xAll (rs := [6]) (by kernel_rfl) rfl ⟨?_, trivial⟩
                    · (refine iE rfl (e_store rfl rfl rfl rfl rfl rfl rfl) rfl rfl ?_)
                      refine xAll (rs := [7]) (by kernel_rfl) rfl ⟨?_, trivial⟩
                      · (refine iE rfl (e_store rfl rfl rfl rfl rfl rfl rfl) rfl rfl ?_)
                        refine xAll (rs := [8]) (by kernel_rfl) rfl ⟨?_, trivial⟩
                        · (refine iE rfl (e_store rfl rfl rfl rfl rfl rfl rfl) rfl rfl ?_)
                          exact xEnd (by kernel_rfl) ⟨rfl, by (repeat (first | exact sub_nil | refine sub_cons rfl ?_)), by (repeat (first | exact subH_nil | refine subH_cons rfl ?_))⟩
                · (refine iE rfl (e_alloc rfl rfl rfl) rfl rfl ?_)
                  refine xAll (rs := [3]) (by kernel_rfl) rfl ⟨?_, trivial⟩
                  · (refine iE rfl (e_alloc rfl rfl rfl) rfl rfl ?_)
                    refine xAll (rs := [6]) (by kernel_rfl) rfl ⟨?_, trivial⟩
                    · (refine iE rfl (e_store rfl rfl rfl rfl rfl rfl rfl) rfl rfl ?_)
                      refine xAll (rs := [7]) (by kernel_rfl) rfl ⟨?_, trivial⟩
                      · (refine iE rfl (e_store rfl rfl rfl rfl rfl rfl rfl) rfl rfl ?_)
                        refine xAll (rs := [8]) (by kernel_rfl) rfl ⟨?_, trivial⟩
                        · (refine iE rfl (e_store rfl rfl rfl rfl rfl rfl rfl) rfl rfl ?_)
                          exact xEnd (by kernel_rfl) ⟨rfl, by (repeat (first | exact sub_nil | refine sub_cons rfl ?_)), by (repeat (first | exact subH_nil | refine subH_cons rfl ?_))⟩
            repeat (refine seq_ ?_)
            refine draw_ [(0, true), (1, true), (3, true), (4, true), (2, false), (5, false), (6, true)] 1000 [3, 4, 5, 6, 9, 10, 11] mixed (by kernel_rfl) rfl ?_
            ((refine dY rfl (y_loadA rfl rfl rfl) rfl rfl rfl rfl ?_); refine dY rfl (y_loadA rfl rfl rfl) rfl rfl rfl rfl ?_; refine dY rfl (y_loadA rfl rfl rfl) rfl rfl rfl rfl ?_; refine dY rfl (y_loadA rfl rfl rfl) rfl rfl rfl rfl ?_)
            refine dC rfl Try.func43 rfl rfl (sac) rfl (by repeat (first | exact .refl _ | apply Les.cons | exact .nil)) rfl rfl ?_
            skip
            refine dC rfl Try.func43 rfl rfl (sbc) rfl (by repeat (first | exact .refl _ | apply Les.cons | exact .nil)) rfl rfl ?_
            ((refine dY rfl (y_cmpF rfl rfl rfl (by omega)) rfl rfl rfl rfl ?_); refine dEnd ?_)
            repeat (first | refine seq_ ?_ | refine skip_ ?_ | refine cond_f rfl ?_)
            refine draw_ [(0, true), (1, true), (3, true), (4, true), (2, false), (5, false), (6, true)] 1000 [3, 4, 5, 6, 9, 10, 11] mixed (by kernel_rfl) rfl ?_
            ((refine dY rfl (y_loadA rfl rfl rfl) rfl rfl rfl rfl ?_); refine dY rfl (y_loadA rfl rfl rfl) rfl rfl rfl rfl ?_; refine dY rfl (y_loadA rfl rfl rfl) rfl rfl rfl rfl ?_; refine dY rfl (y_loadA rfl rfl rfl) rfl rfl rfl rfl ?_)
            refine dC rfl Try.func43 rfl rfl (sab) rfl (by repeat (first | exact .refl _ | apply Les.cons | exact .nil)) rfl rfl ?_
            skip
            refine dC rfl Try.func43 rfl rfl (sbc) rfl (by repeat (first | exact .refl _ | apply Les.cons | exact .nil)) rfl rfl ?_
            ((refine dY rfl (y_cmpT rfl rfl rfl (by omega)) rfl rfl rfl rfl ?_); refine dEnd ?_)
            repeat (refine cond_t rfl ?_)
            refine cut_ [(3, .ptr 3 0), (4, .ptr 4 0), (5, .ptr 5 0), (6, .ptr 6 0), (7, .p (E_ 0)), (9, .ptr 9 0), (10, .ptr 10 0), (11, .ptr 11 0)] [(3, .bx [I a.1, I a.2]), (4, .bx [I b.1, I b.2]), (5, .bx [I c.1, I c.2]), (6, .bx [I 0, I 0, I 0, I 0, I 0, I 0]), (9, .bx [I c.1, I c.2]), (10, .bx [I a.1, I a.2]), (11, .bx [I b.1, I b.2])] ?_ ?_
            · refine xDraw 1000 [3, 4, 5, 6] mixed ?_
              refine xY (i := 0) (op := .load _ _) rfl (by (exact y_loadA rfl rfl rfl)) rfl rfl rfl rfl (by kernel_rfl) ?_
              refine xY (i := 1) (op := .load _ _) rfl (by (exact y_loadA rfl rfl rfl)) rfl rfl rfl rfl (by kernel_rfl) ?_
              refine xY (i := 2) (op := .load _ _) rfl (by (exact y_loadA rfl rfl rfl)) rfl rfl rfl rfl (by kernel_rfl) ?_
              refine xAll (rs := [3]) (by kernel_rfl) rfl ⟨?_, trivial⟩
              · (refine iE rfl (e_store rfl rfl rfl rfl rfl rfl rfl) rfl rfl ?_)
                refine xAll (rs := [4]) (by kernel_rfl) rfl ⟨?_, trivial⟩
                · (refine iE rfl (e_store rfl rfl rfl rfl rfl rfl rfl) rfl rfl ?_)
                  refine xAll (rs := [5]) (by kernel_rfl) rfl ⟨?_, trivial⟩
                  · (refine iE rfl (e_store rfl rfl rfl rfl rfl rfl rfl) rfl rfl ?_)
                    exact xEnd (by kernel_rfl) ⟨rfl, by (repeat (first | exact sub_nil | refine sub_cons rfl ?_)), by (repeat (first | exact subH_nil | refine subH_cons rfl ?_))⟩
            repeat (first | refine seq_ ?_ | refine region_ ?_ | refine stepY (y_loadA rfl rfl rfl) rfl ?_)
            refine call_ Try.func34 rfl rfl (hx2) rfl (by repeat (first | exact .refl _ | apply Les.cons | exact .nil)) rfl ?_
            repeat (first | refine seq_ ?_ | refine region_ ?_ | refine nil_ ?_ | refine skip_ ?_ | refine ret_ ?_ | refine cond_f rfl ?_ | refine stepY (y_assign rfl) rfl ?_ | refine stepY (y_loadA rfl rfl rfl) rfl ?_ | refine stepY (y_build_arrb rfl rfl rfl rfl) rfl ?_ | refine stepY (y_cmpF rfl rfl rfl (by omega)) rfl ?_ | refine stepE (e_store rfl rfl rfl rfl rfl rfl rfl) ?_)
            ((apply fin_r); (repeat (first | exact .nil | exact .tmp rfl | exact .agg rfl rfl rfl | apply ResL.cons)); (repeat (exact .refl _)))
        · rw [if_neg g2]
          unfold ord3
          by_cases g3 : crossP a b c < 0
          · rw [if_pos g3]
            have hx2 := cross_c a b c ha hb hcc
            repeat (first | refine seq_ ?_ | refine region_ ?_ | refine nil_ ?_ | refine stepY (y_assign rfl) rfl ?_ | refine stepY (y_loadA rfl rfl rfl) rfl ?_ | refine stepE (e_box rfl rfl rfl rfl rfl rfl) ?_ | refine stepE (e_alloc rfl rfl rfl) ?_ | refine stepE (e_bs_vs rfl rfl rfl rfl rfl rfl) ?_)
            refine seal_Ls (i := 15) (h := 15) rfl rfl rfl rfl ?_
            refine call_ Try.func32 rfl rfl (hc) rfl (by repeat (first | exact .tags _ _ | apply Les.cons | exact .nil)) rfl ?_
            repeat (first | refine seq_ ?_ | refine region_ ?_ | refine nil_ ?_ | refine skip_ ?_ | refine cond_f rfl ?_ | refine stepY (y_move rfl) rfl ?_ | refine stepY (y_assign rfl) rfl ?_ | refine stepY (y_loadA rfl rfl rfl) rfl ?_ | refine stepY (y_cmpF rfl rfl rfl (by omega)) rfl ?_)
            refine call_ Try.func34 rfl rfl (hx) rfl (by repeat (first | exact .refl _ | apply Les.cons | exact .nil)) rfl ?_
            repeat (first | refine seq_ ?_ | refine nil_ ?_ | refine skip_ ?_ | refine cond_f rfl ?_ | refine stepY (y_cmpF rfl rfl rfl (by omega)) rfl ?_)
            refine cut_ [(3, .ptr 3 0), (4, .ptr 4 0), (5, .ptr 5 0), (6, .ptr 6 0), (7, .p (E_ 0)), (9, .ptr 9 0), (10, .ptr 10 0), (11, .ptr 11 0)] [(3, .bx [I a.1, I a.2]), (4, .bx [I b.1, I b.2]), (5, .bx [I c.1, I c.2]), (6, .bx [I 0, I 0, I 0, I 0, I 0, I 0]), (9, .bx [I a.1, I a.2]), (10, .bx [I b.1, I b.2]), (11, .bx [I c.1, I c.2])] ?_ ?_
            · refine xDraw 1000 [3, 4, 5, 6] mixed ?_
              refine xY (i := 0) (op := .load _ _) rfl (by (exact y_loadA rfl rfl rfl)) rfl rfl rfl rfl (by kernel_rfl) ?_
              refine xY (i := 1) (op := .load _ _) rfl (by (exact y_loadA rfl rfl rfl)) rfl rfl rfl rfl (by kernel_rfl) ?_
              refine xY (i := 2) (op := .load _ _) rfl (by (exact y_loadA rfl rfl rfl)) rfl rfl rfl rfl (by kernel_rfl) ?_
              refine xAll (rs := [3, 4, 5]) (by kernel_rfl) rfl ⟨?_, ?_, ?_, trivial⟩
              · (refine iE rfl (e_alloc rfl rfl rfl) rfl rfl ?_)
                refine xAll (rs := [4, 5]) (by kernel_rfl) rfl ⟨?_, ?_, trivial⟩
                · (refine iE rfl (e_alloc rfl rfl rfl) rfl rfl ?_)
                  refine xAll (rs := [5]) (by kernel_rfl) rfl ⟨?_, trivial⟩
                  · (refine iE rfl (e_alloc rfl rfl rfl) rfl rfl ?_)
                    refine xAll (rs := [6]) (by kernel_rfl) rfl ⟨?_, trivial⟩
                    · (refine iE rfl (e_store rfl rfl rfl rfl rfl rfl rfl) rfl rfl ?_)
                      refine xAll (rs := [7]) (by kernel_rfl) rfl ⟨?_, trivial⟩
                      · (refine iE rfl (e_store rfl rfl rfl rfl rfl rfl rfl) rfl rfl ?_)
                        refine xAll (rs := [8]) (by kernel_rfl) rfl ⟨?_, trivial⟩
                        · (refine iE rfl (e_store rfl rfl rfl rfl rfl rfl rfl) rfl rfl ?_)
                          exact xEnd (by kernel_rfl) ⟨rfl, by (repeat (first | exact sub_nil | refine sub_cons rfl ?_)), by (repeat (first | exact subH_nil | refine subH_cons rfl ?_))⟩
                · (refine iE rfl (e_alloc rfl rfl rfl) rfl rfl ?_)
                  refine xAll (rs := [4]) (by kernel_rfl) rfl ⟨?_, trivial⟩
                  · (refine iE rfl (e_alloc rfl rfl rfl) rfl rfl ?_)
                    refine xAll (rs := [6]) (by kernel_rfl) rfl ⟨?_, trivial⟩
                    · (refine iE rfl (e_store rfl rfl rfl rfl rfl rfl rfl) rfl rfl ?_)
                      refine xAll (rs := [7]) (by kernel_rfl) rfl ⟨?_, trivial⟩
                      · (refine iE rfl (e_store rfl rfl rfl rfl rfl rfl rfl) rfl rfl ?_)
                        refine xAll (rs := [8]) (by kernel_rfl) rfl ⟨?_, trivial⟩
                        · (refine iE rfl (e_store rfl rfl rfl rfl rfl rfl rfl) rfl rfl ?_)
                          exact xEnd (by kernel_rfl) ⟨rfl, by (repeat (first | exact sub_nil | refine sub_cons rfl ?_)), by (repeat (first | exact subH_nil | refine subH_cons rfl ?_))⟩
              · (refine iE rfl (e_alloc rfl rfl rfl) rfl rfl ?_)
                refine xAll (rs := [3, 5]) (by kernel_rfl) rfl ⟨?_, ?_, trivial⟩
                · (refine iE rfl (e_alloc rfl rfl rfl) rfl rfl ?_)
                  refine xAll (rs := [5]) (by kernel_rfl) rfl ⟨?_, trivial⟩
                  · (refine iE rfl (e_alloc rfl rfl rfl) rfl rfl ?_)
                    refine xAll (rs := [6]) (by kernel_rfl) rfl ⟨?_, trivial⟩
                    · (refine iE rfl (e_store rfl rfl rfl rfl rfl rfl rfl) rfl rfl ?_)
                      refine xAll (rs := [7]) (by kernel_rfl) rfl ⟨?_, trivial⟩
                      · (refine iE rfl (e_store rfl rfl rfl rfl rfl rfl rfl) rfl rfl ?_)
                        refine xAll (rs := [8]) (by kernel_rfl) rfl ⟨?_, trivial⟩
                        · (refine iE rfl (e_store rfl rfl rfl rfl rfl rfl rfl) rfl rfl ?_)
                          exact xEnd (by kernel_rfl) ⟨rfl, by (repeat (first | exact sub_nil | refine sub_cons rfl ?_)), by (repeat (first | exact subH_nil | refine subH_cons rfl ?_))⟩
                · (refine iE rfl (e_alloc rfl rfl rfl) rfl rfl ?_)
                  refine xAll (rs := [3]) (by kernel_rfl) rfl ⟨?_, trivial⟩
                  · (refine iE rfl (e_alloc rfl rfl rfl) rfl rfl ?_)
                    refine xAll (rs := [6]) (by kernel_rfl) rfl ⟨?_, trivial⟩
                    · (refine iE rfl (e_store rfl rfl rfl rfl rfl rfl rfl) rfl rfl ?_)
                      refine xAll (rs := [7]) (by kernel_rfl) rfl ⟨?_, trivial⟩
                      · (refine iE rfl (e_store rfl rfl rfl rfl rfl rfl rfl) rfl rfl ?_)
                        refine xAll (rs := [8]) (by kernel_rfl) rfl ⟨?_, trivial⟩
                        · (refine iE rfl (e_store rfl rfl rfl rfl rfl rfl rfl) rfl rfl ?_)
                          exact xEnd (by kernel_rfl) ⟨rfl, by (repeat (first | exact sub_nil | refine sub_cons rfl ?_)), by (repeat (first | exact subH_nil | refine subH_cons rfl ?_))⟩
              · (refine iE rfl (e_alloc rfl rfl rfl) rfl rfl ?_)
                refine xAll (rs := [3, 4]) (by kernel_rfl) rfl ⟨?_, ?_, trivial⟩
                · (refine iE rfl (e_alloc rfl rfl rfl) rfl rfl ?_)
                  refine xAll (rs := [4]) (by kernel_rfl) rfl ⟨?_, trivial⟩
                  · (refine iE rfl (e_alloc rfl rfl rfl) rfl rfl ?_)
                    refine xAll (rs := [6]) (by kernel_rfl) rfl ⟨?_, trivial⟩
                    · (refine iE rfl (e_store rfl rfl rfl rfl rfl rfl rfl) rfl rfl ?_)
                      refine xAll (rs := [7]) (by kernel_rfl) rfl ⟨?_, trivial⟩
                      · (refine iE rfl (e_store rfl rfl rfl rfl rfl rfl rfl) rfl rfl ?_)
                        refine xAll (rs := [8]) (by kernel_rfl) rfl ⟨?_, trivial⟩
                        · (refine iE rfl (e_store rfl rfl rfl rfl rfl rfl rfl) rfl rfl ?_)
                          exact xEnd (by kernel_rfl) ⟨rfl, by (repeat (first | exact sub_nil | refine sub_cons rfl ?_)), by (repeat (first | exact subH_nil | refine subH_cons rfl ?_))⟩
                · (refine iE rfl (e_alloc rfl rfl rfl) rfl rfl ?_)
                  refine xAll (rs := [3]) (by kernel_rfl) rfl ⟨?_, trivial⟩
                  · (refine iE rfl (e_alloc rfl rfl rfl) rfl rfl ?_)
                    refine xAll (rs := [6]) (by kernel_rfl) rfl ⟨?_, trivial⟩
                    · (refine iE rfl (e_store rfl rfl rfl rfl rfl rfl rfl) rfl rfl ?_)
                      refine xAll (rs := [7]) (by kernel_rfl) rfl ⟨?_, trivial⟩
                      · (refine iE rfl (e_store rfl rfl rfl rfl rfl rfl rfl) rfl rfl ?_)
                        refine xAll (rs := [8]) (by kernel_rfl) rfl ⟨?_, trivial⟩
                        · (refine iE rfl (e_store rfl rfl rfl rfl rfl rfl rfl) rfl rfl ?_)
                          exact xEnd (by kernel_rfl) ⟨rfl, by (repeat (first | exact sub_nil | refine sub_cons rfl ?_)), by (repeat (first | exact subH_nil | refine subH_cons rfl ?_))⟩
            repeat (refine seq_ ?_)
            refine draw_ [(0, true), (1, true), (3, true), (4, true), (2, false), (5, false), (6, true)] 1000 [3, 4, 5, 6, 9, 10, 11] mixed (by kernel_rfl) rfl ?_
            ((refine dY rfl (y_loadA rfl rfl rfl) rfl rfl rfl rfl ?_); refine dY rfl (y_loadA rfl rfl rfl) rfl rfl rfl rfl ?_; refine dY rfl (y_loadA rfl rfl rfl) rfl rfl rfl rfl ?_; refine dY rfl (y_loadA rfl rfl rfl) rfl rfl rfl rfl ?_)
            refine dC rfl Try.func43 rfl rfl (sac) rfl (by repeat (first | exact .refl _ | apply Les.cons | exact .nil)) rfl rfl ?_
            skip
            refine dC rfl Try.func43 rfl rfl (sbc) rfl (by repeat (first | exact .refl _ | apply Les.cons | exact .nil)) rfl rfl ?_
            ((refine dY rfl (y_cmpF rfl rfl rfl (by omega)) rfl rfl rfl rfl ?_); refine dEnd ?_)
            repeat (first | refine seq_ ?_ | refine skip_ ?_ | refine cond_f rfl ?_)
            refine draw_ [(0, true), (1, true), (3, true), (4, true), (2, false), (5, false), (6, true)] 1000 [3, 4, 5, 6, 9, 10, 11] mixed (by kernel_rfl) rfl ?_
            ((refine dY rfl (y_loadA rfl rfl rfl) rfl rfl rfl rfl ?_); refine dY rfl (y_loadA rfl rfl rfl) rfl rfl rfl rfl ?_; refine dY rfl (y_loadA rfl rfl rfl) rfl rfl rfl rfl ?_; refine dY rfl (y_loadA rfl rfl rfl) rfl rfl rfl rfl ?_)
            refine dC rfl Try.func43 rfl rfl (sab) rfl (by repeat (first | exact .refl _ | apply Les.cons | exact .nil)) rfl rfl ?_
            skip
            refine dC rfl Try.func43 rfl rfl (sbc) rfl (by repeat (first | exact .refl _ | apply Les.cons | exact .nil)) rfl rfl ?_
            ((refine dY rfl (y_cmpF rfl rfl rfl (by omega)) rfl rfl rfl rfl ?_); refine dEnd ?_)
            repeat (first | refine seq_ ?_ | refine region_ ?_ | refine skip_ ?_ | refine cond_f rfl ?_ | refine stepY (y_loadA rfl rfl rfl) rfl ?_)
            refine call_ Try.func34 rfl rfl (hx2) rfl (by repeat (first | exact .refl _ | apply Les.cons | exact .nil)) rfl ?_
            repeat (first | refine seq_ ?_ | refine region_ ?_ | refine nil_ ?_ | refine ret_ ?_ | refine cond_t rfl ?_ | refine stepY (y_assign rfl) rfl ?_ | refine stepY (y_loadA rfl rfl rfl) rfl ?_ | refine stepY (y_build_arrb rfl rfl rfl rfl) rfl ?_ | refine stepY (y_cmpT rfl rfl rfl (by omega)) rfl ?_ | refine stepE (e_store rfl rfl rfl rfl rfl rfl rfl) ?_)
            ((apply fin_r); (repeat (first | exact .nil | exact .tmp rfl | exact .agg rfl rfl rfl | apply ResL.cons)); (repeat (exact .refl _)))
          · rw [if_neg g3]
            have hx2 := cross_c a b c ha hb hcc
            repeat (first | refine seq_ ?_ | refine region_ ?_ | refine nil_ ?_ | refine stepY (y_assign rfl) rfl ?_ | refine stepY (y_loadA rfl rfl rfl) rfl ?_ | refine stepE (e_box rfl rfl rfl rfl rfl rfl) ?_ | refine stepE (e_alloc rfl rfl rfl) ?_ | refine stepE (e_bs_vs rfl rfl rfl rfl rfl rfl) ?_)
            refine seal_Ls (i := 15) (h := 15) rfl rfl rfl rfl ?_
            refine call_ Try.func32 rfl rfl (hc) rfl (by repeat (first | exact .tags _ _ | apply Les.cons | exact .nil)) rfl ?_
            repeat (first | refine seq_ ?_ | refine region_ ?_ | refine nil_ ?_ | refine skip_ ?_ | refine cond_f rfl ?_ | refine stepY (y_move rfl) rfl ?_ | refine stepY (y_assign rfl) rfl ?_ | refine stepY (y_loadA rfl rfl rfl) rfl ?_ | refine stepY (y_cmpF rfl rfl rfl (by omega)) rfl ?_)
            refine call_ Try.func34 rfl rfl (hx) rfl (by repeat (first | exact .refl _ | apply Les.cons | exact .nil)) rfl ?_
            repeat (first | refine seq_ ?_ | refine nil_ ?_ | refine skip_ ?_ | refine cond_f rfl ?_ | refine stepY (y_cmpF rfl rfl rfl (by omega)) rfl ?_)
            refine cut_ [(3, .ptr 3 0), (4, .ptr 4 0), (5, .ptr 5 0), (6, .ptr 6 0), (7, .p (E_ 0)), (9, .ptr 9 0), (10, .ptr 10 0), (11, .ptr 11 0)] [(3, .bx [I a.1, I a.2]), (4, .bx [I b.1, I b.2]), (5, .bx [I c.1, I c.2]), (6, .bx [I 0, I 0, I 0, I 0, I 0, I 0]), (9, .bx [I a.1, I a.2]), (10, .bx [I b.1, I b.2]), (11, .bx [I c.1, I c.2])] ?_ ?_
            · refine xDraw 1000 [3, 4, 5, 6] mixed ?_
              refine xY (i := 0) (op := .load _ _) rfl (by (exact y_loadA rfl rfl rfl)) rfl rfl rfl rfl (by kernel_rfl) ?_
              refine xY (i := 1) (op := .load _ _) rfl (by (exact y_loadA rfl rfl rfl)) rfl rfl rfl rfl (by kernel_rfl) ?_
              refine xY (i := 2) (op := .load _ _) rfl (by (exact y_loadA rfl rfl rfl)) rfl rfl rfl rfl (by kernel_rfl) ?_
              refine xAll (rs := [3, 4, 5]) (by kernel_rfl) rfl ⟨?_, ?_, ?_, trivial⟩
              · (refine iE rfl (e_alloc rfl rfl rfl) rfl rfl ?_)
                refine xAll (rs := [4, 5]) (by kernel_rfl) rfl ⟨?_, ?_, trivial⟩
                · (refine iE rfl (e_alloc rfl rfl rfl) rfl rfl ?_)
                  refine xAll (rs := [5]) (by kernel_rfl) rfl ⟨?_, trivial⟩
                  · (refine iE rfl (e_alloc rfl rfl rfl) rfl rfl ?_)
                    refine xAll (rs := [6]) (by kernel_rfl) rfl ⟨?_, trivial⟩
                    · (refine iE rfl (e_store rfl rfl rfl rfl rfl rfl rfl) rfl rfl ?_)
                      refine xAll (rs := [7]) (by kernel_rfl) rfl ⟨?_, trivial⟩
                      · (refine iE rfl (e_store rfl rfl rfl rfl rfl rfl rfl) rfl rfl ?_)
                        refine xAll (rs := [8]) (by kernel_rfl) rfl ⟨?_, trivial⟩
                        · (refine iE rfl (e_store rfl rfl rfl rfl rfl rfl rfl) rfl rfl ?_)
                          exact xEnd (by kernel_rfl) ⟨rfl, by (repeat (first | exact sub_nil | refine sub_cons rfl ?_)), by (repeat (first | exact subH_nil | refine subH_cons rfl ?_))⟩
                · (refine iE rfl (e_alloc rfl rfl rfl) rfl rfl ?_)
                  refine xAll (rs := [4]) (by kernel_rfl) rfl ⟨?_, trivial⟩
                  · (refine iE rfl (e_alloc rfl rfl rfl) rfl rfl ?_)
                    refine xAll (rs := [6]) (by kernel_rfl) rfl ⟨?_, trivial⟩
                    · (refine iE rfl (e_store rfl rfl rfl rfl rfl rfl rfl) rfl rfl ?_)
                      refine xAll (rs := [7]) (by kernel_rfl) rfl ⟨?_, trivial⟩
                      · (refine iE rfl (e_store rfl rfl rfl rfl rfl rfl rfl) rfl rfl ?_)
                        refine xAll (rs := [8]) (by kernel_rfl) rfl ⟨?_, trivial⟩
                        · (refine iE rfl (e_store rfl rfl rfl rfl rfl rfl rfl) rfl rfl ?_)
                          exact xEnd (by kernel_rfl) ⟨rfl, by (repeat (first | exact sub_nil | refine sub_cons rfl ?_)), by (repeat (first | exact subH_nil | refine subH_cons rfl ?_))⟩
              · (refine iE rfl (e_alloc rfl rfl rfl) rfl rfl ?_)
                refine xAll (rs := [3, 5]) (by kernel_rfl) rfl ⟨?_, ?_, trivial⟩
                · (refine iE rfl (e_alloc rfl rfl rfl) rfl rfl ?_)
                  refine xAll (rs := [5]) (by kernel_rfl) rfl ⟨?_, trivial⟩
                  · (refine iE rfl (e_alloc rfl rfl rfl) rfl rfl ?_)
                    refine xAll (rs := [6]) (by kernel_rfl) rfl ⟨?_, trivial⟩
                    · (refine iE rfl (e_store rfl rfl rfl rfl rfl rfl rfl) rfl rfl ?_)
                      refine xAll (rs := [7]) (by kernel_rfl) rfl ⟨?_, trivial⟩
                      · (refine iE rfl (e_store rfl rfl rfl rfl rfl rfl rfl) rfl rfl ?_)
                        refine xAll (rs := [8]) (by kernel_rfl) rfl ⟨?_, trivial⟩
                        · (refine iE rfl (e_store rfl rfl rfl rfl rfl rfl rfl) rfl rfl ?_)
                          exact xEnd (by kernel_rfl) ⟨rfl, by (repeat (first | exact sub_nil | refine sub_cons rfl ?_)), by (repeat (first | exact subH_nil | refine subH_cons rfl ?_))⟩
                · (refine iE rfl (e_alloc rfl rfl rfl) rfl rfl ?_)
                  refine xAll (rs := [3]) (by kernel_rfl) rfl ⟨?_, trivial⟩
                  · (refine iE rfl (e_alloc rfl rfl rfl) rfl rfl ?_)
                    refine xAll (rs := [6]) (by kernel_rfl) rfl ⟨?_, trivial⟩
                    · (refine iE rfl (e_store rfl rfl rfl rfl rfl rfl rfl) rfl rfl ?_)
                      refine xAll (rs := [7]) (by kernel_rfl) rfl ⟨?_, trivial⟩
                      · (refine iE rfl (e_store rfl rfl rfl rfl rfl rfl rfl) rfl rfl ?_)
                        refine xAll (rs := [8]) (by kernel_rfl) rfl ⟨?_, trivial⟩
                        · (refine iE rfl (e_store rfl rfl rfl rfl rfl rfl rfl) rfl rfl ?_)
                          exact xEnd (by kernel_rfl) ⟨rfl, by (repeat (first | exact sub_nil | refine sub_cons rfl ?_)), by (repeat (first | exact subH_nil | refine subH_cons rfl ?_))⟩
              · (refine iE rfl (e_alloc rfl rfl rfl) rfl rfl ?_)
                refine xAll (rs := [3, 4]) (by kernel_rfl) rfl ⟨?_, ?_, trivial⟩
                · (refine iE rfl (e_alloc rfl rfl rfl) rfl rfl ?_)
                  refine xAll (rs := [4]) (by kernel_rfl) rfl ⟨?_, trivial⟩
                  · (refine iE rfl (e_alloc rfl rfl rfl) rfl rfl ?_)
                    refine xAll (rs := [6]) (by kernel_rfl) rfl ⟨?_, trivial⟩
                    · (refine iE rfl (e_store rfl rfl rfl rfl rfl rfl rfl) rfl rfl ?_)
                      refine xAll (rs := [7]) (by kernel_rfl) rfl ⟨?_, trivial⟩
                      · (refine iE rfl (e_store rfl rfl rfl rfl rfl rfl rfl) rfl rfl ?_)
                        refine xAll (rs := [8]) (by kernel_rfl) rfl ⟨?_, trivial⟩
                        · (refine iE rfl (e_store rfl rfl rfl rfl rfl rfl rfl) rfl rfl ?_)
                          exact xEnd (by kernel_rfl) ⟨rfl, by (repeat (first | exact sub_nil | refine sub_cons rfl ?_)), by (repeat (first | exact subH_nil | refine subH_cons rfl ?_))⟩
                · (refine iE rfl (e_alloc rfl rfl rfl) rfl rfl ?_)
                  refine xAll (rs := [3]) (by kernel_rfl) rfl ⟨?_, trivial⟩
                  · (refine iE rfl (e_alloc rfl rfl rfl) rfl rfl ?_)
                    refine xAll (rs := [6]) (by kernel_rfl) rfl ⟨?_, trivial⟩
                    · (refine iE rfl (e_store rfl rfl rfl rfl rfl rfl rfl) rfl rfl ?_)
                      refine xAll (rs := [7]) (by kernel_rfl) rfl ⟨?_, trivial⟩
                      · (refine iE rfl (e_store rfl rfl rfl rfl rfl rfl rfl) rfl rfl ?_)
                        refine xAll (rs := [8]) (by kernel_rfl) rfl ⟨?_, trivial⟩
                        · (refine iE rfl (e_store rfl rfl rfl rfl rfl rfl rfl) rfl rfl ?_)
                          exact xEnd (by kernel_rfl) ⟨rfl, by (repeat (first | exact sub_nil | refine sub_cons rfl ?_)), by (repeat (first | exact subH_nil | refine subH_cons rfl ?_))⟩
            repeat (refine seq_ ?_)
            refine draw_ [(0, true), (1, true), (3, true), (4, true), (2, false), (5, false), (6, true)] 1000 [3, 4, 5, 6, 9, 10, 11] mixed (by kernel_rfl) rfl ?_
            ((refine dY rfl (y_loadA rfl rfl rfl) rfl rfl rfl rfl ?_); refine dY rfl (y_loadA rfl rfl rfl) rfl rfl rfl rfl ?_; refine dY rfl (y_loadA rfl rfl rfl) rfl rfl rfl rfl ?_; refine dY rfl (y_loadA rfl rfl rfl) rfl rfl rfl rfl ?_)
            refine dC rfl Try.func43 rfl rfl (sac) rfl (by repeat (first | exact .refl _ | apply Les.cons | exact .nil)) rfl rfl ?_
            skip
            refine dC rfl Try.func43 rfl rfl (sbc) rfl (by repeat (first | exact .refl _ | apply Les.cons | exact .nil)) rfl rfl ?_
            ((refine dY rfl (y_cmpF rfl rfl rfl (by omega)) rfl rfl rfl rfl ?_); refine dEnd ?_)
            repeat (first | refine seq_ ?_ | refine skip_ ?_ | refine cond_f rfl ?_)
            refine draw_ [(0, true), (1, true), (3, true), (4, true), (2, false), (5, false), (6, true)] 1000 [3, 4, 5, 6, 9, 10, 11] mixed (by kernel_rfl) rfl ?_
            ((refine dY rfl (y_loadA rfl rfl rfl) rfl rfl rfl rfl ?_); refine dY rfl (y_loadA rfl rfl rfl) rfl rfl rfl rfl ?_; refine dY rfl (y_loadA rfl rfl rfl) rfl rfl rfl rfl ?_; refine dY rfl (y_loadA rfl rfl rfl) rfl rfl rfl rfl ?_)
            refine dC rfl Try.func43 rfl rfl (sab) rfl (by repeat (first | exact .refl _ | apply Les.cons | exact .nil)) rfl rfl ?_
            skip
            refine dC rfl Try.func43 rfl rfl (sbc) rfl (by repeat (first | exact .refl _ | apply Les.cons | exact .nil)) rfl rfl ?_
            ((refine dY rfl (y_cmpF rfl rfl rfl (by omega)) rfl rfl rfl rfl ?_); refine dEnd ?_)
            repeat (first | refine seq_ ?_ | refine region_ ?_ | refine skip_ ?_ | refine cond_f rfl ?_ | refine stepY (y_loadA rfl rfl rfl) rfl ?_)
            refine call_ Try.func34 rfl rfl (hx2) rfl (by repeat (first | exact .refl _ | apply Les.cons | exact .nil)) rfl ?_
            repeat (first | refine seq_ ?_ | refine region_ ?_ | refine nil_ ?_ | refine skip_ ?_ | refine ret_ ?_ | refine cond_f rfl ?_ | refine stepY (y_assign rfl) rfl ?_ | refine stepY (y_loadA rfl rfl rfl) rfl ?_ | refine stepY (y_build_arrb rfl rfl rfl rfl) rfl ?_ | refine stepY (y_cmpF rfl rfl rfl (by omega)) rfl ?_ | refine stepE (e_store rfl rfl rfl rfl rfl rfl rfl) ?_)
            ((apply fin_r); (repeat (first | exact .nil | exact .tmp rfl | exact .agg rfl rfl rfl | apply ResL.cons)); (repeat (exact .refl _)))
  · rw [if_neg hs] at hc
    rw [if_pos hs]
    refine con_of Try.func17 rfl rfl rfl rfl rfl ?_
    repeat (first | refine seq_ ?_ | refine region_ ?_ | refine nil_ ?_ | refine stepY (y_assign rfl) rfl ?_ | refine stepY (y_loadA rfl rfl rfl) rfl ?_ | refine stepE (e_box rfl rfl rfl rfl rfl rfl) ?_ | refine stepE (e_alloc rfl rfl rfl) ?_ | refine stepE (e_bs_vs rfl rfl rfl rfl rfl rfl) ?_)
    refine seal_Ls (i := 15) (h := 15) rfl rfl rfl rfl ?_
    refine call_ Try.func32 rfl rfl (hc) rfl (by repeat (first | exact .tags _ _ | apply Les.cons | exact .nil)) rfl ?_
    repeat (first | refine seq_ ?_ | refine region_ ?_ | refine nil_ ?_ | refine ret_ ?_ | refine cond_t rfl ?_ | refine stepY (y_move rfl) rfl ?_ | refine stepY (y_assign rfl) rfl ?_ | refine stepY (y_build_arrb rfl rfl rfl rfl) rfl ?_ | refine stepY (y_cmpT rfl rfl rfl (by omega)) rfl ?_ | refine stepE (e_store rfl rfl rfl rfl rfl rfl rfl) ?_)
    ((apply fin_r); (repeat (first | exact .nil | exact .tmp rfl | exact .agg rfl rfl rfl | apply ResL.cons)); (repeat (exact .refl _)))
end Go.Av

set_option maxHeartbeats 4000000
set_option maxRecDepth 100000
set_option linter.unusedVariables false
set_option linter.unusedSimpArgs false
namespace Go.Av
open Go Go.Proofs
theorem rd_bd {l : List Int} (h : wf l) (i : Nat) : 0 ≤ rd l i ∧ rd l i < 4294967296 := by rw [rd_dgk h i]; exact dg_bd _ _

theorem sum_lt {a b k : Nat} (ha : a < B ^ k) (hb : b < B ^ k) : a + b < B ^ (k + 1) := by
  rw [Nat.pow_succ]
  unfold B at *
  omega
/-! barscanref02.order -/
/-! barscanref02.plus -/
/-! barscanref02.minus -/
/-! barscanref02.times -/
end Go.Av

set_option maxHeartbeats 4000000
set_option maxRecDepth 100000
set_option linter.unusedVariables false
set_option linter.unusedSimpArgs false
namespace Go.Av
open Go Go.Proofs
/-- is a value of api.Int in normal form? -/
def vldB (neg : Bool) (l : List Int) : Bool := decide (l.length ≤ 512) && (if l.length = 0 then !neg else decide (rd l (l.length - 1) ≠ 0))
theorem vld_iv {z : Int} (h : ln z.natAbs ≤ 512) : vldB (decide (z < 0)) (limbs z.natAbs) = true := by
  unfold vldB
  rw [limbs_length, decide_eq_true h, Bool.true_and]
  split
  · rename_i h0
    have : ¬ 0 < z.natAbs := fun h1 => by have := ln_pos.2 h1; omega
    simp; omega
  · rename_i h0
    have h1 := top_ne (n := z.natAbs) (ln_pos.1 (by omega))
    rw [rd_limbs _ (by omega), show ((ln z.natAbs : Int) - 1).toNat = ln z.natAbs - 1 by omega]
    simp; omega
theorem iv_vld {neg : Bool} {l : List Int} (hw : wf l) (h : vldB neg l = true) : AV neg l = IV (sgn neg (val l)) ∧ ln (sgn neg (val l)).natAbs ≤ 512 := by
  unfold vldB at h
  rw [Bool.and_eq_true, decide_eq_true_eq] at h
  obtain ⟨h1, h2⟩ := h
  have hlim : limbs (val l) = l := by
    refine limbs_val hw ?_
    split at h2
    · rename_i h0; exact .inl (List.eq_nil_of_length_eq_zero h0)
    · rename_i h0
      rw [decide_eq_true_eq] at h2
      right
      unfold rd at h2
      rwa [show ((l.length : Int) - 1).toNat = l.length - 1 by omega] at h2
  have hln : ln (val l) = l.length := by rw [← limbs_length, hlim]
  refine ⟨?_, by rw [sgn_abs, hln]; exact h1⟩
  unfold IV AV M
  rw [sgn_abs, hlim, sgn_neg]
  congr 3
  cases neg with
  | false => rfl
  | true =>
    have : 0 < val l := by
      split at h2
      · simp at h2
      · rename_i h0; exact ln_pos.1 (by omega)
    simp [this]

theorem Valid_c (neg : Bool) (l : List Int) : Con Try.prog 63 [AV neg l] (Bo (vldB neg l)) := by
  refine con_of Try.func63 rfl rfl rfl rfl rfl ?_
  refine len_Ca (i := 0) rfl (fun hL => ?_)
  by_cases h1 : l.length ≤ 512
  · by_cases h0 : l.length = 0
    · have e : vldB neg l = !neg := by unfold vldB; rw [decide_eq_true h1, if_pos h0]; rfl
      rw [e]
      have h2 : ¬ (0 : Int) < l.length := by omega
      cases neg <;> (
      repeat (first | refine seq_ ?_ | refine region_ ?_ | refine nil_ ?_ | refine ret_ ?_ | refine guard_t rfl rfl rfl ?_ | refine guard_f rfl rfl rfl rfl ?_ | refine guard_u rfl rfl rfl ?_ | refine stepY (y_move rfl) rfl ?_ | refine stepY (y_assign rfl) rfl ?_ | refine stepY (y_load1 rfl rfl rfl) rfl ?_ | refine stepY (y_fieldAddr rfl) rfl ?_ | refine stepY (y_len_si rfl) rfl ?_ | refine stepY (y_not rfl) rfl ?_ | (first | refine stepY (y_pick_t rfl rfl) rfl ?_ | refine stepY (y_pick_f rfl rfl) rfl ?_) | refine stepY (y_cmpT rfl rfl rfl (by omega)) rfl ?_ | refine stepY (y_cmpT rfl rfl rfl (by omega)) rfl ?_ | refine stepY (y_cmpF rfl rfl rfl (by omega)) rfl ?_ | refine stepE (e_box rfl rfl rfl rfl rfl rfl) ?_)
      ((apply fin_r); (repeat (first | exact .nil | exact .tmp rfl | apply ResL.cons)); (repeat (exact .refl _))))
    · by_cases h3 : rd l ((l.length : Int) - 1) = 0
      · have e : vldB neg l = false := by unfold vldB; rw [decide_eq_true h1, if_neg h0, decide_eq_false (by simpa using h3)]; rfl
        rw [e]
        repeat (first | refine seq_ ?_ | refine region_ ?_ | refine nil_ ?_ | refine ret_ ?_ | refine guard_t rfl rfl rfl ?_ | refine guard_f rfl rfl rfl rfl ?_ | refine stepY (y_move rfl) rfl ?_ | refine stepY (y_assign rfl) rfl ?_ | (first | refine stepY (y_load1 rfl rfl rfl) rfl ?_ | refine stepY (y_load_rc1 rfl rfl) rfl ?_) | refine stepY (y_fieldAddr rfl) rfl ?_ | refine stepY (y_len_si rfl) rfl ?_ | (first | refine stepY (y_pick_t rfl rfl) rfl ?_ | refine stepY (y_pick_f rfl rfl) rfl ?_) | refine stepY (y_index_si rfl rfl (by omega) (by omega)) rfl ?_ | refine stepY (y_binn rfl rfl rfl (by simp only [InK, loK, hiK]; omega)) rfl ?_ | refine stepY (y_cmpF rfl rfl rfl (by omega)) rfl ?_ | refine stepY (y_cmpF rfl rfl rfl (by omega)) rfl ?_ | refine stepY (y_cmpT rfl rfl rfl (by omega)) rfl ?_ | refine stepY (y_cmpT rfl rfl rfl (by omega)) rfl ?_ | refine stepE (e_box rfl rfl rfl rfl rfl rfl) ?_)
        ((apply fin_r); (repeat (first | exact .nil | exact .tmp rfl | apply ResL.cons)); (repeat (exact .refl _)))
      · have e : vldB neg l = true := by unfold vldB; rw [decide_eq_true h1, if_neg h0, decide_eq_true h3]; rfl
        rw [e]
        repeat (first | refine seq_ ?_ | refine region_ ?_ | refine nil_ ?_ | refine ret_ ?_ | refine guard_t rfl rfl rfl ?_ | refine guard_f rfl rfl rfl rfl ?_ | refine stepY (y_move rfl) rfl ?_ | refine stepY (y_assign rfl) rfl ?_ | (first | refine stepY (y_load1 rfl rfl rfl) rfl ?_ | refine stepY (y_load_rc1 rfl rfl) rfl ?_) | refine stepY (y_fieldAddr rfl) rfl ?_ | refine stepY (y_len_si rfl) rfl ?_ | (first | refine stepY (y_pick_t rfl rfl) rfl ?_ | refine stepY (y_pick_f rfl rfl) rfl ?_) | refine stepY (y_index_si rfl rfl (by omega) (by omega)) rfl ?_ | refine stepY (y_binn rfl rfl rfl (by simp only [InK, loK, hiK]; omega)) rfl ?_ | refine stepY (y_cmpF rfl rfl rfl (by omega)) rfl ?_ | refine stepY (y_cmpT rfl rfl rfl (by omega)) rfl ?_ | refine stepY (y_cmpT rfl rfl rfl (by omega)) rfl ?_ | refine stepY (y_cmpT rfl rfl rfl (by omega)) rfl ?_ | refine stepE (e_box rfl rfl rfl rfl rfl rfl) ?_)
        ((apply fin_r); (repeat (first | exact .nil | exact .tmp rfl | apply ResL.cons)); (repeat (exact .refl _)))
  · have e : vldB neg l = false := by unfold vldB; rw [decide_eq_false h1]; rfl
    rw [e]
    repeat (first | refine seq_ ?_ | refine region_ ?_ | refine nil_ ?_ | refine ret_ ?_ | refine guard_f rfl rfl rfl rfl ?_ | refine guard_u rfl rfl rfl ?_ | refine stepY (y_move rfl) rfl ?_ | refine stepY (y_assign rfl) rfl ?_ | refine stepY (y_load1 rfl rfl rfl) rfl ?_ | refine stepY (y_fieldAddr rfl) rfl ?_ | refine stepY (y_len_si rfl) rfl ?_ | refine stepY (y_pick_f rfl rfl) rfl ?_ | refine stepY (y_cmpF rfl rfl rfl (by omega)) rfl ?_ | refine stepE (e_box rfl rfl rfl rfl rfl rfl) ?_)
    ((apply fin_r); (repeat (first | exact .nil | exact .tmp rfl | apply ResL.cons)); (repeat (exact .refl _)))
theorem RValid_c (neg : Bool) (l : List Int) : Con Try.prog 66 [AV neg l] (Bo (vldB neg l)) := by
  refine con_of Try.func66 rfl rfl rfl rfl rfl ?_
  refine len_Ca (i := 0) rfl (fun hL => ?_)
  by_cases h1 : l.length ≤ 512
  · by_cases h0 : l.length = 0
    · have e : vldB neg l = !neg := by unfold vldB; rw [decide_eq_true h1, if_pos h0]; rfl
      rw [e]
      have h2 : ¬ (0 : Int) < l.length := by omega
      cases neg <;> (
      repeat (first | refine seq_ ?_ | refine region_ ?_ | refine nil_ ?_ | refine ret_ ?_ | refine cond_t rfl ?_ | refine stepY (y_move rfl) rfl ?_ | refine stepY (y_assign rfl) rfl ?_ | refine stepY (y_load1 rfl rfl rfl) rfl ?_ | refine stepY (y_fieldAddr rfl) rfl ?_ | refine stepY (y_len_si rfl) rfl ?_ | refine stepY (y_not rfl) rfl ?_ | refine stepY (y_cmpT rfl rfl rfl (by omega)) rfl ?_ | refine stepE (e_box rfl rfl rfl rfl rfl rfl) ?_)
      ((apply fin_r); (repeat (first | exact .nil | exact .tmp rfl | apply ResL.cons)); (repeat (exact .refl _))))
    · by_cases h3 : rd l ((l.length : Int) - 1) = 0
      · have e : vldB neg l = false := by unfold vldB; rw [decide_eq_true h1, if_neg h0, decide_eq_false (by simpa using h3)]; rfl
        rw [e]
        repeat (first | refine seq_ ?_ | refine region_ ?_ | refine nil_ ?_ | refine skip_ ?_ | refine ret_ ?_ | refine cond_f rfl ?_ | refine guard_t rfl rfl rfl ?_ | refine stepY (y_move rfl) rfl ?_ | refine stepY (y_assign rfl) rfl ?_ | (first | refine stepY (y_load1 rfl rfl rfl) rfl ?_ | refine stepY (y_load_rc1 rfl rfl) rfl ?_) | refine stepY (y_fieldAddr rfl) rfl ?_ | refine stepY (y_len_si rfl) rfl ?_ | refine stepY (y_pick_t rfl rfl) rfl ?_ | refine stepY (y_index_si rfl rfl (by omega) (by omega)) rfl ?_ | refine stepY (y_binn rfl rfl rfl (by simp only [InK, loK, hiK]; omega)) rfl ?_ | refine stepY (y_cmpF rfl rfl rfl (by omega)) rfl ?_ | refine stepY (y_cmpF rfl rfl rfl (by omega)) rfl ?_ | refine stepY (y_cmpT rfl rfl rfl (by omega)) rfl ?_ | refine stepE (e_box rfl rfl rfl rfl rfl rfl) ?_)
        ((apply fin_r); (repeat (first | exact .nil | exact .tmp rfl | apply ResL.cons)); (repeat (exact .refl _)))
      · have e : vldB neg l = true := by unfold vldB; rw [decide_eq_true h1, if_neg h0, decide_eq_true h3]; rfl
        rw [e]
        repeat (first | refine seq_ ?_ | refine region_ ?_ | refine nil_ ?_ | refine skip_ ?_ | refine ret_ ?_ | refine cond_f rfl ?_ | refine guard_t rfl rfl rfl ?_ | refine stepY (y_move rfl) rfl ?_ | refine stepY (y_assign rfl) rfl ?_ | (first | refine stepY (y_load1 rfl rfl rfl) rfl ?_ | refine stepY (y_load_rc1 rfl rfl) rfl ?_) | refine stepY (y_fieldAddr rfl) rfl ?_ | refine stepY (y_len_si rfl) rfl ?_ | refine stepY (y_pick_t rfl rfl) rfl ?_ | refine stepY (y_index_si rfl rfl (by omega) (by omega)) rfl ?_ | refine stepY (y_binn rfl rfl rfl (by simp only [InK, loK, hiK]; omega)) rfl ?_ | refine stepY (y_cmpF rfl rfl rfl (by omega)) rfl ?_ | refine stepY (y_cmpT rfl rfl rfl (by omega)) rfl ?_ | refine stepY (y_cmpT rfl rfl rfl (by omega)) rfl ?_ | refine stepE (e_box rfl rfl rfl rfl rfl rfl) ?_)
        ((apply fin_r); (repeat (first | exact .nil | exact .tmp rfl | apply ResL.cons)); (repeat (exact .refl _)))
  · have e : vldB neg l = false := by unfold vldB; rw [decide_eq_false h1]; rfl
    rw [e]
    repeat (first | refine seq_ ?_ | refine region_ ?_ | refine nil_ ?_ | refine skip_ ?_ | refine ret_ ?_ | refine cond_f rfl ?_ | refine guard_f rfl rfl rfl rfl ?_ | refine stepY (y_move rfl) rfl ?_ | refine stepY (y_assign rfl) rfl ?_ | refine stepY (y_load1 rfl rfl rfl) rfl ?_ | refine stepY (y_fieldAddr rfl) rfl ?_ | refine stepY (y_len_si rfl) rfl ?_ | refine stepY (y_pick_f rfl rfl) rfl ?_ | refine stepY (y_cmpF rfl rfl rfl (by omega)) rfl ?_ | refine stepY (y_cmpF rfl rfl rfl (by omega)) rfl ?_ | refine stepE (e_box rfl rfl rfl rfl rfl rfl) ?_)
    ((apply fin_r); (repeat (first | exact .nil | exact .tmp rfl | apply ResL.cons)); (repeat (exact .refl _)))
theorem Valid_t {z : Int} (h : ln z.natAbs ≤ 512) : Con Try.prog 63 [IV z] (Bo true) := by
  have := Valid_c (decide (z < 0)) (limbs z.natAbs); rwa [vld_iv h] at this
theorem RValid_t {z : Int} (h : ln z.natAbs ≤ 512) : Con Try.prog 66 [IV z] (Bo true) := by
  have := RValid_c (decide (z < 0)) (limbs z.natAbs); rwa [vld_iv h] at this
end Go.Av

set_option maxHeartbeats 8000000
set_option exponentiation.threshold 100000
set_option maxRecDepth 100000
set_option linter.unusedVariables false
set_option linter.unusedSimpArgs false
namespace Go.Av
open Go Go.Proofs
abbrev SV (p : Bool) (m : Nat) : PV := .ag [Bo p, M m]
theorem vld_ln {p : Bool} {m : Nat} (h : vldB p (limbs m) = true) : ln m ≤ 512 := by
  unfold vldB at h
  rw [Bool.and_eq_true, decide_eq_true_eq, limbs_length] at h
  exact h.1
theorem sgn_self (z : Int) : sgn (decide (z < 0)) z.natAbs = z := by
  unfold sgn
  by_cases h : z < 0
  · simp [h]; omega
  · simp [h]; omega
theorem ln_add {m n : Nat} (hm : ln m ≤ 512) (hn : ln n ≤ 512) : ln (m + n) ≤ 513 := by
  rw [ln_le] at *
  exact sum_lt hm hn
/-! bigint.added -/
def addN (p q : Bool) (m n : Nat) : Bool := if p = q then p else if n ≤ m then p else q
def addL (p q : Bool) (m n : Nat) : List Int := if p = q then padd (max (ln m) (ln n) + 1) (m + n) else if n ≤ m then limbs (m - n) else limbs (n - m)
theorem add_val (p q : Bool) (m n : Nat) : sgn (addN p q m n) (val (addL p q m n)) = sgn p m + sgn q n := by
  unfold addN addL
  by_cases h : p = q
  · rw [if_pos h, if_pos h, val_padd, Nat.mod_eq_of_lt (sum_lt (ln_le.1 (Nat.le_max_left _ _)) (ln_le.1 (Nat.le_max_right _ _)))]
    subst h
    cases p <;> simp [sgn] <;> omega
  · rw [if_neg h, if_neg h]
    by_cases h1 : n ≤ m
    · rw [if_pos h1, if_pos h1, val_limbs]
      cases p <;> cases q <;> simp [sgn] at * <;> omega
    · rw [if_neg h1, if_neg h1, val_limbs]
      cases p <;> cases q <;> simp [sgn] at * <;> omega
theorem add_wf (p q : Bool) (m n : Nat) : wf (addL p q m n) := by
  unfold addL; split
  · exact wf_padd _ _
  · split
    · exact wf_limbs _
    · exact wf_limbs _
theorem add_len {p q : Bool} {m n : Nat} (hm : ln m ≤ 512) (hn : ln n ≤ 512) : (addL p q m n).length ≤ 513 := by
  unfold addL; split
  · rw [padd_length]; omega
  · have h1 := ln_mono (Nat.sub_le m n)
    have h2 := ln_mono (Nat.sub_le n m)
    split <;> rw [limbs_length] <;> omega
theorem added_c (p q : Bool) (m n : Nat) (hm : ln m ≤ 512) (hn : ln n ≤ 512) : Con Try.prog 78 [SV p m, SV q n] (.tp [Bo (addN p q m n), Li (addL p q m n)]) := by
  refine con_of Try.func78 rfl rfl rfl rfl rfl ?_
  have hsum := Sum_c (limbs m) (limbs n) (wf_limbs _) (wf_limbs _) (by rw [limbs_length]; omega) (by rw [limbs_length]; omega)
  rw [val_limbs, val_limbs, limbs_length, limbs_length] at hsum
  cases p <;> cases q
  · rw [show addN false false m n = false from rfl, show addL false false m n = padd (max (ln m) (ln n) + 1) (m + n) from rfl]
    repeat (first | refine seq_ ?_ | refine region_ ?_ | refine nil_ ?_ | refine block_ ?_ | refine cond_t rfl ?_ | refine stepY (y_assign rfl) rfl ?_ | refine stepY (y_load1 rfl rfl rfl) rfl ?_ | refine stepY (y_fieldAddr rfl) rfl ?_ | refine stepY (y_eqb rfl rfl) rfl ?_ | refine stepE (e_box rfl rfl rfl rfl rfl rfl) ?_)
    refine draw_ [(0, true), (1, true), (2, true), (3, true), (4, true), (5, true), (6, false), (7, true), (8, true)] 1000 [2, 3] mixed (by kernel_rfl) rfl ?_
    ((refine dY rfl (y_fieldAddr rfl) rfl rfl rfl rfl ?_); refine dY rfl (y_load1 rfl rfl rfl) rfl rfl rfl rfl ?_; refine dY rfl (y_fieldAddr rfl) rfl rfl rfl rfl ?_; refine dY rfl (y_load1 rfl rfl rfl) rfl rfl rfl rfl ?_; refine dY rfl (y_fieldAddr rfl) rfl rfl rfl rfl ?_; refine dY rfl (y_load1 rfl rfl rfl) rfl rfl rfl rfl ?_)
    refine dC rfl Try.func92 rfl rfl hsum rfl (by repeat (first | exact .refl _ | apply Les.cons | exact .nil)) rfl rfl ?_
    ((refine dY rfl (y_assign rfl) rfl rfl rfl rfl ?_); refine dY rfl (y_assign rfl) rfl rfl rfl rfl ?_; refine dEnd ?_)
    repeat (refine ret_ ?_)
    ((apply fin_r); (repeat (first | exact .nil | exact .tmp rfl | apply ResL.cons)); (repeat (first | exact .refl _ | exact .tag _ _ | apply Le.tp | apply Les.cons | exact .nil)))
  · by_cases h : n ≤ m
    · have hs : 0 ≤ sg m n := by unfold sg; rw [if_neg (by omega)]; split <;> omega
      have hd := Difference_c (limbs m) (limbs n) (wf_limbs _) (wf_limbs _) (by rw [limbs_length]; omega) (by rw [val_limbs, val_limbs]; exact h)
      rw [val_limbs, val_limbs] at hd
      rw [show addN false true m n = false by simp [addN, h], show addL false true m n = limbs (m - n) by simp [addL, h]]
      repeat (first | refine seq_ ?_ | refine region_ ?_ | refine nil_ ?_ | refine block_ ?_ | refine cond_f rfl ?_ | refine stepY (y_assign rfl) rfl ?_ | refine stepY (y_load1 rfl rfl rfl) rfl ?_ | refine stepY (y_fieldAddr rfl) rfl ?_ | refine stepY (y_eqb rfl rfl) rfl ?_ | refine stepE (e_box rfl rfl rfl rfl rfl rfl) ?_)
      refine call_ Try.func93 rfl rfl (Compare_c m n) rfl (by repeat (first | exact .refl _ | apply Les.cons | exact .nil)) rfl ?_
      repeat (first | refine seq_ ?_ | refine nil_ ?_ | refine cond_t rfl ?_ | refine stepY (y_assign rfl) rfl ?_ | refine stepY (y_cmpT rfl rfl rfl (by omega)) rfl ?_)
      refine draw_ [(0, true), (1, true), (2, true), (3, true), (4, true), (5, true), (6, false), (7, true), (8, true)] 1000 [2, 3] mixed (by kernel_rfl) rfl ?_
      ((refine dY rfl (y_fieldAddr rfl) rfl rfl rfl rfl ?_); refine dY rfl (y_load1 rfl rfl rfl) rfl rfl rfl rfl ?_; refine dY rfl (y_fieldAddr rfl) rfl rfl rfl rfl ?_; refine dY rfl (y_load1 rfl rfl rfl) rfl rfl rfl rfl ?_; refine dY rfl (y_fieldAddr rfl) rfl rfl rfl rfl ?_; refine dY rfl (y_load1 rfl rfl rfl) rfl rfl rfl rfl ?_)
      refine dC rfl Try.func94 rfl rfl hd rfl (by repeat (first | exact .refl _ | apply Les.cons | exact .nil)) rfl rfl ?_
      ((refine dY rfl (y_assign rfl) rfl rfl rfl rfl ?_); refine dY rfl (y_assign rfl) rfl rfl rfl rfl ?_; refine dEnd ?_)
      repeat (refine ret_ ?_)
      ((apply fin_r); (repeat (first | exact .nil | exact .tmp rfl | apply ResL.cons)); (repeat (exact .refl _)))
    · have hs : sg m n = -1 := sg_lt (by omega)
      have hd := Difference_c (limbs n) (limbs m) (wf_limbs _) (wf_limbs _) (by rw [limbs_length]; omega) (by rw [val_limbs, val_limbs]; omega)
      rw [val_limbs, val_limbs] at hd
      rw [show addN false true m n = true by simp [addN, h], show addL false true m n = limbs (n - m) by simp [addL, h]]
      repeat (first | refine seq_ ?_ | refine region_ ?_ | refine nil_ ?_ | refine block_ ?_ | refine cond_f rfl ?_ | refine stepY (y_assign rfl) rfl ?_ | refine stepY (y_load1 rfl rfl rfl) rfl ?_ | refine stepY (y_fieldAddr rfl) rfl ?_ | refine stepY (y_eqb rfl rfl) rfl ?_ | refine stepE (e_box rfl rfl rfl rfl rfl rfl) ?_)
      refine call_ Try.func93 rfl rfl (Compare_c m n) rfl (by repeat (first | exact .refl _ | apply Les.cons | exact .nil)) rfl ?_
      rw [hs]
      repeat (first | refine seq_ ?_ | refine nil_ ?_ | refine skip_ ?_ | refine cond_f rfl ?_ | refine stepY (y_assign rfl) rfl ?_ | refine stepY (y_cmpF rfl rfl rfl (by omega)) rfl ?_)
      refine draw_ [(0, true), (1, true), (2, true), (3, true), (4, true), (5, true), (6, false), (7, true), (8, true)] 1000 [2, 3] mixed (by kernel_rfl) rfl ?_
      ((refine dY rfl (y_fieldAddr rfl) rfl rfl rfl rfl ?_); refine dY rfl (y_load1 rfl rfl rfl) rfl rfl rfl rfl ?_; refine dY rfl (y_fieldAddr rfl) rfl rfl rfl rfl ?_; refine dY rfl (y_load1 rfl rfl rfl) rfl rfl rfl rfl ?_; refine dY rfl (y_fieldAddr rfl) rfl rfl rfl rfl ?_; refine dY rfl (y_load1 rfl rfl rfl) rfl rfl rfl rfl ?_)
      refine dC rfl Try.func94 rfl rfl hd rfl (by repeat (first | exact .refl _ | apply Les.cons | exact .nil)) rfl rfl ?_
      ((refine dY rfl (y_assign rfl) rfl rfl rfl rfl ?_); refine dY rfl (y_assign rfl) rfl rfl rfl rfl ?_; refine dEnd ?_)
      repeat (refine ret_ ?_)
      ((apply fin_r); (repeat (first | exact .nil | exact .tmp rfl | apply ResL.cons)); (repeat (exact .refl _)))
  · by_cases h : n ≤ m
    · have hs : 0 ≤ sg m n := by unfold sg; rw [if_neg (by omega)]; split <;> omega
      have hd := Difference_c (limbs m) (limbs n) (wf_limbs _) (wf_limbs _) (by rw [limbs_length]; omega) (by rw [val_limbs, val_limbs]; exact h)
      rw [val_limbs, val_limbs] at hd
      rw [show addN true false m n = true by simp [addN, h], show addL true false m n = limbs (m - n) by simp [addL, h]]
      repeat (first | refine seq_ ?_ | refine region_ ?_ | refine nil_ ?_ | refine block_ ?_ | refine cond_f rfl ?_ | refine stepY (y_assign rfl) rfl ?_ | refine stepY (y_load1 rfl rfl rfl) rfl ?_ | refine stepY (y_fieldAddr rfl) rfl ?_ | refine stepY (y_eqb rfl rfl) rfl ?_ | refine stepE (e_box rfl rfl rfl rfl rfl rfl) ?_)
      refine call_ Try.func93 rfl rfl (Compare_c m n) rfl (by repeat (first | exact .refl _ | apply Les.cons | exact .nil)) rfl ?_
      repeat (first | refine seq_ ?_ | refine nil_ ?_ | refine cond_t rfl ?_ | refine stepY (y_assign rfl) rfl ?_ | refine stepY (y_cmpT rfl rfl rfl (by omega)) rfl ?_)
      refine draw_ [(0, true), (1, true), (2, true), (3, true), (4, true), (5, true), (6, false), (7, true), (8, true)] 1000 [2, 3] mixed (by kernel_rfl) rfl ?_
      ((refine dY rfl (y_fieldAddr rfl) rfl rfl rfl rfl ?_); refine dY rfl (y_load1 rfl rfl rfl) rfl rfl rfl rfl ?_; refine dY rfl (y_fieldAddr rfl) rfl rfl rfl rfl ?_; refine dY rfl (y_load1 rfl rfl rfl) rfl rfl rfl rfl ?_; refine dY rfl (y_fieldAddr rfl) rfl rfl rfl rfl ?_; refine dY rfl (y_load1 rfl rfl rfl) rfl rfl rfl rfl ?_)
      refine dC rfl Try.func94 rfl rfl hd rfl (by repeat (first | exact .refl _ | apply Les.cons | exact .nil)) rfl rfl ?_
      ((refine dY rfl (y_assign rfl) rfl rfl rfl rfl ?_); refine dY rfl (y_assign rfl) rfl rfl rfl rfl ?_; refine dEnd ?_)
      repeat (refine ret_ ?_)
      ((apply fin_r); (repeat (first | exact .nil | exact .tmp rfl | apply ResL.cons)); (repeat (exact .refl _)))
    · have hs : sg m n = -1 := sg_lt (by omega)
      have hd := Difference_c (limbs n) (limbs m) (wf_limbs _) (wf_limbs _) (by rw [limbs_length]; omega) (by rw [val_limbs, val_limbs]; omega)
      rw [val_limbs, val_limbs] at hd
      rw [show addN true false m n = false by simp [addN, h], show addL true false m n = limbs (n - m) by simp [addL, h]]
      repeat (first | refine seq_ ?_ | refine region_ ?_ | refine nil_ ?_ | refine block_ ?_ | refine cond_f rfl ?_ | refine stepY (y_assign rfl) rfl ?_ | refine stepY (y_load1 rfl rfl rfl) rfl ?_ | refine stepY (y_fieldAddr rfl) rfl ?_ | refine stepY (y_eqb rfl rfl) rfl ?_ | refine stepE (e_box rfl rfl rfl rfl rfl rfl) ?_)
      refine call_ Try.func93 rfl rfl (Compare_c m n) rfl (by repeat (first | exact .refl _ | apply Les.cons | exact .nil)) rfl ?_
      rw [hs]
      repeat (first | refine seq_ ?_ | refine nil_ ?_ | refine skip_ ?_ | refine cond_f rfl ?_ | refine stepY (y_assign rfl) rfl ?_ | refine stepY (y_cmpF rfl rfl rfl (by omega)) rfl ?_)
      refine draw_ [(0, true), (1, true), (2, true), (3, true), (4, true), (5, true), (6, false), (7, true), (8, true)] 1000 [2, 3] mixed (by kernel_rfl) rfl ?_
      ((refine dY rfl (y_fieldAddr rfl) rfl rfl rfl rfl ?_); refine dY rfl (y_load1 rfl rfl rfl) rfl rfl rfl rfl ?_; refine dY rfl (y_fieldAddr rfl) rfl rfl rfl rfl ?_; refine dY rfl (y_load1 rfl rfl rfl) rfl rfl rfl rfl ?_; refine dY rfl (y_fieldAddr rfl) rfl rfl rfl rfl ?_; refine dY rfl (y_load1 rfl rfl rfl) rfl rfl rfl rfl ?_)
      refine dC rfl Try.func94 rfl rfl hd rfl (by repeat (first | exact .refl _ | apply Les.cons | exact .nil)) rfl rfl ?_
      ((refine dY rfl (y_assign rfl) rfl rfl rfl rfl ?_); refine dY rfl (y_assign rfl) rfl rfl rfl rfl ?_; refine dEnd ?_)
      repeat (refine ret_ ?_)
      ((apply fin_r); (repeat (first | exact .nil | exact .tmp rfl | apply ResL.cons)); (repeat (exact .refl _)))
  · rw [show addN true true m n = true from rfl, show addL true true m n = padd (max (ln m) (ln n) + 1) (m + n) from rfl]
    repeat (first | refine seq_ ?_ | refine region_ ?_ | refine nil_ ?_ | refine block_ ?_ | refine cond_t rfl ?_ | refine stepY (y_assign rfl) rfl ?_ | refine stepY (y_load1 rfl rfl rfl) rfl ?_ | refine stepY (y_fieldAddr rfl) rfl ?_ | refine stepY (y_eqb rfl rfl) rfl ?_ | refine stepE (e_box rfl rfl rfl rfl rfl rfl) ?_)
    refine draw_ [(0, true), (1, true), (2, true), (3, true), (4, true), (5, true), (6, false), (7, true), (8, true)] 1000 [2, 3] mixed (by kernel_rfl) rfl ?_
    ((refine dY rfl (y_fieldAddr rfl) rfl rfl rfl rfl ?_); refine dY rfl (y_load1 rfl rfl rfl) rfl rfl rfl rfl ?_; refine dY rfl (y_fieldAddr rfl) rfl rfl rfl rfl ?_; refine dY rfl (y_load1 rfl rfl rfl) rfl rfl rfl rfl ?_; refine dY rfl (y_fieldAddr rfl) rfl rfl rfl rfl ?_; refine dY rfl (y_load1 rfl rfl rfl) rfl rfl rfl rfl ?_)
    refine dC rfl Try.func92 rfl rfl hsum rfl (by repeat (first | exact .refl _ | apply Les.cons | exact .nil)) rfl rfl ?_
    ((refine dY rfl (y_assign rfl) rfl rfl rfl rfl ?_); refine dY rfl (y_assign rfl) rfl rfl rfl rfl ?_; refine dEnd ?_)
    repeat (refine ret_ ?_)
    ((apply fin_r); (repeat (first | exact .nil | exact .tmp rfl | apply ResL.cons)); (repeat (first | exact .refl _ | exact .tag _ _ | apply Le.tp | apply Les.cons | exact .nil)))

/-! the errors of functions of two numbers -/
theorem Sub_e (p q : Bool) (l k : List Int) (h : (vldB p l && vldB q k) = false) : Con Try.prog 62 [AV p l, AV q k] (.tp [FIV 0, E_ 1]) := by
  refine con_of Try.func62 rfl rfl rfl rfl rfl ?_
  cases h1 : vldB p l with
  | false =>
    have hv := Valid_c p l
    rw [h1] at hv
    repeat (first | refine seq_ ?_ | refine region_ ?_ | refine nil_ ?_ | refine stepY (y_assign rfl) rfl ?_ | refine stepY (y_loadA rfl rfl rfl) rfl ?_ | refine stepE (e_box rfl rfl rfl rfl rfl rfl) ?_ | refine stepE (e_alloc rfl rfl rfl) ?_)
    refine call_ Try.func63 rfl rfl hv rfl (by repeat (first | exact .refl _ | apply Les.cons | exact .nil)) rfl ?_
    repeat (first | refine seq_ ?_ | refine region_ ?_ | refine nil_ ?_ | refine ret_ ?_ | refine cond_t rfl ?_ | refine guard_f rfl rfl rfl rfl ?_ | refine stepY (y_move rfl) rfl ?_ | refine stepY (y_assign rfl) rfl ?_ | refine stepY (y_not rfl) rfl ?_ | refine stepY (y_pick_t rfl rfl) rfl ?_ | refine stepY (y_build rfl rfl rfl) rfl ?_ | refine stepE (e_store rfl rfl rfl rfl rfl rfl rfl) ?_)
    ((apply fin_r); (repeat (first | exact .nil | exact .tmp rfl | exact .agg rfl rfl rfl | apply ResL.cons)); (repeat (first | exact .refl _ | exact .nil _ _ | apply Le.ag | apply Le.tp | apply Les.cons | exact .nil)))
  | true =>
    rw [h1, Bool.true_and] at h
    have hv := Valid_c p l
    have hv2 := Valid_c q k
    rw [h1] at hv
    rw [h] at hv2
    repeat (first | refine seq_ ?_ | refine region_ ?_ | refine nil_ ?_ | refine stepY (y_assign rfl) rfl ?_ | refine stepY (y_loadA rfl rfl rfl) rfl ?_ | refine stepE (e_box rfl rfl rfl rfl rfl rfl) ?_ | refine stepE (e_alloc rfl rfl rfl) ?_)
    refine call_ Try.func63 rfl rfl hv rfl (by repeat (first | exact .refl _ | apply Les.cons | exact .nil)) rfl ?_
    repeat (first | refine guard_t rfl rfl rfl ?_ | refine stepY (y_move rfl) rfl ?_ | refine stepY (y_loadA rfl rfl rfl) rfl ?_ | refine stepY (y_not rfl) rfl ?_)
    refine call_ Try.func63 rfl rfl hv2 rfl (by repeat (first | exact .refl _ | apply Les.cons | exact .nil)) rfl ?_
    repeat (first | refine seq_ ?_ | refine region_ ?_ | refine nil_ ?_ | refine ret_ ?_ | refine cond_t rfl ?_ | refine guard_t rfl rfl rfl ?_ | refine stepY (y_assign rfl) rfl ?_ | refine stepY (y_not rfl) rfl ?_ | refine stepY (y_pick_f rfl rfl) rfl ?_ | refine stepY (y_build rfl rfl rfl) rfl ?_ | refine stepE (e_store rfl rfl rfl rfl rfl rfl rfl) ?_)
    ((apply fin_r); (repeat (first | exact .nil | exact .tmp rfl | exact .agg rfl rfl rfl | apply ResL.cons)); (repeat (first | exact .refl _ | exact .nil _ _ | apply Le.ag | apply Le.tp | apply Les.cons | exact .nil)))
theorem Mul_e (p q : Bool) (l k : List Int) (h : (vldB p l && vldB q k) = false) : Con Try.prog 60 [AV p l, AV q k] (.tp [FIV 0, E_ 1]) := by
  refine con_of Try.func60 rfl rfl rfl rfl rfl ?_
  cases h1 : vldB p l with
  | false =>
    have hv := Valid_c p l
    rw [h1] at hv
    repeat (first | refine seq_ ?_ | refine region_ ?_ | refine nil_ ?_ | refine stepY (y_assign rfl) rfl ?_ | refine stepY (y_loadA rfl rfl rfl) rfl ?_ | refine stepE (e_box rfl rfl rfl rfl rfl rfl) ?_ | refine stepE (e_alloc rfl rfl rfl) ?_)
    refine call_ Try.func63 rfl rfl hv rfl (by repeat (first | exact .refl _ | apply Les.cons | exact .nil)) rfl ?_
    repeat (first | refine seq_ ?_ | refine region_ ?_ | refine nil_ ?_ | refine ret_ ?_ | refine cond_t rfl ?_ | refine guard_f rfl rfl rfl rfl ?_ | refine stepY (y_move rfl) rfl ?_ | refine stepY (y_assign rfl) rfl ?_ | refine stepY (y_not rfl) rfl ?_ | refine stepY (y_pick_t rfl rfl) rfl ?_ | refine stepY (y_build rfl rfl rfl) rfl ?_ | refine stepE (e_store rfl rfl rfl rfl rfl rfl rfl) ?_)
    ((apply fin_r); (repeat (first | exact .nil | exact .tmp rfl | exact .agg rfl rfl rfl | apply ResL.cons)); (repeat (first | exact .refl _ | exact .nil _ _ | apply Le.ag | apply Le.tp | apply Les.cons | exact .nil)))
  | true =>
    rw [h1, Bool.true_and] at h
    have hv := Valid_c p l
    have hv2 := Valid_c q k
    rw [h1] at hv
    rw [h] at hv2
    repeat (first | refine seq_ ?_ | refine region_ ?_ | refine nil_ ?_ | refine stepY (y_assign rfl) rfl ?_ | refine stepY (y_loadA rfl rfl rfl) rfl ?_ | refine stepE (e_box rfl rfl rfl rfl rfl rfl) ?_ | refine stepE (e_alloc rfl rfl rfl) ?_)
    refine call_ Try.func63 rfl rfl hv rfl (by repeat (first | exact .refl _ | apply Les.cons | exact .nil)) rfl ?_
    repeat (first | refine guard_t rfl rfl rfl ?_ | refine stepY (y_move rfl) rfl ?_ | refine stepY (y_loadA rfl rfl rfl) rfl ?_ | refine stepY (y_not rfl) rfl ?_)
    refine call_ Try.func63 rfl rfl hv2 rfl (by repeat (first | exact .refl _ | apply Les.cons | exact .nil)) rfl ?_
    repeat (first | refine seq_ ?_ | refine region_ ?_ | refine nil_ ?_ | refine ret_ ?_ | refine cond_t rfl ?_ | refine guard_t rfl rfl rfl ?_ | refine stepY (y_assign rfl) rfl ?_ | refine stepY (y_not rfl) rfl ?_ | refine stepY (y_pick_f rfl rfl) rfl ?_ | refine stepY (y_build rfl rfl rfl) rfl ?_ | refine stepE (e_store rfl rfl rfl rfl rfl rfl rfl) ?_)
    ((apply fin_r); (repeat (first | exact .nil | exact .tmp rfl | exact .agg rfl rfl rfl | apply ResL.cons)); (repeat (first | exact .refl _ | exact .nil _ _ | apply Le.ag | apply Le.tp | apply Les.cons | exact .nil)))
theorem Neg_e (p : Bool) (l : List Int) (h : vldB p l = false) : Con Try.prog 79 [AV p l] (FIV 0) := by
  refine con_of Try.func79 rfl rfl rfl rfl rfl ?_
  have hv := Valid_c p l
  rw [h] at hv
  repeat (first | refine seq_ ?_ | refine region_ ?_ | refine nil_ ?_ | refine stepY (y_loadA rfl rfl rfl) rfl ?_ | refine stepE (e_box rfl rfl rfl rfl rfl rfl) ?_ | refine stepE (e_alloc rfl rfl rfl) ?_)
  refine call_ Try.func63 rfl rfl hv rfl (by repeat (first | exact .refl _ | apply Les.cons | exact .nil)) rfl ?_
  repeat (first | refine seq_ ?_ | refine region_ ?_ | refine nil_ ?_ | refine ret_ ?_ | refine cond_t rfl ?_ | refine stepY (y_not rfl) rfl ?_ | refine stepY (y_build rfl rfl rfl) rfl ?_ | refine stepE (e_store rfl rfl rfl rfl rfl rfl rfl) ?_)
  ((apply fin_r); (repeat (first | exact .nil | exact .agg rfl rfl rfl | apply ResL.cons)); (repeat (first | exact .refl _ | exact .nil _ _ | apply Le.ag | apply Les.cons | exact .nil)))
end Go.Av

set_option maxHeartbeats 8000000
set_option exponentiation.threshold 100000
set_option maxRecDepth 100000
set_option linter.unusedVariables false
set_option linter.unusedSimpArgs false
namespace Go.Av
open Go Go.Proofs
theorem vld_pos {p : Bool} {m : Nat} (h : vldB p (limbs m) = true) : p = true → 0 < m := by
  intro hp
  subst hp
  unfold vldB at h
  rw [Bool.and_eq_true, limbs_length] at h
  rcases Nat.eq_zero_or_pos m with h0 | h0
  · subst h0
    have h2 := h.2
    rw [if_pos ln_zero] at h2
    cases h2
  · exact h0
theorem ln_mul {m n : Nat} (hm : ln m ≤ 512) (hn : ln n ≤ 512) : ln (m * n) ≤ 1024 := by
  rw [ln_le] at *
  rcases Nat.eq_zero_or_pos n with h | h
  · subst h; exact Bp_pos _
  · have : m * n < B ^ 512 * B ^ 512 := Nat.mul_lt_mul_of_lt_of_le hm (Nat.le_of_lt hn) (Bp_pos _)
    rwa [← Nat.pow_add] at this
theorem sgn_mul (p q : Bool) (m n : Nat) : sgn (p != q) (m * n) = sgn p m * sgn q n := by
  cases p <;> cases q <;> simp [sgn, Int.neg_mul, Int.mul_neg]
theorem sgn_not (q : Bool) (n : Nat) : sgn (!q) n = - sgn q n := by cases q <;> simp [sgn]
/-- the order of two whole numbers -/
def icmp (x y : Int) : Int := if x < y then -1 else if y < x then 1 else 0

theorem Neg_s (p : Bool) (m : Nat) (hp : vldB p (limbs m) = true) : Con Try.prog 79 [SV p m] (FIV (- sgn p m)) := by
  refine con_of Try.func79 rfl rfl rfl rfl rfl ?_
  have hv1 := Valid_c p (limbs m)
  rw [hp] at hv1
  have hm := made_c (!p) (limbs m) (wf_limbs _) (by rw [limbs_length]; have := vld_ln hp; omega)
  rw [val_limbs, sgn_not] at hm
  repeat (first | refine seq_ ?_ | refine region_ ?_ | refine nil_ ?_ | refine stepY (y_loadA rfl rfl rfl) rfl ?_ | refine stepE (e_box rfl rfl rfl rfl rfl rfl) ?_ | refine stepE (e_alloc rfl rfl rfl) ?_)
  refine call_ Try.func63 rfl rfl hv1 rfl (by repeat (first | exact .refl _ | apply Les.cons | exact .nil)) rfl ?_
  repeat (first | refine seq_ ?_ | refine region_ ?_ | refine nil_ ?_ | refine skip_ ?_ | refine cond_f rfl ?_ | refine stepY (y_load1 rfl rfl rfl) rfl ?_ | refine stepY (y_fieldAddr rfl) rfl ?_ | refine stepY (y_not rfl) rfl ?_)
  refine call_ Try.func77 rfl rfl hm rfl (by repeat (first | exact .refl _ | apply Les.cons | exact .nil)) rfl ?_
  repeat (first | refine nil_ ?_ | refine ret_ ?_ | refine stepE (e_store rfl rfl rfl rfl rfl rfl rfl) ?_)
  ((apply fin_r); (repeat (first | exact .nil | exact .agg rfl rfl rfl | apply ResL.cons)); (repeat (exact .refl _)))
theorem Sub_s (p q : Bool) (m n : Nat) (hp : vldB p (limbs m) = true) (hq : vldB q (limbs n) = true) : Con Try.prog 62 [SV p m, SV q n] (resI (sgn p m - sgn q n)) := by
  refine con_of Try.func62 rfl rfl rfl rfl rfl ?_
  have hv1 := Valid_c p (limbs m)
  have hv2 := Valid_c q (limbs n)
  rw [hp] at hv1
  rw [hq] at hv2
  have hn : ln (- sgn q n).natAbs ≤ 512 := by rw [Int.natAbs_neg, sgn_abs]; exact vld_ln hq
  have ha := added_c p (decide (- sgn q n < 0)) m (- sgn q n).natAbs (vld_ln hp) hn
  have hr := result_c (addN p (decide (- sgn q n < 0)) m (- sgn q n).natAbs) (addL p (decide (- sgn q n < 0)) m (- sgn q n).natAbs) (add_wf _ _ _ _) (by have := add_len (p := p) (q := decide (- sgn q n < 0)) (vld_ln hp) hn; omega)
  rw [add_val, sgn_self] at hr
  have e : sgn p m - sgn q n = sgn p m + - sgn q n := by omega
  rw [e]
  generalize hz : sgn p m + - sgn q n = z at *
  by_cases h : ln z.natAbs ≤ 512
  · rw [resI_ok h] at *
    repeat (first | refine seq_ ?_ | refine region_ ?_ | refine nil_ ?_ | refine stepY (y_assign rfl) rfl ?_ | refine stepY (y_loadA rfl rfl rfl) rfl ?_ | refine stepE (e_box rfl rfl rfl rfl rfl rfl) ?_ | refine stepE (e_alloc rfl rfl rfl) ?_)
    refine call_ Try.func63 rfl rfl hv1 rfl (by repeat (first | exact .refl _ | apply Les.cons | exact .nil)) rfl ?_
    repeat (first | refine guard_t rfl rfl rfl ?_ | refine stepY (y_move rfl) rfl ?_ | refine stepY (y_loadA rfl rfl rfl) rfl ?_ | refine stepY (y_not rfl) rfl ?_)
    refine call_ Try.func63 rfl rfl hv2 rfl (by repeat (first | exact .refl _ | apply Les.cons | exact .nil)) rfl ?_
    repeat (first | refine seq_ ?_ | refine nil_ ?_ | refine skip_ ?_ | refine cond_f rfl ?_ | refine guard_t rfl rfl rfl ?_ | refine stepY (y_not rfl) rfl ?_ | refine stepY (y_pick_f rfl rfl) rfl ?_)
    refine draw_ [(0, true), (1, true), (2, false), (3, false), (4, true), (5, true), (6, false), (7, true), (8, true), (9, false), (10, true)] 1000 [2, 3] mixed (by kernel_rfl) rfl ?_
    ((refine dY rfl (y_loadA rfl rfl rfl) rfl rfl rfl rfl ?_); refine dY rfl (y_loadA rfl rfl rfl) rfl rfl rfl rfl ?_)
    refine dC rfl Try.func79 rfl rfl (Neg_s q n hq) rfl (by repeat (first | exact .refl _ | apply Les.cons | exact .nil)) rfl rfl ?_
    refine dC rfl Try.func78 rfl rfl ha rfl (by repeat (first | exact .refl _ | exact .tag _ _ | apply Le.ag | apply Les.cons | exact .nil)) rfl rfl ?_
    skip
    ((refine dY rfl (y_extract rfl rfl) rfl rfl rfl rfl ?_); refine dY rfl (y_extract rfl rfl) rfl rfl rfl rfl ?_)
    refine dC rfl Try.func75 rfl rfl hr rfl (by repeat (first | exact .refl _ | apply Les.cons | exact .nil)) rfl rfl ?_
    ((refine dY rfl (y_extract rfl rfl) rfl rfl rfl rfl ?_); refine dY rfl (y_extract rfl rfl) rfl rfl rfl rfl ?_; (refine dE rfl (e_store rfl rfl rfl rfl rfl rfl rfl) rfl rfl ?_); refine dY rfl (y_assign rfl) rfl rfl rfl rfl ?_; refine dEnd ?_)
    repeat (refine ret_ ?_)
    ((apply fin_r); (repeat (first | exact .nil | exact .tmp rfl | exact .agg rfl rfl rfl | apply ResL.cons)); (repeat (exact .refl _)))
  · rw [resI_no h] at *
    repeat (first | refine seq_ ?_ | refine region_ ?_ | refine nil_ ?_ | refine stepY (y_assign rfl) rfl ?_ | refine stepY (y_loadA rfl rfl rfl) rfl ?_ | refine stepE (e_box rfl rfl rfl rfl rfl rfl) ?_ | refine stepE (e_alloc rfl rfl rfl) ?_)
    refine call_ Try.func63 rfl rfl hv1 rfl (by repeat (first | exact .refl _ | apply Les.cons | exact .nil)) rfl ?_
    repeat (first | refine guard_t rfl rfl rfl ?_ | refine stepY (y_move rfl) rfl ?_ | refine stepY (y_loadA rfl rfl rfl) rfl ?_ | refine stepY (y_not rfl) rfl ?_)
    refine call_ Try.func63 rfl rfl hv2 rfl (by repeat (first | exact .refl _ | apply Les.cons | exact .nil)) rfl ?_
    repeat (first | refine seq_ ?_ | refine nil_ ?_ | refine skip_ ?_ | refine cond_f rfl ?_ | refine guard_t rfl rfl rfl ?_ | refine stepY (y_not rfl) rfl ?_ | refine stepY (y_pick_f rfl rfl) rfl ?_)
    refine draw_ [(0, true), (1, true), (2, false), (3, false), (4, true), (5, true), (6, false), (7, true), (8, true), (9, false), (10, true)] 1000 [2, 3] mixed (by kernel_rfl) rfl ?_
    ((refine dY rfl (y_loadA rfl rfl rfl) rfl rfl rfl rfl ?_); refine dY rfl (y_loadA rfl rfl rfl) rfl rfl rfl rfl ?_)
    refine dC rfl Try.func79 rfl rfl (Neg_s q n hq) rfl (by repeat (first | exact .refl _ | apply Les.cons | exact .nil)) rfl rfl ?_
    refine dC rfl Try.func78 rfl rfl ha rfl (by repeat (first | exact .refl _ | exact .tag _ _ | apply Le.ag | apply Les.cons | exact .nil)) rfl rfl ?_
    skip
    ((refine dY rfl (y_extract rfl rfl) rfl rfl rfl rfl ?_); refine dY rfl (y_extract rfl rfl) rfl rfl rfl rfl ?_)
    refine dC rfl Try.func75 rfl rfl hr rfl (by repeat (first | exact .refl _ | apply Les.cons | exact .nil)) rfl rfl ?_
    ((refine dY rfl (y_extract rfl rfl) rfl rfl rfl rfl ?_); refine dY rfl (y_extract rfl rfl) rfl rfl rfl rfl ?_; (refine dE rfl (e_store rfl rfl rfl rfl rfl rfl rfl) rfl rfl ?_); refine dY rfl (y_assign rfl) rfl rfl rfl rfl ?_; refine dEnd ?_)
    repeat (refine ret_ ?_)
    ((apply fin_r); (repeat (first | exact .nil | exact .tmp rfl | exact .agg rfl rfl rfl | apply ResL.cons)); (repeat (exact .refl _)))

theorem Mul_s (p q : Bool) (m n : Nat) (hp : vldB p (limbs m) = true) (hq : vldB q (limbs n) = true) : Con Try.prog 60 [SV p m, SV q n] (resI (sgn p m * sgn q n)) := by
  refine con_of Try.func60 rfl rfl rfl rfl rfl ?_
  have hv1 := Valid_c p (limbs m)
  have hv2 := Valid_c q (limbs n)
  rw [hp] at hv1
  rw [hq] at hv2
  have hlm := vld_ln hp
  have hln := vld_ln hq
  have hd := Product_c (limbs m) (limbs n) (wf_limbs _) (wf_limbs _) (by rw [limbs_length]; omega) (by rw [limbs_length]; omega)
  rw [val_limbs, val_limbs] at hd
  have hr := result_c (p != q) (limbs (m * n)) (wf_limbs _) (by rw [limbs_length]; have := ln_mul hlm hln; omega)
  rw [val_limbs, sgn_mul] at hr
  cases p <;> cases q <;> (
  generalize sgn _ m * sgn _ n = z at *
  by_cases h : ln z.natAbs ≤ 512
  · rw [resI_ok h] at *
    repeat (first | refine seq_ ?_ | refine region_ ?_ | refine nil_ ?_ | refine stepY (y_assign rfl) rfl ?_ | refine stepY (y_loadA rfl rfl rfl) rfl ?_ | refine stepE (e_box rfl rfl rfl rfl rfl rfl) ?_ | refine stepE (e_alloc rfl rfl rfl) ?_)
    refine call_ Try.func63 rfl rfl hv1 rfl (by repeat (first | exact .refl _ | apply Les.cons | exact .nil)) rfl ?_
    repeat (first | refine guard_t rfl rfl rfl ?_ | refine stepY (y_move rfl) rfl ?_ | refine stepY (y_loadA rfl rfl rfl) rfl ?_ | refine stepY (y_not rfl) rfl ?_)
    refine call_ Try.func63 rfl rfl hv2 rfl (by repeat (first | exact .refl _ | apply Les.cons | exact .nil)) rfl ?_
    repeat (first | refine seq_ ?_ | refine nil_ ?_ | refine skip_ ?_ | refine cond_f rfl ?_ | refine guard_t rfl rfl rfl ?_ | refine stepY (y_not rfl) rfl ?_ | refine stepY (y_pick_f rfl rfl) rfl ?_)
    refine draw_ [(0, true), (1, true), (2, true), (3, true), (4, true), (5, true), (6, true), (7, true), (8, true), (9, false), (10, false), (11, true), (12, true), (13, false), (14, true)] 1000 [2, 3] mixed (by kernel_rfl) rfl ?_
    ((refine dY rfl (y_fieldAddr rfl) rfl rfl rfl rfl ?_); refine dY rfl (y_load1 rfl rfl rfl) rfl rfl rfl rfl ?_; refine dY rfl (y_fieldAddr rfl) rfl rfl rfl rfl ?_; refine dY rfl (y_load1 rfl rfl rfl) rfl rfl rfl rfl ?_; refine dY rfl (y_neb rfl rfl) rfl rfl rfl rfl ?_; refine dY rfl (y_fieldAddr rfl) rfl rfl rfl rfl ?_; refine dY rfl (y_load1 rfl rfl rfl) rfl rfl rfl rfl ?_; refine dY rfl (y_fieldAddr rfl) rfl rfl rfl rfl ?_; refine dY rfl (y_load1 rfl rfl rfl) rfl rfl rfl rfl ?_)
    refine dC rfl Try.func76 rfl rfl hd rfl (by repeat (first | exact .refl _ | apply Les.cons | exact .nil)) rfl rfl ?_
    refine dC rfl Try.func75 rfl rfl hr rfl (by repeat (first | exact .refl _ | apply Les.cons | exact .nil)) rfl rfl ?_
    skip
    ((refine dY rfl (y_extract rfl rfl) rfl rfl rfl rfl ?_); refine dY rfl (y_extract rfl rfl) rfl rfl rfl rfl ?_; (refine dE rfl (e_store rfl rfl rfl rfl rfl rfl rfl) rfl rfl ?_); refine dY rfl (y_assign rfl) rfl rfl rfl rfl ?_; refine dEnd ?_)
    repeat (refine ret_ ?_)
    ((apply fin_r); (repeat (first | exact .nil | exact .tmp rfl | exact .agg rfl rfl rfl | apply ResL.cons)); (repeat (exact .refl _)))
  · rw [resI_no h] at *
    repeat (first | refine seq_ ?_ | refine region_ ?_ | refine nil_ ?_ | refine stepY (y_assign rfl) rfl ?_ | refine stepY (y_loadA rfl rfl rfl) rfl ?_ | refine stepE (e_box rfl rfl rfl rfl rfl rfl) ?_ | refine stepE (e_alloc rfl rfl rfl) ?_)
    refine call_ Try.func63 rfl rfl hv1 rfl (by repeat (first | exact .refl _ | apply Les.cons | exact .nil)) rfl ?_
    repeat (first | refine guard_t rfl rfl rfl ?_ | refine stepY (y_move rfl) rfl ?_ | refine stepY (y_loadA rfl rfl rfl) rfl ?_ | refine stepY (y_not rfl) rfl ?_)
    refine call_ Try.func63 rfl rfl hv2 rfl (by repeat (first | exact .refl _ | apply Les.cons | exact .nil)) rfl ?_
    repeat (first | refine seq_ ?_ | refine nil_ ?_ | refine skip_ ?_ | refine cond_f rfl ?_ | refine guard_t rfl rfl rfl ?_ | refine stepY (y_not rfl) rfl ?_ | refine stepY (y_pick_f rfl rfl) rfl ?_)
    refine draw_ [(0, true), (1, true), (2, true), (3, true), (4, true), (5, true), (6, true), (7, true), (8, true), (9, false), (10, false), (11, true), (12, true), (13, false), (14, true)] 1000 [2, 3] mixed (by kernel_rfl) rfl ?_
    ((refine dY rfl (y_fieldAddr rfl) rfl rfl rfl rfl ?_); refine dY rfl (y_load1 rfl rfl rfl) rfl rfl rfl rfl ?_; refine dY rfl (y_fieldAddr rfl) rfl rfl rfl rfl ?_; refine dY rfl (y_load1 rfl rfl rfl) rfl rfl rfl rfl ?_; refine dY rfl (y_neb rfl rfl) rfl rfl rfl rfl ?_; refine dY rfl (y_fieldAddr rfl) rfl rfl rfl rfl ?_; refine dY rfl (y_load1 rfl rfl rfl) rfl rfl rfl rfl ?_; refine dY rfl (y_fieldAddr rfl) rfl rfl rfl rfl ?_; refine dY rfl (y_load1 rfl rfl rfl) rfl rfl rfl rfl ?_)
    refine dC rfl Try.func76 rfl rfl hd rfl (by repeat (first | exact .refl _ | apply Les.cons | exact .nil)) rfl rfl ?_
    refine dC rfl Try.func75 rfl rfl hr rfl (by repeat (first | exact .refl _ | apply Les.cons | exact .nil)) rfl rfl ?_
    skip
    ((refine dY rfl (y_extract rfl rfl) rfl rfl rfl rfl ?_); refine dY rfl (y_extract rfl rfl) rfl rfl rfl rfl ?_; (refine dE rfl (e_store rfl rfl rfl rfl rfl rfl rfl) rfl rfl ?_); refine dY rfl (y_assign rfl) rfl rfl rfl rfl ?_; refine dEnd ?_)
    repeat (refine ret_ ?_)
    ((apply fin_r); (repeat (first | exact .nil | exact .tmp rfl | exact .agg rfl rfl rfl | apply ResL.cons)); (repeat (exact .refl _)))
  )
end Go.Av

set_option maxHeartbeats 8000000
set_option exponentiation.threshold 100000
set_option maxRecDepth 100000
set_option linter.unusedVariables false
set_option linter.unusedSimpArgs false
namespace Go.Av
open Go Go.Proofs
theorem icmp_pp (m n : Nat) : icmp (sgn false m) (sgn false n) = sg m n := by
  unfold icmp sg sgn; simp
theorem icmp_nn (m n : Nat) : icmp (sgn true m) (sgn true n) = sg n m := by
  unfold icmp sg sgn; simp
theorem icmp_np {m n : Nat} (h : 0 < m) : icmp (sgn true m) (sgn false n) = -1 := by
  unfold icmp; rw [show sgn true m = -(m : Int) from rfl, show sgn false n = (n : Int) from rfl, if_pos (by omega)]
theorem icmp_pn {m n : Nat} (h : 0 < n) : icmp (sgn false m) (sgn true n) = 1 := by
  unfold icmp; rw [show sgn true n = -(n : Int) from rfl, show sgn false m = (m : Int) from rfl, if_neg (by omega), if_pos (by omega)]
end Go.Av

/-! Plain arithmetic of limbs: bits, halves, the division bit by bit, the greatest common divisor. -/
set_option linter.unusedVariables false
namespace Go.Av
theorem two_split (i : Nat) : 2 ^ i = B ^ (i / 32) * 2 ^ (i % 32) := by
  rw [B_pow, ← Nat.pow_add]; congr 1; omega
theorem B_two {r : Nat} (h : r ≤ 32) : B = 2 ^ r * 2 ^ (32 - r) := by rw [← Nat.pow_add, show r + (32 - r) = 32 by omega]; rfl
theorem bit_dg (n i : Nat) : dg n (i / 32) / 2 ^ (i % 32) % 2 = n / 2 ^ i % 2 := by
  unfold dg
  have hr : i % 32 < 32 := Nat.mod_lt _ (by decide)
  rw [two_split i, ← Nat.div_div_eq_div_mul]
  generalize n / B ^ (i / 32) = x
  generalize i % 32 = r at *
  rw [B_two (r := r) (by omega), Nat.mod_mul_right_div_self, show 32 - r = (31 - r) + 1 by omega, Nat.pow_succ, Nat.mul_comm, Nat.mod_mul_right_mod]
/-- one round of the division bit by bit -/
theorem bit_step {A V i : Nat} (hV : 0 < V) : (V ≤ 2 * (A / 2 ^ (i + 1) % V) + A / 2 ^ i % 2 → A / 2 ^ i / V = 2 * (A / 2 ^ (i + 1) / V) + 1 ∧ A / 2 ^ i % V = 2 * (A / 2 ^ (i + 1) % V) + A / 2 ^ i % 2 - V) ∧
    (¬ V ≤ 2 * (A / 2 ^ (i + 1) % V) + A / 2 ^ i % 2 → A / 2 ^ i / V = 2 * (A / 2 ^ (i + 1) / V) ∧ A / 2 ^ i % V = 2 * (A / 2 ^ (i + 1) % V) + A / 2 ^ i % 2) := by
  have e : A / 2 ^ (i + 1) = A / 2 ^ i / 2 := by rw [Nat.pow_succ, Nat.div_div_eq_div_mul]
  rw [e]
  generalize A / 2 ^ i = x
  have h1 := Nat.div_add_mod x 2
  have h2 := Nat.div_add_mod (x / 2) V
  have h3 := Nat.mod_lt (x / 2) hV
  have h4 := Nat.mod_lt x (show 2 > 0 by decide)
  generalize x / 2 / V = q at *
  generalize x / 2 % V = r at *
  generalize x % 2 = b at *
  have h5 : x = V * (2 * q) + (2 * r + b) := by rw [Nat.mul_left_comm]; omega
  constructor
  · intro h
    have h6 : x = V * (2 * q + 1) + (2 * r + b - V) := by rw [Nat.mul_add, Nat.mul_one]; omega
    constructor
    · rw [h6, Nat.mul_add_div hV, Nat.div_eq_of_lt (by omega), Nat.add_zero]
    · rw [h6, Nat.mul_add_mod, Nat.mod_eq_of_lt (by omega)]
  · intro h
    constructor
    · rw [h5, Nat.mul_add_div hV, Nat.div_eq_of_lt (by omega), Nat.add_zero]
    · rw [h5, Nat.mul_add_mod, Nat.mod_eq_of_lt (by omega)]
theorem bit_room {o : List Int} {i z : Nat} (hw : wf o) (hv : val o = 2 ^ (i + 1) * z) : dg (val o) (i / 32) + 2 ^ (i % 32) < B := by
  have hr : i % 32 < 32 := Nat.mod_lt _ (by decide)
  have e : 2 ^ (i + 1) = B ^ (i / 32) * 2 ^ (i % 32 + 1) := by
    rw [Nat.pow_succ, two_split i, Nat.pow_succ, Nat.mul_assoc]
  rw [hv, e]
  unfold dg
  rw [Nat.mul_assoc, Nat.mul_div_cancel_left _ (Bp_pos _)]
  generalize i % 32 = r at *
  have h1 := B_two (r := r + 1) (by omega)
  rw [h1, Nat.mul_mod_mul_left]
  have h2 := Nat.mod_lt z (show 2 ^ (32 - (r + 1)) > 0 from Nat.pow_pos (by decide))
  have h3 : 2 ^ (r + 1) * (z % 2 ^ (32 - (r + 1)) + 1) ≤ 2 ^ (r + 1) * 2 ^ (32 - (r + 1)) := Nat.mul_le_mul_left _ h2
  have h4 : 2 ^ r < 2 ^ (r + 1) := Nat.pow_lt_pow_right (by decide) (by omega)
  rw [Nat.mul_succ] at h3
  omega
theorem bit_set {o : List Int} {i : Nat} (hw : wf o) (hi : i / 32 < o.length) (hr : dg (val o) (i / 32) + 2 ^ (i % 32) < B) :
    wf (o.set (i / 32) ((dg (val o) (i / 32) + 2 ^ (i % 32) : Nat) : Int)) ∧ val (o.set (i / 32) ((dg (val o) (i / 32) + 2 ^ (i % 32) : Nat) : Int)) = val o + 2 ^ i := by
  refine ⟨wf_set hw ⟨Int.natCast_nonneg _, Int.ofNat_lt.2 hr⟩, ?_⟩
  · have h1 := val_set (l := o) (i := i / 32) (x := ((dg (val o) (i / 32) + 2 ^ (i % 32) : Nat) : Int)) hi
    have h2 := rd_wf hw (i := ((i / 32 : Nat) : Int)) (by omega)
    rw [Int.toNat_natCast] at h2
    rw [h2, Int.toNat_natCast, Int.toNat_natCast, Nat.mul_add, ← two_split] at h1
    omega
/-- halves -/
theorem half_dg (n i : Nat) : dg (n / 2) i = dg n i / 2 + dg n (i + 1) % 2 * 2147483648 := by
  have h := low_step (a := n) (n := 1) (by decide) i
  rw [Nat.pow_one] at h
  have h1 := dg_lt n i
  rw [h]
  unfold B at *
  omega
end Go.Av

set_option maxHeartbeats 8000000
set_option exponentiation.threshold 100000
set_option maxRecDepth 100000
set_option linter.unusedVariables false
set_option linter.unusedSimpArgs false
namespace Go.Av
open Go Go.Proofs
/-! barscanref02.half -/
end Go.Av

set_option maxHeartbeats 8000000
set_option exponentiation.threshold 100000
set_option maxRecDepth 100000
set_option linter.unusedVariables false
set_option linter.unusedSimpArgs false
namespace Go.Av
open Go Go.Proofs
theorem mod_lt_two {a : Nat} : a % 2 = 0 ∨ a % 2 = 1 := by omega
end Go.Av

set_option maxHeartbeats 8000000
set_option exponentiation.threshold 100000
set_option maxRecDepth 100000
set_option linter.unusedVariables false
set_option linter.unusedSimpArgs false
namespace Go.Av
open Go Go.Proofs
/-- floor of a quotient, and the rest -/
def dq (p q : Bool) (m n : Nat) : Int := if (p != q) = true ∧ 0 < m % n then sgn true (m / n + 1) else sgn (p != q) (m / n)
def dr (p q : Bool) (m n : Nat) : Int := if (p != q) = true ∧ 0 < m % n then sgn q (n - m % n) else sgn q (m % n)
end Go.Av

set_option maxHeartbeats 8000000
set_option exponentiation.threshold 100000
set_option maxRecDepth 100000
set_option linter.unusedVariables false
set_option linter.unusedSimpArgs false
namespace Go.Av
open Go Go.Proofs
theorem ln_succ {m : Nat} (h : ln m ≤ 512) : ln (m + 1) ≤ 513 := by
  rw [ln_le] at h ⊢
  exact sum_lt h (Nat.lt_of_lt_of_le (show 1 < B by decide) (by rw [show B = B ^ 1 by rw [Nat.pow_one], ← Nat.pow_mul]; exact Nat.pow_le_pow_right B_pos (by omega)))
/-! the greatest common divisor -/
end Go.Av

set_option linter.unusedVariables false
set_option linter.unusedSimpArgs false
/-! Function values without captured variables. -/
namespace Go.Av
open Go Go.RowKit
section
variable {P : Program} {N : Nat} {E : Env} {H : Hp} {Q : Exit → Env → Hp → Prop} {ops : Array Oper} {rest : List Oper}
theorem y_mkfn {g : FuncId} {ty : TypeId} : Yl P (.makeFunc (.func g) #[] #[]) ty E H (.p (.v (.func (.func g) #[] #[]))) .no := by
  unfold Yl
  intro _ _ _ _ _ _ r
  exact ⟨.func (.func g) #[] #[], fun W _ _ _ _ _ => by simp [execOp, Instr.makeFunc], by simp [RelT, Rel]⟩
/-- A call of a function value that is known. -/
theorem callV_ {d i : Nat} {f : FuncId} {fn : Func} {os : Array Operand} {ts : Array TypeId} {ty : TypeId} {pos : String} {af : Array Edge} {args xs : List PV} {res : PV} (hf : P.funcs[f]? = some fn) (hn : (fn.name == "runtime.NumGoroutine") = false) (hb : fn.body.isNone = false)
    (hc : Con P f args res) (hi : lk i E = some (.p (.v (.func (.func f) #[] #[])))) (hx : evs E os.toList = some xs) (hle : Les xs args) (hd : Nat.blt d N = true) (k : TrL P N ops rest ((d, .p res) :: E) H Q) :
    TrL P N ops (⟨some d, .call { callee := .value (.tmp i), args := os, argTypes := ts }, ty, pos, af, none⟩ :: rest) E H Q := by
  unfold TrL at k ⊢
  intro okA w0 ρ tmps w r
  refine wpList_plain rfl fun K hK => ?_
  have hcall := call_rep r hc hx hle
  have hv := ev_v r (o := .tmp i) hi
  have hrun : (execOp (Act.eval ⟨tmps, []⟩) ⟨some d, .call { callee := .value (.tmp i), args := os, argTypes := ts }, ty, pos, af, none⟩).run P w = .ok (.enter f (os.map (Act.eval ⟨tmps, []⟩))) w := by
    have hn' : ¬ fn.name = "runtime.NumGoroutine" := by simpa using hn
    have hb' : ¬ fn.body = none := by intro h; rw [h] at hb; simp at hb
    simp [execOp, resolve, Deferred.ofValue, hv, invoke, callFunc, hf, hn', hb']
  simp only [Oper.wp, hrun, Oper.upon]
  have harr : os.map (Act.eval ⟨tmps, []⟩) = (os.toList.map (Act.eval ⟨tmps, []⟩)).toArray := by apply Array.ext'; simp
  rw [harr]
  refine hcall.mono fun e w' ⟨y, he, hr, hrel, _⟩ => ?_
  subst he
  exact hK _ _ (k okA w0 ρ _ w' (hr.put (Nat.le_of_ble_eq_true hd) (x := .p res) (by simpa only [RelT] using hrel)))
end
end Go.Av

set_option maxHeartbeats 8000000
set_option exponentiation.threshold 100000
set_option maxRecDepth 100000
set_option linter.unusedVariables false
set_option linter.unusedSimpArgs false
namespace Go.Av
open Go Go.Proofs
/-! fraction: wide numbers and reduced fractions -/
theorem wideOf_c (p : Bool) (n : Nat) : Con Try.prog 65 [SV p n] (SV p n) := by
  refine con_of Try.func65 rfl rfl rfl rfl rfl ?_
  repeat (first | refine seq_ ?_ | refine region_ ?_ | refine nil_ ?_ | refine ret_ ?_ | refine stepY (y_load1 rfl rfl rfl) rfl ?_ | refine stepY (y_fieldAddr rfl) rfl ?_ | refine stepY (y_build rfl rfl rfl) rfl ?_ | refine stepE (e_box rfl rfl rfl rfl rfl rfl) ?_ | refine stepE (e_alloc rfl rfl rfl) ?_ | refine stepE (e_store rfl rfl rfl rfl rfl rfl rfl) ?_)
  ((apply fin_r); (repeat (first | exact .nil | exact .agg rfl rfl rfl | apply ResL.cons)); (repeat (exact .refl _)))
def addA (p q : Bool) (m n : Nat) : Nat := if p = q then m + n else if n ≤ m then m - n else n - m
theorem addA_val (p q : Bool) (m n : Nat) : sgn (addN p q m n) (addA p q m n) = sgn p m + sgn q n := by
  unfold addN addA sgn
  cases p <;> cases q <;> by_cases h : n ≤ m <;> simp [h] <;> omega
theorem fcommon_c (a b : Nat) (hla : ln a ≤ 20000) (hlb : ln b ≤ 20000) : Con Try.prog 80 [M a, M b] (M (Nat.gcd a b)) := by
  refine con_of Try.func80 rfl rfl rfl rfl rfl ?_
  repeat (first | refine seq_ ?_ | refine region_ ?_ | refine nil_ ?_ | refine block_ ?_ | refine stepY (y_assign rfl) rfl ?_)
  refine loop_ (α := Nat × Nat) (fun s => ([(0, .p (M s.1)), (1, .p (M s.2))], [])) (fun s => Nat.gcd s.1 s.2 = Nat.gcd a b ∧ ln s.1 ≤ 20000 ∧ ln s.2 ≤ 20000) (fun s => s.2) (a, b) ⟨rfl, hla, hlb⟩ ?_ ?_ ?_
  · (repeat (first | exact sub_nil | refine sub_cons rfl ?_))
  · (repeat (exact subH_nil))
  intro ⟨x, y⟩ ⟨hg, hx, hy⟩
  dsimp only at hg hx hy ⊢
  have hly : ((limbs y).length : Int) = ln y := by rw [limbs_length]
  by_cases h : 0 < y
  · have hp := ln_pos.2 h
    have hm := Nat.mod_lt x h
    have ht := Trim_c (limbs (x % y)) (wf_limbs _)
    rw [val_limbs] at ht
    repeat (first | refine seq_ ?_ | refine region_ ?_ | refine nil_ ?_ | refine skip_ ?_ | refine block_ ?_ | refine cond_t rfl ?_ | refine stepY (y_move rfl) rfl ?_ | refine stepY (y_len_si rfl) rfl ?_ | refine stepY (y_cmpT rfl rfl rfl (by omega)) rfl ?_)
    refine call_ Try.func81 rfl rfl (Division_c x y h (by omega)) rfl (by repeat (first | exact .refl _ | apply Les.cons | exact .nil)) rfl ?_
    repeat (first | refine region_ ?_ | refine nil_ ?_ | refine stepY (y_move rfl) rfl ?_ | refine stepY (y_assign rfl) rfl ?_ | refine stepY (y_extract rfl rfl) rfl ?_)
    refine call_ Try.func91 rfl rfl ht rfl (by repeat (first | exact .refl _ | apply Les.cons | exact .nil)) rfl ?_
    repeat (first | refine nil_ ?_ | refine stepY (y_assign rfl) rfl ?_)
    refine ⟨(y, x % y), ⟨?_, hy, ?_⟩, hm, ?_, ?_⟩
    · rw [← hg]; simp only; rw [Nat.gcd_comm x y, Nat.gcd_rec y x, Nat.gcd_comm]
    · exact Nat.le_trans (ln_mono (Nat.le_of_lt hm)) hy
    · (repeat (first | exact sub_nil | refine sub_cons rfl ?_))
    · (repeat (exact subH_nil))
  · obtain rfl : y = 0 := by omega
    have hp : ln 0 = 0 := rfl
    rw [Nat.gcd_zero_right] at hg
    subst hg
    repeat (first | refine seq_ ?_ | refine region_ ?_ | refine nil_ ?_ | refine exit_ ?_ | refine ret_ ?_ | refine cond_f rfl ?_ | refine stepY (y_move rfl) rfl ?_ | refine stepY (y_assign rfl) rfl ?_ | refine stepY (y_len_si rfl) rfl ?_ | refine stepY (y_cmpF rfl rfl rfl (by omega)) rfl ?_)
    ((apply fin_r); (repeat (first | exact .nil | exact .tmp rfl | apply ResL.cons)); (repeat (exact .refl _)))
end Go.Av

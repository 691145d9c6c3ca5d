/- Contracts behind a law: no conditions beyond those in each statement. -/
import Derived.Test.YtmaobhmoipegeaaJ6
set_option maxHeartbeats 8000000
set_option exponentiation.threshold 100000
set_option maxRecDepth 100000
set_option linter.unusedVariables false
set_option linter.unusedSimpArgs false
namespace Go.Av
open Go Go.Proofs
/-! FractionNews -/
theorem FNews_c (p : Bool) (l : List Int) (q : Bool) (k : List Int) (n d : Int) (hl : wf l) (hk : wf k) (hn : -9223372036854775808 ≤ n ∧ n ≤ 9223372036854775807) (hd : -9223372036854775808 ≤ d ∧ d ≤ 9223372036854775807) : Con Try.prog 3 [AF p l q k, I n, I d] (Bo true) := by
  have hs := small_c p l q k
  refine con_of Try.func3 rfl rfl rfl rfl rfl ?_
  by_cases h : l.length ≤ 8 ∧ k.length ≤ 8
  · rw [decide_eq_true h] at hs
    obtain ⟨p1, m1, d1, e1, a1, a2⟩ := New_pair p q l k hl hk
    obtain ⟨p2, m2, d2, e2, b1, b2⟩ := Of_pair n d hn hd
    have k1 := like_m p1 m1 d1 e1
    have k2 := like_m p2 m2 d2 e2
    have v1 := FValid_c p l q k hl hk
    have v2 := RFValid_c p l q k hl hk
    cases hv : vldF p l q k with
    | false =>
      rw [hv] at v1 v2
      repeat (first | refine seq_ ?_ | refine region_ ?_ | refine nil_ ?_ | refine stepY (y_assign rfl) rfl ?_ | refine stepY (y_loadA rfl rfl rfl) rfl ?_ | refine stepE (e_box rfl rfl rfl rfl rfl rfl) ?_)
      refine call_ Try.func9 rfl rfl (hs) rfl (by repeat (first | exact .refl _ | apply Les.cons | exact .nil)) rfl ?_
      repeat (first | refine seq_ ?_ | refine region_ ?_ | refine nil_ ?_ | refine skip_ ?_ | refine cond_f rfl ?_ | refine stepY (y_loadA rfl rfl rfl) rfl ?_ | refine stepY (y_fieldAddr rfl) rfl ?_ | refine stepY (y_not rfl) rfl ?_)
      refine call_ Try.func11 rfl rfl (a1) rfl (by repeat (first | exact .refl _ | apply Les.cons | exact .nil)) rfl ?_
      repeat (first | refine seq_ ?_ | refine region_ ?_ | refine nil_ ?_ | refine stepY (y_move rfl) rfl ?_ | refine stepY (y_assign rfl) rfl ?_ | refine stepY (y_loadA rfl rfl rfl) rfl ?_ | refine stepY (y_fieldAddr rfl) rfl ?_ | refine stepY (y_extract rfl rfl) rfl ?_ | refine stepE (e_alloc rfl rfl rfl) ?_ | refine stepE (e_store rfl rfl rfl rfl rfl rfl rfl) ?_)
      refine call_ Try.func12 rfl rfl (a2) rfl (by repeat (first | exact .refl _ | apply Les.cons | exact .nil)) rfl ?_
      repeat (first | refine seq_ ?_ | refine region_ ?_ | refine nil_ ?_ | refine stepY (y_move rfl) rfl ?_ | refine stepY (y_assign rfl) rfl ?_ | refine stepY (y_extract rfl rfl) rfl ?_ | refine stepE (e_alloc rfl rfl rfl) ?_ | refine stepE (e_store rfl rfl rfl rfl rfl rfl rfl) ?_)
      refine call_ Try.func13 rfl rfl (b1) rfl (by repeat (first | exact .refl _ | apply Les.cons | exact .nil)) rfl ?_
      repeat (first | refine seq_ ?_ | refine region_ ?_ | refine nil_ ?_ | refine stepY (y_move rfl) rfl ?_ | refine stepY (y_assign rfl) rfl ?_ | refine stepY (y_extract rfl rfl) rfl ?_ | refine stepE (e_alloc rfl rfl rfl) ?_ | refine stepE (e_store rfl rfl rfl rfl rfl rfl rfl) ?_)
      refine call_ Try.func14 rfl rfl (b2) rfl (by repeat (first | exact .refl _ | apply Les.cons | exact .nil)) rfl ?_
      repeat (first | refine seq_ ?_ | refine nil_ ?_ | refine stepY (y_move rfl) rfl ?_ | refine stepY (y_assign rfl) rfl ?_ | refine stepY (y_extract rfl rfl) rfl ?_ | refine stepE (e_alloc rfl rfl rfl) ?_ | refine stepE (e_store rfl rfl rfl rfl rfl rfl rfl) ?_)
      refine draw_ [(0, true), (2, true), (1, false), (3, false), (4, true), (5, true), (6, true), (7, true), (8, true), (9, true), (10, false), (11, true), (12, true), (13, true), (14, true), (15, true), (16, true), (17, false), (18, true), (19, true), (20, false), (21, true), (22, true)] 1000 [3, 7, 9, 11, 13] mixed (by kernel_rfl) rfl ?_
      ((refine dY rfl (y_loadA rfl rfl rfl) rfl rfl rfl rfl ?_); refine dY rfl (y_loadA rfl rfl rfl) rfl rfl rfl rfl ?_)
      refine dC rfl Try.func15 rfl rfl (v1) rfl (by repeat (first | exact .refl _ | apply Les.cons | exact .nil)) rfl rfl ?_
      skip
      refine dC rfl Try.func16 rfl rfl (v2) rfl (by repeat (first | exact .refl _ | apply Les.cons | exact .nil)) rfl rfl ?_
      ((refine dY rfl (y_eqb rfl rfl) rfl rfl rfl rfl ?_); refine dY rfl (y_move rfl) rfl rfl rfl rfl ?_; refine dY rfl (y_loadA rfl rfl rfl) rfl rfl rfl rfl ?_; refine dY rfl (y_move rfl) rfl rfl rfl rfl ?_; refine dY rfl (y_loadA rfl rfl rfl) rfl rfl rfl rfl ?_; refine dY rfl (y_move rfl) rfl rfl rfl rfl ?_)
      refine dC rfl Try.func17 rfl rfl (k1) rfl (by repeat (first | exact .refl _ | exact .tag _ _ | apply Le.ag | apply Les.cons | exact .nil)) rfl rfl ?_
      ((refine dY rfl (y_pick_t rfl rfl) rfl rfl rfl rfl ?_); refine dY rfl (y_move rfl) rfl rfl rfl rfl ?_; refine dY rfl (y_loadA rfl rfl rfl) rfl rfl rfl rfl ?_; refine dY rfl (y_move rfl) rfl rfl rfl rfl ?_; refine dY rfl (y_loadA rfl rfl rfl) rfl rfl rfl rfl ?_; refine dY rfl (y_move rfl) rfl rfl rfl rfl ?_)
      refine dC rfl Try.func17 rfl rfl (k2) rfl (by repeat (first | exact .refl _ | exact .tag _ _ | apply Le.ag | apply Les.cons | exact .nil)) rfl rfl ?_
      ((refine dY rfl (y_pick_t rfl rfl) rfl rfl rfl rfl ?_); refine dY rfl (y_move rfl) rfl rfl rfl rfl ?_)
      refine dC rfl Try.func10 rfl rfl (exampleHolds_c) rfl (by repeat (exact .nil)) rfl rfl ?_
      ((refine dY rfl (y_pick_t rfl rfl) rfl rfl rfl rfl ?_); refine dY rfl (y_assign rfl) rfl rfl rfl rfl ?_; refine dEnd ?_)
      repeat (refine ret_ ?_)
      ((apply fin_r); (repeat (first | exact .nil | exact .tmp rfl | apply ResL.cons)); (repeat (exact .refl _)))
    | true =>
      rw [hv] at v1 v2
      repeat (first | refine seq_ ?_ | refine region_ ?_ | refine nil_ ?_ | refine stepY (y_assign rfl) rfl ?_ | refine stepY (y_loadA rfl rfl rfl) rfl ?_ | refine stepE (e_box rfl rfl rfl rfl rfl rfl) ?_)
      refine call_ Try.func9 rfl rfl (hs) rfl (by repeat (first | exact .refl _ | apply Les.cons | exact .nil)) rfl ?_
      repeat (first | refine seq_ ?_ | refine region_ ?_ | refine nil_ ?_ | refine skip_ ?_ | refine cond_f rfl ?_ | refine stepY (y_loadA rfl rfl rfl) rfl ?_ | refine stepY (y_fieldAddr rfl) rfl ?_ | refine stepY (y_not rfl) rfl ?_)
      refine call_ Try.func11 rfl rfl (a1) rfl (by repeat (first | exact .refl _ | apply Les.cons | exact .nil)) rfl ?_
      repeat (first | refine seq_ ?_ | refine region_ ?_ | refine nil_ ?_ | refine stepY (y_move rfl) rfl ?_ | refine stepY (y_assign rfl) rfl ?_ | refine stepY (y_loadA rfl rfl rfl) rfl ?_ | refine stepY (y_fieldAddr rfl) rfl ?_ | refine stepY (y_extract rfl rfl) rfl ?_ | refine stepE (e_alloc rfl rfl rfl) ?_ | refine stepE (e_store rfl rfl rfl rfl rfl rfl rfl) ?_)
      refine call_ Try.func12 rfl rfl (a2) rfl (by repeat (first | exact .refl _ | apply Les.cons | exact .nil)) rfl ?_
      repeat (first | refine seq_ ?_ | refine region_ ?_ | refine nil_ ?_ | refine stepY (y_move rfl) rfl ?_ | refine stepY (y_assign rfl) rfl ?_ | refine stepY (y_extract rfl rfl) rfl ?_ | refine stepE (e_alloc rfl rfl rfl) ?_ | refine stepE (e_store rfl rfl rfl rfl rfl rfl rfl) ?_)
      refine call_ Try.func13 rfl rfl (b1) rfl (by repeat (first | exact .refl _ | apply Les.cons | exact .nil)) rfl ?_
      repeat (first | refine seq_ ?_ | refine region_ ?_ | refine nil_ ?_ | refine stepY (y_move rfl) rfl ?_ | refine stepY (y_assign rfl) rfl ?_ | refine stepY (y_extract rfl rfl) rfl ?_ | refine stepE (e_alloc rfl rfl rfl) ?_ | refine stepE (e_store rfl rfl rfl rfl rfl rfl rfl) ?_)
      refine call_ Try.func14 rfl rfl (b2) rfl (by repeat (first | exact .refl _ | apply Les.cons | exact .nil)) rfl ?_
      repeat (first | refine seq_ ?_ | refine nil_ ?_ | refine stepY (y_move rfl) rfl ?_ | refine stepY (y_assign rfl) rfl ?_ | refine stepY (y_extract rfl rfl) rfl ?_ | refine stepE (e_alloc rfl rfl rfl) ?_ | refine stepE (e_store rfl rfl rfl rfl rfl rfl rfl) ?_)
      refine draw_ [(0, true), (2, true), (1, false), (3, false), (4, true), (5, true), (6, true), (7, true), (8, true), (9, true), (10, false), (11, true), (12, true), (13, true), (14, true), (15, true), (16, true), (17, false), (18, true), (19, true), (20, false), (21, true), (22, true)] 1000 [3, 7, 9, 11, 13] mixed (by kernel_rfl) rfl ?_
      ((refine dY rfl (y_loadA rfl rfl rfl) rfl rfl rfl rfl ?_); refine dY rfl (y_loadA rfl rfl rfl) rfl rfl rfl rfl ?_)
      refine dC rfl Try.func15 rfl rfl (v1) rfl (by repeat (first | exact .refl _ | apply Les.cons | exact .nil)) rfl rfl ?_
      skip
      refine dC rfl Try.func16 rfl rfl (v2) rfl (by repeat (first | exact .refl _ | apply Les.cons | exact .nil)) rfl rfl ?_
      ((refine dY rfl (y_eqb rfl rfl) rfl rfl rfl rfl ?_); refine dY rfl (y_move rfl) rfl rfl rfl rfl ?_; refine dY rfl (y_loadA rfl rfl rfl) rfl rfl rfl rfl ?_; refine dY rfl (y_move rfl) rfl rfl rfl rfl ?_; refine dY rfl (y_loadA rfl rfl rfl) rfl rfl rfl rfl ?_; refine dY rfl (y_move rfl) rfl rfl rfl rfl ?_)
      refine dC rfl Try.func17 rfl rfl (k1) rfl (by repeat (first | exact .refl _ | exact .tag _ _ | apply Le.ag | apply Les.cons | exact .nil)) rfl rfl ?_
      ((refine dY rfl (y_pick_t rfl rfl) rfl rfl rfl rfl ?_); refine dY rfl (y_move rfl) rfl rfl rfl rfl ?_; refine dY rfl (y_loadA rfl rfl rfl) rfl rfl rfl rfl ?_; refine dY rfl (y_move rfl) rfl rfl rfl rfl ?_; refine dY rfl (y_loadA rfl rfl rfl) rfl rfl rfl rfl ?_; refine dY rfl (y_move rfl) rfl rfl rfl rfl ?_)
      refine dC rfl Try.func17 rfl rfl (k2) rfl (by repeat (first | exact .refl _ | exact .tag _ _ | apply Le.ag | apply Les.cons | exact .nil)) rfl rfl ?_
      ((refine dY rfl (y_pick_t rfl rfl) rfl rfl rfl rfl ?_); refine dY rfl (y_move rfl) rfl rfl rfl rfl ?_)
      refine dC rfl Try.func10 rfl rfl (exampleHolds_c) rfl (by repeat (exact .nil)) rfl rfl ?_
      ((refine dY rfl (y_pick_t rfl rfl) rfl rfl rfl rfl ?_); refine dY rfl (y_assign rfl) rfl rfl rfl rfl ?_; refine dEnd ?_)
      repeat (refine ret_ ?_)
      ((apply fin_r); (repeat (first | exact .nil | exact .tmp rfl | apply ResL.cons)); (repeat (exact .refl _)))
  · rw [decide_eq_false h] at hs
    repeat (first | refine seq_ ?_ | refine region_ ?_ | refine nil_ ?_ | refine stepY (y_assign rfl) rfl ?_ | refine stepY (y_loadA rfl rfl rfl) rfl ?_ | refine stepE (e_box rfl rfl rfl rfl rfl rfl) ?_)
    refine call_ Try.func9 rfl rfl (hs) rfl (by repeat (first | exact .refl _ | apply Les.cons | exact .nil)) rfl ?_
    repeat (first | refine seq_ ?_ | refine region_ ?_ | refine nil_ ?_ | refine cond_t rfl ?_ | refine stepY (y_not rfl) rfl ?_)
    refine call_ Try.func10 rfl rfl (exampleHolds_c) rfl (by repeat (exact .nil)) rfl ?_
    repeat (first | refine nil_ ?_ | refine ret_ ?_ | refine stepY (y_assign rfl) rfl ?_)
    ((apply fin_r); (repeat (first | exact .nil | exact .tmp rfl | apply ResL.cons)); (repeat (exact .refl _)))
end Go.Av

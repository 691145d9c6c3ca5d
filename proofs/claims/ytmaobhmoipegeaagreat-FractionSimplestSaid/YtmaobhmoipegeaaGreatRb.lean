/- Contracts behind a law: no conditions beyond those in each statement. -/
import Derived.Test.YtmaobhmoipegeaaGreatJ6
set_option maxHeartbeats 8000000
set_option exponentiation.threshold 100000
set_option maxRecDepth 100000
set_option linter.unusedVariables false
set_option linter.unusedSimpArgs false
namespace Go.Av
open Go Go.Proofs
/-! FractionProducts, FractionSums, FractionCompares -/
theorem Add_pair (p p' : Bool) (l l' : List Int) (q q' : Bool) (k k' : List Int) (hl : wf l) (hk : wf k) (hl' : wf l') (hk' : wf k') : Pair 24 25 [AF p l q k, AF p' l' q' k'] := by
  cases hv : vldF p l q k && vldF p' l' q' k' with
  | false => exact .err 1 (FAdd_e p p' l l' q q' k k' hl hk hl' hk' hv) (RFAdd_e p p' l l' q q' k k' hl hk hl' hk' hv)
  | true =>
    rw [Bool.and_eq_true] at hv
    obtain ⟨x, hx, rfl, rfl, rfl, rfl⟩ := vldF_q hl hk hv.1
    obtain ⟨y, hy, rfl, rfl, rfl, rfl⟩ := vldF_q hl' hk' hv.2
    exact .res _ (FAdd_q x y hx hy) (RFAdd_q x y hx hy)
theorem Sub_pair (p p' : Bool) (l l' : List Int) (q q' : Bool) (k k' : List Int) (hl : wf l) (hk : wf k) (hl' : wf l') (hk' : wf k') : Pair 26 27 [AF p l q k, AF p' l' q' k'] := by
  cases hv : vldF p l q k && vldF p' l' q' k' with
  | false => exact .err 1 (FSub_e p p' l l' q q' k k' hl hk hl' hk' hv) (RFSub_e p p' l l' q q' k k' hl hk hl' hk' hv)
  | true =>
    rw [Bool.and_eq_true] at hv
    obtain ⟨x, hx, rfl, rfl, rfl, rfl⟩ := vldF_q hl hk hv.1
    obtain ⟨y, hy, rfl, rfl, rfl, rfl⟩ := vldF_q hl' hk' hv.2
    exact .res _ (FSub_q x y hx hy) (RFSub_q x y hx hy)
theorem Mul_pair (p p' : Bool) (l l' : List Int) (q q' : Bool) (k k' : List Int) (hl : wf l) (hk : wf k) (hl' : wf l') (hk' : wf k') : Pair 11 12 [AF p l q k, AF p' l' q' k'] := by
  cases hv : vldF p l q k && vldF p' l' q' k' with
  | false => exact .err 1 (FMul_e p p' l l' q q' k k' hl hk hl' hk' hv) (RFMul_e p p' l l' q q' k k' hl hk hl' hk' hv)
  | true =>
    rw [Bool.and_eq_true] at hv
    obtain ⟨x, hx, rfl, rfl, rfl, rfl⟩ := vldF_q hl hk hv.1
    obtain ⟨y, hy, rfl, rfl, rfl, rfl⟩ := vldF_q hl' hk' hv.2
    exact .res _ (FMul_q x y hx hy) (RFMul_q x y hx hy)
theorem Div_both (x y : Rat) (hx : okQ x) (hy : okQ y) : Pair 13 14 [QV x, QV y] := by
  by_cases h0 : y = 0
  · subst h0
    exact .err 12 (FDiv_0 x hx) (RFDiv_0 x hx)
  · exact .res _ (FDiv_q x y hx hy h0) (RFDiv_q x y hx hy h0)
theorem Div_pair (p p' : Bool) (l l' : List Int) (q q' : Bool) (k k' : List Int) (hl : wf l) (hk : wf k) (hl' : wf l') (hk' : wf k') : Pair 13 14 [AF p l q k, AF p' l' q' k'] := by
  cases hv : vldF p l q k && vldF p' l' q' k' with
  | false => exact .err 1 (FDiv_e p p' l l' q q' k k' hl hk hl' hk' hv) (RFDiv_e p p' l l' q q' k k' hl hk hl' hk' hv)
  | true =>
    rw [Bool.and_eq_true] at hv
    obtain ⟨x, hx, rfl, rfl, rfl, rfl⟩ := vldF_q hl hk hv.1
    obtain ⟨y, hy, rfl, rfl, rfl, rfl⟩ := vldF_q hl' hk' hv.2
    exact Div_both x y hx hy
theorem FProducts_c (p p' : Bool) (l l' : List Int) (q q' : Bool) (k k' : List Int) (hl : wf l) (hk : wf k) (hl' : wf l') (hk' : wf k') : Con Tryz.prog 3 [AF p l q k, AF p' l' q' k'] (Bo true) := by
  have hs := small_c p l q k
  have hs2 := small_c p' l' q' k'
  refine con_of Tryz.func3 rfl rfl rfl rfl rfl ?_
  by_cases h : l.length ≤ 8 ∧ k.length ≤ 8
  · rw [decide_eq_true h] at hs
    by_cases h2 : l'.length ≤ 8 ∧ k'.length ≤ 8
    · rw [decide_eq_true h2] at hs2
      obtain ⟨p1, m1, d1, e1, a1, a2⟩ := Mul_pair p p' l l' q q' k k' hl hk hl' hk'
      obtain ⟨p2, m2, d2, e2, b1, b2⟩ := Div_pair p p' l l' q q' k k' hl hk hl' hk'
      have k1 := like_m p1 m1 d1 e1
      have k2 := like_m p2 m2 d2 e2
      repeat (first | refine seq_ ?_ | refine region_ ?_ | refine nil_ ?_ | refine stepY (y_assign rfl) rfl ?_ | refine stepY (y_loadA rfl rfl rfl) rfl ?_ | refine stepE (e_box rfl rfl rfl rfl rfl rfl) ?_)
      refine call_ Tryz.func9 rfl rfl (hs) rfl (by repeat (first | exact .refl _ | apply Les.cons | exact .nil)) rfl ?_
      repeat (first | refine guard_t rfl rfl rfl ?_ | refine stepY (y_move rfl) rfl ?_ | refine stepY (y_loadA rfl rfl rfl) rfl ?_ | refine stepY (y_not rfl) rfl ?_)
      refine call_ Tryz.func9 rfl rfl (hs2) rfl (by repeat (first | exact .refl _ | apply Les.cons | exact .nil)) rfl ?_
      repeat (first | refine seq_ ?_ | refine region_ ?_ | refine nil_ ?_ | refine skip_ ?_ | refine cond_f rfl ?_ | refine guard_t rfl rfl rfl ?_ | refine stepY (y_loadA rfl rfl rfl) rfl ?_ | refine stepY (y_not rfl) rfl ?_ | refine stepY (y_pick_f rfl rfl) rfl ?_)
      refine call_ Tryz.func11 rfl rfl (a1) rfl (by repeat (first | exact .refl _ | apply Les.cons | exact .nil)) rfl ?_
      repeat (first | refine seq_ ?_ | refine region_ ?_ | refine nil_ ?_ | refine stepY (y_move rfl) rfl ?_ | refine stepY (y_assign rfl) rfl ?_ | refine stepY (y_loadA rfl rfl rfl) rfl ?_ | refine stepY (y_extract rfl rfl) rfl ?_ | refine stepE (e_alloc rfl rfl rfl) ?_ | refine stepE (e_store rfl rfl rfl rfl rfl rfl rfl) ?_)
      refine call_ Tryz.func12 rfl rfl (a2) rfl (by repeat (first | exact .refl _ | apply Les.cons | exact .nil)) rfl ?_
      repeat (first | refine seq_ ?_ | refine region_ ?_ | refine nil_ ?_ | refine stepY (y_move rfl) rfl ?_ | refine stepY (y_assign rfl) rfl ?_ | refine stepY (y_loadA rfl rfl rfl) rfl ?_ | refine stepY (y_extract rfl rfl) rfl ?_ | refine stepE (e_alloc rfl rfl rfl) ?_ | refine stepE (e_store rfl rfl rfl rfl rfl rfl rfl) ?_)
      refine call_ Tryz.func13 rfl rfl (b1) rfl (by repeat (first | exact .refl _ | apply Les.cons | exact .nil)) rfl ?_
      repeat (first | refine seq_ ?_ | refine region_ ?_ | refine nil_ ?_ | refine stepY (y_move rfl) rfl ?_ | refine stepY (y_assign rfl) rfl ?_ | refine stepY (y_loadA rfl rfl rfl) rfl ?_ | refine stepY (y_extract rfl rfl) rfl ?_ | refine stepE (e_alloc rfl rfl rfl) ?_ | refine stepE (e_store rfl rfl rfl rfl rfl rfl rfl) ?_)
      refine call_ Tryz.func14 rfl rfl (b2) rfl (by repeat (first | exact .refl _ | apply Les.cons | exact .nil)) rfl ?_
      repeat (first | refine seq_ ?_ | refine region_ ?_ | refine nil_ ?_ | refine stepY (y_move rfl) rfl ?_ | refine stepY (y_assign rfl) rfl ?_ | refine stepY (y_loadA rfl rfl rfl) rfl ?_ | refine stepY (y_extract rfl rfl) rfl ?_ | refine stepE (e_alloc rfl rfl rfl) ?_ | refine stepE (e_store rfl rfl rfl rfl rfl rfl rfl) ?_)
      refine call_ Tryz.func15 rfl rfl (k1) rfl (by repeat (first | exact .refl _ | exact .tag _ _ | apply Le.ag | apply Les.cons | exact .nil)) rfl ?_
      repeat (first | refine guard_t rfl rfl rfl ?_ | refine stepY (y_move rfl) rfl ?_ | refine stepY (y_loadA rfl rfl rfl) rfl ?_)
      refine call_ Tryz.func15 rfl rfl (k2) rfl (by repeat (first | exact .refl _ | exact .tag _ _ | apply Le.ag | apply Les.cons | exact .nil)) rfl ?_
      repeat (first | refine guard_t rfl rfl rfl ?_ | refine stepY (y_move rfl) rfl ?_ | refine stepY (y_pick_t rfl rfl) rfl ?_)
      refine call_ Tryz.func10 rfl rfl (exampleHolds_c) rfl (by repeat (exact .nil)) rfl ?_
      repeat (first | refine nil_ ?_ | refine ret_ ?_ | refine stepY (y_assign rfl) rfl ?_ | refine stepY (y_pick_t rfl rfl) rfl ?_)
      ((apply fin_r); (repeat (first | exact .nil | exact .tmp rfl | apply ResL.cons)); (repeat (exact .refl _)))
    · rw [decide_eq_false h2] at hs2
      repeat (first | refine seq_ ?_ | refine region_ ?_ | refine nil_ ?_ | refine stepY (y_assign rfl) rfl ?_ | refine stepY (y_loadA rfl rfl rfl) rfl ?_ | refine stepE (e_box rfl rfl rfl rfl rfl rfl) ?_)
      refine call_ Tryz.func9 rfl rfl (hs) rfl (by repeat (first | exact .refl _ | apply Les.cons | exact .nil)) rfl ?_
      repeat (first | refine guard_t rfl rfl rfl ?_ | refine stepY (y_move rfl) rfl ?_ | refine stepY (y_loadA rfl rfl rfl) rfl ?_ | refine stepY (y_not rfl) rfl ?_)
      refine call_ Tryz.func9 rfl rfl (hs2) rfl (by repeat (first | exact .refl _ | apply Les.cons | exact .nil)) rfl ?_
      repeat (first | refine seq_ ?_ | refine region_ ?_ | refine nil_ ?_ | refine cond_t rfl ?_ | refine guard_t rfl rfl rfl ?_ | refine stepY (y_not rfl) rfl ?_ | refine stepY (y_pick_f rfl rfl) rfl ?_)
      refine call_ Tryz.func10 rfl rfl (exampleHolds_c) rfl (by repeat (exact .nil)) rfl ?_
      repeat (first | refine nil_ ?_ | refine ret_ ?_ | refine stepY (y_assign rfl) rfl ?_)
      ((apply fin_r); (repeat (first | exact .nil | exact .tmp rfl | apply ResL.cons)); (repeat (exact .refl _)))
  · rw [decide_eq_false h] at hs
    repeat (first | refine seq_ ?_ | refine region_ ?_ | refine nil_ ?_ | refine stepY (y_assign rfl) rfl ?_ | refine stepY (y_loadA rfl rfl rfl) rfl ?_ | refine stepE (e_box rfl rfl rfl rfl rfl rfl) ?_)
    refine call_ Tryz.func9 rfl rfl (hs) rfl (by repeat (first | exact .refl _ | apply Les.cons | exact .nil)) rfl ?_
    repeat (first | refine seq_ ?_ | refine region_ ?_ | refine nil_ ?_ | refine cond_t rfl ?_ | refine guard_f rfl rfl rfl rfl ?_ | refine stepY (y_move rfl) rfl ?_ | refine stepY (y_not rfl) rfl ?_ | refine stepY (y_pick_t rfl rfl) rfl ?_)
    refine call_ Tryz.func10 rfl rfl (exampleHolds_c) rfl (by repeat (exact .nil)) rfl ?_
    repeat (first | refine nil_ ?_ | refine ret_ ?_ | refine stepY (y_assign rfl) rfl ?_)
    ((apply fin_r); (repeat (first | exact .nil | exact .tmp rfl | apply ResL.cons)); (repeat (exact .refl _)))
theorem FSums_c (p p' : Bool) (l l' : List Int) (q q' : Bool) (k k' : List Int) (hl : wf l) (hk : wf k) (hl' : wf l') (hk' : wf k') : Con Tryz.prog 6 [AF p l q k, AF p' l' q' k'] (Bo true) := by
  have hs := small_c p l q k
  have hs2 := small_c p' l' q' k'
  refine con_of Tryz.func6 rfl rfl rfl rfl rfl ?_
  by_cases h : l.length ≤ 8 ∧ k.length ≤ 8
  · rw [decide_eq_true h] at hs
    by_cases h2 : l'.length ≤ 8 ∧ k'.length ≤ 8
    · rw [decide_eq_true h2] at hs2
      obtain ⟨p1, m1, d1, e1, a1, a2⟩ := Add_pair p p' l l' q q' k k' hl hk hl' hk'
      obtain ⟨p2, m2, d2, e2, b1, b2⟩ := Sub_pair p p' l l' q q' k k' hl hk hl' hk'
      have k1 := like_m p1 m1 d1 e1
      have k2 := like_m p2 m2 d2 e2
      repeat (first | refine seq_ ?_ | refine region_ ?_ | refine nil_ ?_ | refine stepY (y_assign rfl) rfl ?_ | refine stepY (y_loadA rfl rfl rfl) rfl ?_ | refine stepE (e_box rfl rfl rfl rfl rfl rfl) ?_)
      refine call_ Tryz.func9 rfl rfl (hs) rfl (by repeat (first | exact .refl _ | apply Les.cons | exact .nil)) rfl ?_
      repeat (first | refine guard_t rfl rfl rfl ?_ | refine stepY (y_move rfl) rfl ?_ | refine stepY (y_loadA rfl rfl rfl) rfl ?_ | refine stepY (y_not rfl) rfl ?_)
      refine call_ Tryz.func9 rfl rfl (hs2) rfl (by repeat (first | exact .refl _ | apply Les.cons | exact .nil)) rfl ?_
      repeat (first | refine seq_ ?_ | refine region_ ?_ | refine nil_ ?_ | refine skip_ ?_ | refine cond_f rfl ?_ | refine guard_t rfl rfl rfl ?_ | refine stepY (y_loadA rfl rfl rfl) rfl ?_ | refine stepY (y_not rfl) rfl ?_ | refine stepY (y_pick_f rfl rfl) rfl ?_)
      refine call_ Tryz.func24 rfl rfl (a1) rfl (by repeat (first | exact .refl _ | apply Les.cons | exact .nil)) rfl ?_
      repeat (first | refine seq_ ?_ | refine region_ ?_ | refine nil_ ?_ | refine stepY (y_move rfl) rfl ?_ | refine stepY (y_assign rfl) rfl ?_ | refine stepY (y_loadA rfl rfl rfl) rfl ?_ | refine stepY (y_extract rfl rfl) rfl ?_ | refine stepE (e_alloc rfl rfl rfl) ?_ | refine stepE (e_store rfl rfl rfl rfl rfl rfl rfl) ?_)
      refine call_ Tryz.func25 rfl rfl (a2) rfl (by repeat (first | exact .refl _ | apply Les.cons | exact .nil)) rfl ?_
      repeat (first | refine seq_ ?_ | refine region_ ?_ | refine nil_ ?_ | refine stepY (y_move rfl) rfl ?_ | refine stepY (y_assign rfl) rfl ?_ | refine stepY (y_loadA rfl rfl rfl) rfl ?_ | refine stepY (y_extract rfl rfl) rfl ?_ | refine stepE (e_alloc rfl rfl rfl) ?_ | refine stepE (e_store rfl rfl rfl rfl rfl rfl rfl) ?_)
      refine call_ Tryz.func26 rfl rfl (b1) rfl (by repeat (first | exact .refl _ | apply Les.cons | exact .nil)) rfl ?_
      repeat (first | refine seq_ ?_ | refine region_ ?_ | refine nil_ ?_ | refine stepY (y_move rfl) rfl ?_ | refine stepY (y_assign rfl) rfl ?_ | refine stepY (y_loadA rfl rfl rfl) rfl ?_ | refine stepY (y_extract rfl rfl) rfl ?_ | refine stepE (e_alloc rfl rfl rfl) ?_ | refine stepE (e_store rfl rfl rfl rfl rfl rfl rfl) ?_)
      refine call_ Tryz.func27 rfl rfl (b2) rfl (by repeat (first | exact .refl _ | apply Les.cons | exact .nil)) rfl ?_
      repeat (first | refine seq_ ?_ | refine region_ ?_ | refine nil_ ?_ | refine stepY (y_move rfl) rfl ?_ | refine stepY (y_assign rfl) rfl ?_ | refine stepY (y_loadA rfl rfl rfl) rfl ?_ | refine stepY (y_extract rfl rfl) rfl ?_ | refine stepE (e_alloc rfl rfl rfl) ?_ | refine stepE (e_store rfl rfl rfl rfl rfl rfl rfl) ?_)
      refine call_ Tryz.func15 rfl rfl (k1) rfl (by repeat (first | exact .refl _ | exact .tag _ _ | apply Le.ag | apply Les.cons | exact .nil)) rfl ?_
      repeat (first | refine guard_t rfl rfl rfl ?_ | refine stepY (y_move rfl) rfl ?_ | refine stepY (y_loadA rfl rfl rfl) rfl ?_)
      refine call_ Tryz.func15 rfl rfl (k2) rfl (by repeat (first | exact .refl _ | exact .tag _ _ | apply Le.ag | apply Les.cons | exact .nil)) rfl ?_
      repeat (first | refine guard_t rfl rfl rfl ?_ | refine stepY (y_move rfl) rfl ?_ | refine stepY (y_pick_t rfl rfl) rfl ?_)
      refine call_ Tryz.func10 rfl rfl (exampleHolds_c) rfl (by repeat (exact .nil)) rfl ?_
      repeat (first | refine nil_ ?_ | refine ret_ ?_ | refine stepY (y_assign rfl) rfl ?_ | refine stepY (y_pick_t rfl rfl) rfl ?_)
      ((apply fin_r); (repeat (first | exact .nil | exact .tmp rfl | apply ResL.cons)); (repeat (exact .refl _)))
    · rw [decide_eq_false h2] at hs2
      repeat (first | refine seq_ ?_ | refine region_ ?_ | refine nil_ ?_ | refine stepY (y_assign rfl) rfl ?_ | refine stepY (y_loadA rfl rfl rfl) rfl ?_ | refine stepE (e_box rfl rfl rfl rfl rfl rfl) ?_)
      refine call_ Tryz.func9 rfl rfl (hs) rfl (by repeat (first | exact .refl _ | apply Les.cons | exact .nil)) rfl ?_
      repeat (first | refine guard_t rfl rfl rfl ?_ | refine stepY (y_move rfl) rfl ?_ | refine stepY (y_loadA rfl rfl rfl) rfl ?_ | refine stepY (y_not rfl) rfl ?_)
      refine call_ Tryz.func9 rfl rfl (hs2) rfl (by repeat (first | exact .refl _ | apply Les.cons | exact .nil)) rfl ?_
      repeat (first | refine seq_ ?_ | refine region_ ?_ | refine nil_ ?_ | refine cond_t rfl ?_ | refine guard_t rfl rfl rfl ?_ | refine stepY (y_not rfl) rfl ?_ | refine stepY (y_pick_f rfl rfl) rfl ?_)
      refine call_ Tryz.func10 rfl rfl (exampleHolds_c) rfl (by repeat (exact .nil)) rfl ?_
      repeat (first | refine nil_ ?_ | refine ret_ ?_ | refine stepY (y_assign rfl) rfl ?_)
      ((apply fin_r); (repeat (first | exact .nil | exact .tmp rfl | apply ResL.cons)); (repeat (exact .refl _)))
  · rw [decide_eq_false h] at hs
    repeat (first | refine seq_ ?_ | refine region_ ?_ | refine nil_ ?_ | refine stepY (y_assign rfl) rfl ?_ | refine stepY (y_loadA rfl rfl rfl) rfl ?_ | refine stepE (e_box rfl rfl rfl rfl rfl rfl) ?_)
    refine call_ Tryz.func9 rfl rfl (hs) rfl (by repeat (first | exact .refl _ | apply Les.cons | exact .nil)) rfl ?_
    repeat (first | refine seq_ ?_ | refine region_ ?_ | refine nil_ ?_ | refine cond_t rfl ?_ | refine guard_f rfl rfl rfl rfl ?_ | refine stepY (y_move rfl) rfl ?_ | refine stepY (y_not rfl) rfl ?_ | refine stepY (y_pick_t rfl rfl) rfl ?_)
    refine call_ Tryz.func10 rfl rfl (exampleHolds_c) rfl (by repeat (exact .nil)) rfl ?_
    repeat (first | refine nil_ ?_ | refine ret_ ?_ | refine stepY (y_assign rfl) rfl ?_)
    ((apply fin_r); (repeat (first | exact .nil | exact .tmp rfl | apply ResL.cons)); (repeat (exact .refl _)))
theorem Cmp_both (p p' : Bool) (l l' : List Int) (q q' : Bool) (k k' : List Int) (hl : wf l) (hk : wf k) (hl' : wf l') (hk' : wf k') : ∃ n e, Con Tryz.prog 28 [AF p l q k, AF p' l' q' k'] (.tp [I n, E_ e]) ∧ Con Tryz.prog 29 [AF p l q k, AF p' l' q' k'] (.tp [I n, E_ e]) := by
  cases hv : vldF p l q k && vldF p' l' q' k' with
  | false => exact ⟨0, 1, FCmp_e p p' l l' q q' k k' hl hk hl' hk' hv, RFCmp_e p p' l l' q q' k k' hl hk hl' hk' hv⟩
  | true =>
    rw [Bool.and_eq_true] at hv
    obtain ⟨x, hx, rfl, rfl, rfl, rfl⟩ := vldF_q hl hk hv.1
    obtain ⟨y, hy, rfl, rfl, rfl, rfl⟩ := vldF_q hl' hk' hv.2
    exact ⟨_, _, FCmp_q x y hx hy, RFCmp_q x y hx hy⟩
theorem Floor_both (p : Bool) (l : List Int) (q : Bool) (k : List Int) (hl : wf l) (hk : wf k) : ∃ z e, Con Tryz.prog 30 [AF p l q k] (.tp [FIV z, E_ e]) ∧ Con Tryz.prog 31 [AF p l q k] (.tp [IV z, E_ e]) := by
  cases hv : vldF p l q k with
  | false => exact ⟨0, 1, FFloor_e p l q k hl hk hv, RFloor_e p l q k hl hk hv⟩
  | true =>
    obtain ⟨x, hx, rfl, rfl, rfl, rfl⟩ := vldF_q hl hk hv
    exact ⟨_, _, FFloor_q x hx, RFloor_q x hx⟩
theorem Round_both (p : Bool) (l : List Int) (q : Bool) (k : List Int) (hl : wf l) (hk : wf k) : ∃ z e, Con Tryz.prog 32 [AF p l q k] (.tp [FIV z, E_ e]) ∧ Con Tryz.prog 33 [AF p l q k] (.tp [IV z, E_ e]) := by
  cases hv : vldF p l q k with
  | false => exact ⟨0, 1, FRound_e p l q k hl hk hv, RRound_e p l q k hl hk hv⟩
  | true =>
    obtain ⟨x, hx, rfl, rfl, rfl, rfl⟩ := vldF_q hl hk hv
    exact ⟨_, _, FRound_q x hx, RRound_q x hx⟩
theorem FCompares_c (p p' : Bool) (l l' : List Int) (q q' : Bool) (k k' : List Int) (hl : wf l) (hk : wf k) (hl' : wf l') (hk' : wf k') : Con Tryz.prog 7 [AF p l q k, AF p' l' q' k'] (Bo true) := by
  have hs := small_c p l q k
  have hs2 := small_c p' l' q' k'
  refine con_of Tryz.func7 rfl rfl rfl rfl rfl ?_
  by_cases h : l.length ≤ 8 ∧ k.length ≤ 8
  · rw [decide_eq_true h] at hs
    by_cases h2 : l'.length ≤ 8 ∧ k'.length ≤ 8
    · rw [decide_eq_true h2] at hs2
      obtain ⟨n1, e1, a1, a2⟩ := Cmp_both p p' l l' q q' k k' hl hk hl' hk'
      obtain ⟨z2, e2, b1, b2⟩ := Floor_both p l q k hl hk
      obtain ⟨z3, e3, c1, c2⟩ := Round_both p l q k hl hk
      have k1 := likeInt_m (decide (z2 < 0)) z2.natAbs e2
      have k2 := likeInt_m (decide (z3 < 0)) z3.natAbs e3
      repeat (first | refine seq_ ?_ | refine region_ ?_ | refine nil_ ?_ | refine stepY (y_assign rfl) rfl ?_ | refine stepY (y_loadA rfl rfl rfl) rfl ?_ | refine stepE (e_box rfl rfl rfl rfl rfl rfl) ?_)
      refine call_ Tryz.func9 rfl rfl (hs) rfl (by repeat (first | exact .refl _ | apply Les.cons | exact .nil)) rfl ?_
      repeat (first | refine guard_t rfl rfl rfl ?_ | refine stepY (y_move rfl) rfl ?_ | refine stepY (y_loadA rfl rfl rfl) rfl ?_ | refine stepY (y_not rfl) rfl ?_)
      refine call_ Tryz.func9 rfl rfl (hs2) rfl (by repeat (first | exact .refl _ | apply Les.cons | exact .nil)) rfl ?_
      repeat (first | refine seq_ ?_ | refine region_ ?_ | refine nil_ ?_ | refine skip_ ?_ | refine cond_f rfl ?_ | refine guard_t rfl rfl rfl ?_ | refine stepY (y_loadA rfl rfl rfl) rfl ?_ | refine stepY (y_not rfl) rfl ?_ | refine stepY (y_pick_f rfl rfl) rfl ?_)
      refine call_ Tryz.func28 rfl rfl (a1) rfl (by repeat (first | exact .refl _ | apply Les.cons | exact .nil)) rfl ?_
      repeat (first | refine seq_ ?_ | refine region_ ?_ | refine nil_ ?_ | refine stepY (y_move rfl) rfl ?_ | refine stepY (y_assign rfl) rfl ?_ | refine stepY (y_loadA rfl rfl rfl) rfl ?_ | refine stepY (y_extract rfl rfl) rfl ?_)
      refine call_ Tryz.func29 rfl rfl (a2) rfl (by repeat (first | exact .refl _ | apply Les.cons | exact .nil)) rfl ?_
      repeat (first | refine seq_ ?_ | refine region_ ?_ | refine nil_ ?_ | refine stepY (y_move rfl) rfl ?_ | refine stepY (y_assign rfl) rfl ?_ | refine stepY (y_loadA rfl rfl rfl) rfl ?_ | refine stepY (y_extract rfl rfl) rfl ?_)
      refine call_ Tryz.func30 rfl rfl (b1) rfl (by repeat (first | exact .refl _ | apply Les.cons | exact .nil)) rfl ?_
      repeat (first | refine seq_ ?_ | refine region_ ?_ | refine nil_ ?_ | refine stepY (y_move rfl) rfl ?_ | refine stepY (y_assign rfl) rfl ?_ | refine stepY (y_loadA rfl rfl rfl) rfl ?_ | refine stepY (y_extract rfl rfl) rfl ?_ | refine stepE (e_alloc rfl rfl rfl) ?_ | refine stepE (e_store rfl rfl rfl rfl rfl rfl rfl) ?_)
      refine call_ Tryz.func31 rfl rfl (b2) rfl (by repeat (first | exact .refl _ | apply Les.cons | exact .nil)) rfl ?_
      repeat (first | refine seq_ ?_ | refine region_ ?_ | refine nil_ ?_ | refine stepY (y_move rfl) rfl ?_ | refine stepY (y_assign rfl) rfl ?_ | refine stepY (y_loadA rfl rfl rfl) rfl ?_ | refine stepY (y_extract rfl rfl) rfl ?_ | refine stepE (e_alloc rfl rfl rfl) ?_ | refine stepE (e_store rfl rfl rfl rfl rfl rfl rfl) ?_)
      refine call_ Tryz.func32 rfl rfl (c1) rfl (by repeat (first | exact .refl _ | apply Les.cons | exact .nil)) rfl ?_
      repeat (first | refine seq_ ?_ | refine region_ ?_ | refine nil_ ?_ | refine stepY (y_move rfl) rfl ?_ | refine stepY (y_assign rfl) rfl ?_ | refine stepY (y_loadA rfl rfl rfl) rfl ?_ | refine stepY (y_extract rfl rfl) rfl ?_ | refine stepE (e_alloc rfl rfl rfl) ?_ | refine stepE (e_store rfl rfl rfl rfl rfl rfl rfl) ?_)
      refine call_ Tryz.func33 rfl rfl (c2) rfl (by repeat (first | exact .refl _ | apply Les.cons | exact .nil)) rfl ?_
      repeat (first | refine seq_ ?_ | refine region_ ?_ | refine nil_ ?_ | refine guard_t rfl rfl rfl ?_ | refine stepY (y_move rfl) rfl ?_ | refine stepY (y_assign rfl) rfl ?_ | refine stepY (y_loadA rfl rfl rfl) rfl ?_ | refine stepY (y_extract rfl rfl) rfl ?_ | refine stepY (y_pick_t rfl rfl) rfl ?_ | refine stepY (y_cmpT rfl rfl rfl (by omega)) rfl ?_ | refine stepE (e_alloc rfl rfl rfl) ?_ | refine stepE (e_store rfl rfl rfl rfl rfl rfl rfl) ?_)
      refine call_ Tryz.func34 rfl rfl (k1) rfl (by repeat (first | exact .refl _ | exact .tag _ _ | apply Le.ag | apply Les.cons | exact .nil)) rfl ?_
      repeat (first | refine guard_t rfl rfl rfl ?_ | refine stepY (y_move rfl) rfl ?_ | refine stepY (y_loadA rfl rfl rfl) rfl ?_ | refine stepY (y_pick_t rfl rfl) rfl ?_)
      refine call_ Tryz.func34 rfl rfl (k2) rfl (by repeat (first | exact .refl _ | exact .tag _ _ | apply Le.ag | apply Les.cons | exact .nil)) rfl ?_
      repeat (first | refine guard_t rfl rfl rfl ?_ | refine stepY (y_move rfl) rfl ?_ | refine stepY (y_pick_t rfl rfl) rfl ?_)
      refine call_ Tryz.func10 rfl rfl (exampleHolds_c) rfl (by repeat (exact .nil)) rfl ?_
      repeat (first | refine nil_ ?_ | refine ret_ ?_ | refine stepY (y_assign rfl) rfl ?_ | refine stepY (y_pick_t rfl rfl) rfl ?_)
      ((apply fin_r); (repeat (first | exact .nil | exact .tmp rfl | apply ResL.cons)); (repeat (exact .refl _)))
    · rw [decide_eq_false h2] at hs2
      repeat (first | refine seq_ ?_ | refine region_ ?_ | refine nil_ ?_ | refine stepY (y_assign rfl) rfl ?_ | refine stepY (y_loadA rfl rfl rfl) rfl ?_ | refine stepE (e_box rfl rfl rfl rfl rfl rfl) ?_)
      refine call_ Tryz.func9 rfl rfl (hs) rfl (by repeat (first | exact .refl _ | apply Les.cons | exact .nil)) rfl ?_
      repeat (first | refine guard_t rfl rfl rfl ?_ | refine stepY (y_move rfl) rfl ?_ | refine stepY (y_loadA rfl rfl rfl) rfl ?_ | refine stepY (y_not rfl) rfl ?_)
      refine call_ Tryz.func9 rfl rfl (hs2) rfl (by repeat (first | exact .refl _ | apply Les.cons | exact .nil)) rfl ?_
      repeat (first | refine seq_ ?_ | refine region_ ?_ | refine nil_ ?_ | refine cond_t rfl ?_ | refine guard_t rfl rfl rfl ?_ | refine stepY (y_not rfl) rfl ?_ | refine stepY (y_pick_f rfl rfl) rfl ?_)
      refine call_ Tryz.func10 rfl rfl (exampleHolds_c) rfl (by repeat (exact .nil)) rfl ?_
      repeat (first | refine nil_ ?_ | refine ret_ ?_ | refine stepY (y_assign rfl) rfl ?_)
      ((apply fin_r); (repeat (first | exact .nil | exact .tmp rfl | apply ResL.cons)); (repeat (exact .refl _)))
  · rw [decide_eq_false h] at hs
    repeat (first | refine seq_ ?_ | refine region_ ?_ | refine nil_ ?_ | refine stepY (y_assign rfl) rfl ?_ | refine stepY (y_loadA rfl rfl rfl) rfl ?_ | refine stepE (e_box rfl rfl rfl rfl rfl rfl) ?_)
    refine call_ Tryz.func9 rfl rfl (hs) rfl (by repeat (first | exact .refl _ | apply Les.cons | exact .nil)) rfl ?_
    repeat (first | refine seq_ ?_ | refine region_ ?_ | refine nil_ ?_ | refine cond_t rfl ?_ | refine guard_f rfl rfl rfl rfl ?_ | refine stepY (y_move rfl) rfl ?_ | refine stepY (y_not rfl) rfl ?_ | refine stepY (y_pick_t rfl rfl) rfl ?_)
    refine call_ Tryz.func10 rfl rfl (exampleHolds_c) rfl (by repeat (exact .nil)) rfl ?_
    repeat (first | refine nil_ ?_ | refine ret_ ?_ | refine stepY (y_assign rfl) rfl ?_)
    ((apply fin_r); (repeat (first | exact .nil | exact .tmp rfl | apply ResL.cons)); (repeat (exact .refl _)))
end Go.Av

/- Contracts behind a law: no conditions beyond those in each statement. -/
import Derived.Test.YtmaobhmoipegeaaSe
set_option maxHeartbeats 8000000
set_option exponentiation.threshold 100000
set_option maxRecDepth 100000
set_option linter.unusedVariables false
set_option linter.unusedSimpArgs false
namespace Go.Av
open Go Go.Proofs
/-! FractionMinimal: the walk -/
theorem mul_int (x : Rat) (d : Nat) : x * ((d : Int) : Rat) = mkRat (x.num * d) x.den := by
  conv => lhs; rw [← Rat.mkRat_self x, ← Rat.mkRat_self ((d : Int) : Rat)]
  rw [Rat.mkRat_mul_mkRat]
  simp only [Rat.num_intCast, Rat.den_intCast, Nat.mul_one]
theorem inside_f (x y : Rat) (d : Nat) (hx : okB 1 x) (hy : okB 1 y) (h1 : 1 ≤ d) (h2 : d ≤ 300) (hn : ¬ mkRat (x.num * d) x.den ≤ (((mkRat (y.num * d) y.den).floor : Int) : Rat)) : Con Try.prog 28 [QV x, QV y, I (d : Int)] (Bo false) := by
  have o1 := of_c (d : Int) 1 (by omega) (by omega) (by omega)
  rw [show Q_ (d : Int) 1 = ((d : Int) : Rat) from int_q d] at o1
  have hd : okB 1 ((d : Int) : Rat) := okB_int (by rw [Int.natAbs_natCast, ln_le, Nat.pow_one]; unfold B; omega) (by decide)
  have m1 := Mul_b hx hd (by decide)
  have m2 := Mul_b hy hd (by decide)
  have hmy := okB_mul hy hd
  have hmx := okB_mul hx hd
  rw [mul_int] at m1 m2 hmx hmy
  have f1 := FFloor_q _ (hmy.ok (by decide))
  have hfl : ln (mkRat (y.num * d) y.den).floor.natAbs ≤ 2 := Nat.le_trans (ln_mono (floor_abs _)) hmy.1
  have n1 := New_1 (mkRat (y.num * d) y.den).floor (by omega)
  have c1 := FCmp_q (mkRat (x.num * d) x.den) _ (hmx.ok (by decide)) ((okB_int (k := 2) hfl (by decide)).ok (by decide))
  have hq : ¬ qcmp (mkRat (x.num * d) x.den) (((mkRat (y.num * d) y.den).floor : Int) : Rat) ≤ 0 := fun h => hn ((qcmp_le _ _).1 h)
  have hiv : IV 1 = SV false ((d : Int) : Rat).den := rfl
  rw [hiv] at n1
  generalize ((d : Int) : Rat) = D at *
  generalize mkRat (x.num * d) x.den = X at *
  generalize (((mkRat (y.num * d) y.den).floor : Int) : Rat) = F at *
  generalize mkRat (y.num * d) y.den = Y at *
  generalize qcmp X F = c at *
  refine con_of Try.func28 rfl rfl rfl rfl rfl ?_
  repeat (first | refine seq_ ?_ | refine region_ ?_ | refine nil_ ?_ | refine stepY (y_move rfl) rfl ?_ | refine stepY (y_assign rfl) rfl ?_ | refine stepE (e_box rfl rfl rfl rfl rfl rfl) ?_)
  refine call_ Try.func29 rfl rfl (o1) rfl (by repeat (first | exact .refl _ | apply Les.cons | exact .nil)) rfl ?_
  repeat (first | refine seq_ ?_ | refine region_ ?_ | refine nil_ ?_ | refine stepY (y_loadA rfl rfl rfl) rfl ?_ | refine stepE (e_alloc rfl rfl rfl) ?_ | refine stepE (e_store rfl rfl rfl rfl rfl rfl rfl) ?_)
  refine call_ Try.func19 rfl rfl (m1) rfl (by repeat (first | exact .refl _ | exact .tag _ _ | apply Le.ag | apply Les.cons | exact .nil)) rfl ?_
  repeat (first | refine seq_ ?_ | refine region_ ?_ | refine nil_ ?_ | refine stepY (y_move rfl) rfl ?_ | refine stepY (y_assign rfl) rfl ?_ | refine stepY (y_loadA rfl rfl rfl) rfl ?_ | refine stepY (y_extract rfl rfl) rfl ?_ | refine stepE (e_alloc rfl rfl rfl) ?_ | refine stepE (e_store rfl rfl rfl rfl rfl rfl rfl) ?_)
  refine call_ Try.func19 rfl rfl (m2) rfl (by repeat (first | exact .refl _ | exact .tag _ _ | apply Le.ag | apply Les.cons | exact .nil)) rfl ?_
  repeat (first | refine seq_ ?_ | refine region_ ?_ | refine nil_ ?_ | refine stepY (y_move rfl) rfl ?_ | refine stepY (y_assign rfl) rfl ?_ | refine stepY (y_loadA rfl rfl rfl) rfl ?_ | refine stepY (y_extract rfl rfl) rfl ?_ | refine stepE (e_alloc rfl rfl rfl) ?_ | refine stepE (e_store rfl rfl rfl rfl rfl rfl rfl) ?_)
  refine call_ Try.func30 rfl rfl (f1) rfl (by repeat (first | exact .refl _ | exact .tag _ _ | apply Le.ag | apply Les.cons | exact .nil)) rfl ?_
  repeat (first | refine seq_ ?_ | refine region_ ?_ | refine nil_ ?_ | refine stepY (y_move rfl) rfl ?_ | refine stepY (y_assign rfl) rfl ?_ | refine stepY (y_loadA rfl rfl rfl) rfl ?_ | refine stepY (y_fieldAddr rfl) rfl ?_ | refine stepY (y_extract rfl rfl) rfl ?_ | refine stepE (e_alloc rfl rfl rfl) ?_ | refine stepE (e_store rfl rfl rfl rfl rfl rfl rfl) ?_)
  refine call_ Try.func11 rfl rfl (n1) rfl (by repeat (first | exact .refl _ | exact .tag _ _ | apply Le.ag | apply Les.cons | exact .nil)) rfl ?_
  repeat (first | refine seq_ ?_ | refine region_ ?_ | refine nil_ ?_ | refine stepY (y_move rfl) rfl ?_ | refine stepY (y_assign rfl) rfl ?_ | refine stepY (y_loadA rfl rfl rfl) rfl ?_ | refine stepY (y_extract rfl rfl) rfl ?_ | refine stepE (e_alloc rfl rfl rfl) ?_ | refine stepE (e_store rfl rfl rfl rfl rfl rfl rfl) ?_)
  refine call_ Try.func20 rfl rfl (c1) rfl (by repeat (first | exact .refl _ | exact .tag _ _ | apply Le.ag | apply Les.cons | exact .nil)) rfl ?_
  repeat (first | refine seq_ ?_ | refine region_ ?_ | refine nil_ ?_ | refine ret_ ?_ | refine stepY (y_move rfl) rfl ?_ | refine stepY (y_assign rfl) rfl ?_ | refine stepY (y_extract rfl rfl) rfl ?_ | refine stepY (y_cmpF rfl rfl rfl (by omega)) rfl ?_)
  ((apply fin_r); (repeat (first | exact .nil | exact .tmp rfl | apply ResL.cons)); (repeat (exact .refl _)))
theorem unit_q (p : Bool) (x : Rat) : Q_ (sgn p 1) 1 / ((x.den : Int) : Rat) = mkRat (sgn p 1) x.den ∧ x + mkRat (sgn p 1) x.den = mkRat (x.num + sgn p 1) x.den := by
  constructor
  · have := div_rat p false 1 x.den 1 1 (by decide) (by decide) x.den_pos
    rw [Bool.bne_false, Nat.mul_one, Nat.one_mul, show mkRat (sgn false x.den) 1 = ((x.den : Int) : Rat) from Rat.mkRat_self ((x.den : Int) : Rat)] at this
    rw [this]
    rfl
  · conv => lhs; lhs; rw [← Rat.mkRat_self x]
    rw [Rat.mkRat_add_mkRat _ _ x.den_nz x.den_nz, ← Int.add_mul, Rat.mkRat_mul_right x.den_nz]
theorem nearer_out {s lo hi : Rat} (h : Simp s lo hi) (p : Bool) (hs : (p = false ∧ s.num < 0) ∨ (p = true ∧ 0 < s.num)) : 0 < qcmp lo (mkRat (s.num + sgn p 1) s.den) ∨ 0 < qcmp (mkRat (s.num + sgn p 1) s.den) hi := by
  by_cases h1 : qcmp lo (mkRat (s.num + sgn p 1) s.den) ≤ 0
  · by_cases h2 : qcmp (mkRat (s.num + sgn p 1) s.den) hi ≤ 0
    · exfalso
      have h3 := (h.min _ ((qcmp_le _ _).1 h1) ((qcmp_le _ _).1 h2)).2
      have h4 : (mkRat (s.num + sgn p 1) s.den).num.natAbs ≤ (s.num + sgn p 1).natAbs := by
        rw [(mkQ _ s.den_pos).1]
        exact Int.natAbs_ediv_le_natAbs _ _
      rcases hs with ⟨rfl, hs⟩ | ⟨rfl, hs⟩
      · simp only [sgn, Bool.false_eq_true, if_false] at h3 h4
        omega
      · simp only [sgn, if_true] at h3 h4
        omega
    · exact .inr (by omega)
  · exact .inl (by omega)
theorem FMinimal_c (p1 p2 : Bool) (l1 l2 : List Int) (q1 q2 : Bool) (k1 k2 : List Int) (hl1 : wf l1) (hk1 : wf k1) (hl2 : wf l2) (hk2 : wf k2) : Con Try.prog 7 [AF p1 l1 q1 k1, AF p2 l2 q2 k2] (Bo true) := by
  have v1 := FValid_c p1 l1 q1 k1 hl1 hk1
  have v2 := FValid_c p2 l2 q2 k2 hl2 hk2
  by_cases g1 : (l1.length : Int) ≤ 1
  case neg =>
    have s1 := short_f p1 l1 1 g1
    refine con_of Try.func7 rfl rfl rfl rfl rfl ?_
    repeat (first | refine seq_ ?_ | refine region_ ?_ | refine nil_ ?_ | refine stepY (y_assign rfl) rfl ?_ | refine stepY (y_loadA rfl rfl rfl) rfl ?_ | refine stepY (y_fieldAddr rfl) rfl ?_ | refine stepE (e_box rfl rfl rfl rfl rfl rfl) ?_)
    refine call_ Try.func26 rfl rfl (s1) rfl (by repeat (first | exact .refl _ | apply Les.cons | exact .nil)) rfl ?_
    repeat (first | refine seq_ ?_ | refine region_ ?_ | refine nil_ ?_ | refine cond_t rfl ?_ | refine guard_f rfl rfl rfl rfl ?_ | refine stepY (y_move rfl) rfl ?_ | refine stepY (y_not rfl) rfl ?_ | refine stepY (y_pick_t rfl rfl) rfl ?_)
    refine call_ Try.func10 rfl rfl (exampleHolds_c) rfl (by repeat (exact .nil)) rfl ?_
    repeat (first | refine nil_ ?_ | refine ret_ ?_ | refine stepY (y_assign rfl) rfl ?_)
    ((apply fin_r); (repeat (first | exact .nil | exact .tmp rfl | apply ResL.cons)); (repeat (exact .refl _)))
  have s1 := short_t p1 l1 1 g1
  by_cases g2 : (k1.length : Int) ≤ 1
  case neg =>
    have s2 := short_f q1 k1 1 g2
    refine con_of Try.func7 rfl rfl rfl rfl rfl ?_
    repeat (first | refine seq_ ?_ | refine region_ ?_ | refine nil_ ?_ | refine stepY (y_assign rfl) rfl ?_ | refine stepY (y_loadA rfl rfl rfl) rfl ?_ | refine stepY (y_fieldAddr rfl) rfl ?_ | refine stepE (e_box rfl rfl rfl rfl rfl rfl) ?_)
    refine call_ Try.func26 rfl rfl (s1) rfl (by repeat (first | exact .refl _ | apply Les.cons | exact .nil)) rfl ?_
    repeat (first | refine guard_t rfl rfl rfl ?_ | refine stepY (y_move rfl) rfl ?_ | refine stepY (y_loadA rfl rfl rfl) rfl ?_ | refine stepY (y_fieldAddr rfl) rfl ?_ | refine stepY (y_not rfl) rfl ?_)
    refine call_ Try.func26 rfl rfl (s2) rfl (by repeat (first | exact .refl _ | apply Les.cons | exact .nil)) rfl ?_
    repeat (first | refine seq_ ?_ | refine region_ ?_ | refine nil_ ?_ | refine cond_t rfl ?_ | refine guard_t rfl rfl rfl ?_ | refine guard_f rfl rfl rfl rfl ?_ | refine stepY (y_move rfl) rfl ?_ | refine stepY (y_not rfl) rfl ?_ | (first | refine stepY (y_pick_t rfl rfl) rfl ?_ | refine stepY (y_pick_f rfl rfl) rfl ?_))
    refine call_ Try.func10 rfl rfl (exampleHolds_c) rfl (by repeat (exact .nil)) rfl ?_
    repeat (first | refine nil_ ?_ | refine ret_ ?_ | refine stepY (y_assign rfl) rfl ?_)
    ((apply fin_r); (repeat (first | exact .nil | exact .tmp rfl | apply ResL.cons)); (repeat (exact .refl _)))
  have s2 := short_t q1 k1 1 g2
  by_cases g3 : (l2.length : Int) ≤ 1
  case neg =>
    have s3 := short_f p2 l2 1 g3
    refine con_of Try.func7 rfl rfl rfl rfl rfl ?_
    repeat (first | refine seq_ ?_ | refine region_ ?_ | refine nil_ ?_ | refine stepY (y_assign rfl) rfl ?_ | refine stepY (y_loadA rfl rfl rfl) rfl ?_ | refine stepY (y_fieldAddr rfl) rfl ?_ | refine stepE (e_box rfl rfl rfl rfl rfl rfl) ?_)
    refine call_ Try.func26 rfl rfl (s1) rfl (by repeat (first | exact .refl _ | apply Les.cons | exact .nil)) rfl ?_
    repeat (first | refine guard_t rfl rfl rfl ?_ | refine stepY (y_move rfl) rfl ?_ | refine stepY (y_loadA rfl rfl rfl) rfl ?_ | refine stepY (y_fieldAddr rfl) rfl ?_ | refine stepY (y_not rfl) rfl ?_)
    refine call_ Try.func26 rfl rfl (s2) rfl (by repeat (first | exact .refl _ | apply Les.cons | exact .nil)) rfl ?_
    repeat (first | refine guard_t rfl rfl rfl ?_ | refine stepY (y_move rfl) rfl ?_ | refine stepY (y_loadA rfl rfl rfl) rfl ?_ | refine stepY (y_fieldAddr rfl) rfl ?_ | refine stepY (y_not rfl) rfl ?_ | refine stepY (y_pick_f rfl rfl) rfl ?_)
    refine call_ Try.func26 rfl rfl (s3) rfl (by repeat (first | exact .refl _ | apply Les.cons | exact .nil)) rfl ?_
    repeat (first | refine seq_ ?_ | refine region_ ?_ | refine nil_ ?_ | refine cond_t rfl ?_ | refine guard_t rfl rfl rfl ?_ | refine guard_f rfl rfl rfl rfl ?_ | refine stepY (y_move rfl) rfl ?_ | refine stepY (y_not rfl) rfl ?_ | (first | refine stepY (y_pick_t rfl rfl) rfl ?_ | refine stepY (y_pick_f rfl rfl) rfl ?_))
    refine call_ Try.func10 rfl rfl (exampleHolds_c) rfl (by repeat (exact .nil)) rfl ?_
    repeat (first | refine nil_ ?_ | refine ret_ ?_ | refine stepY (y_assign rfl) rfl ?_)
    ((apply fin_r); (repeat (first | exact .nil | exact .tmp rfl | apply ResL.cons)); (repeat (exact .refl _)))
  have s3 := short_t p2 l2 1 g3
  by_cases g4 : (k2.length : Int) ≤ 1
  case neg =>
    have s4 := short_f q2 k2 1 g4
    refine con_of Try.func7 rfl rfl rfl rfl rfl ?_
    repeat (first | refine seq_ ?_ | refine region_ ?_ | refine nil_ ?_ | refine stepY (y_assign rfl) rfl ?_ | refine stepY (y_loadA rfl rfl rfl) rfl ?_ | refine stepY (y_fieldAddr rfl) rfl ?_ | refine stepE (e_box rfl rfl rfl rfl rfl rfl) ?_)
    refine call_ Try.func26 rfl rfl (s1) rfl (by repeat (first | exact .refl _ | apply Les.cons | exact .nil)) rfl ?_
    repeat (first | refine guard_t rfl rfl rfl ?_ | refine stepY (y_move rfl) rfl ?_ | refine stepY (y_loadA rfl rfl rfl) rfl ?_ | refine stepY (y_fieldAddr rfl) rfl ?_ | refine stepY (y_not rfl) rfl ?_)
    refine call_ Try.func26 rfl rfl (s2) rfl (by repeat (first | exact .refl _ | apply Les.cons | exact .nil)) rfl ?_
    repeat (first | refine guard_t rfl rfl rfl ?_ | refine stepY (y_move rfl) rfl ?_ | refine stepY (y_loadA rfl rfl rfl) rfl ?_ | refine stepY (y_fieldAddr rfl) rfl ?_ | refine stepY (y_not rfl) rfl ?_ | refine stepY (y_pick_f rfl rfl) rfl ?_)
    refine call_ Try.func26 rfl rfl (s3) rfl (by repeat (first | exact .refl _ | apply Les.cons | exact .nil)) rfl ?_
    repeat (first | refine guard_t rfl rfl rfl ?_ | refine stepY (y_move rfl) rfl ?_ | refine stepY (y_loadA rfl rfl rfl) rfl ?_ | refine stepY (y_fieldAddr rfl) rfl ?_ | refine stepY (y_not rfl) rfl ?_ | refine stepY (y_pick_f rfl rfl) rfl ?_)
    refine call_ Try.func26 rfl rfl (s4) rfl (by repeat (first | exact .refl _ | apply Les.cons | exact .nil)) rfl ?_
    repeat (first | refine seq_ ?_ | refine region_ ?_ | refine nil_ ?_ | refine cond_t rfl ?_ | refine guard_t rfl rfl rfl ?_ | refine guard_f rfl rfl rfl rfl ?_ | refine stepY (y_move rfl) rfl ?_ | refine stepY (y_not rfl) rfl ?_ | (first | refine stepY (y_pick_t rfl rfl) rfl ?_ | refine stepY (y_pick_f rfl rfl) rfl ?_))
    refine call_ Try.func10 rfl rfl (exampleHolds_c) rfl (by repeat (exact .nil)) rfl ?_
    repeat (first | refine nil_ ?_ | refine ret_ ?_ | refine stepY (y_assign rfl) rfl ?_)
    ((apply fin_r); (repeat (first | exact .nil | exact .tmp rfl | apply ResL.cons)); (repeat (exact .refl _)))
  have s4 := short_t q2 k2 1 g4
  cases w1 : vldF p1 l1 q1 k1
  case false =>
    rw [w1] at v1
    refine con_of Try.func7 rfl rfl rfl rfl rfl ?_
    repeat (first | refine seq_ ?_ | refine region_ ?_ | refine nil_ ?_ | refine stepY (y_assign rfl) rfl ?_ | refine stepY (y_loadA rfl rfl rfl) rfl ?_ | refine stepY (y_fieldAddr rfl) rfl ?_ | refine stepE (e_box rfl rfl rfl rfl rfl rfl) ?_)
    refine call_ Try.func26 rfl rfl (s1) rfl (by repeat (first | exact .refl _ | apply Les.cons | exact .nil)) rfl ?_
    repeat (first | refine guard_t rfl rfl rfl ?_ | refine stepY (y_move rfl) rfl ?_ | refine stepY (y_loadA rfl rfl rfl) rfl ?_ | refine stepY (y_fieldAddr rfl) rfl ?_ | refine stepY (y_not rfl) rfl ?_)
    refine call_ Try.func26 rfl rfl (s2) rfl (by repeat (first | exact .refl _ | apply Les.cons | exact .nil)) rfl ?_
    repeat (first | refine guard_t rfl rfl rfl ?_ | refine stepY (y_move rfl) rfl ?_ | refine stepY (y_loadA rfl rfl rfl) rfl ?_ | refine stepY (y_fieldAddr rfl) rfl ?_ | refine stepY (y_not rfl) rfl ?_ | refine stepY (y_pick_f rfl rfl) rfl ?_)
    refine call_ Try.func26 rfl rfl (s3) rfl (by repeat (first | exact .refl _ | apply Les.cons | exact .nil)) rfl ?_
    repeat (first | refine guard_t rfl rfl rfl ?_ | refine stepY (y_move rfl) rfl ?_ | refine stepY (y_loadA rfl rfl rfl) rfl ?_ | refine stepY (y_fieldAddr rfl) rfl ?_ | refine stepY (y_not rfl) rfl ?_ | refine stepY (y_pick_f rfl rfl) rfl ?_)
    refine call_ Try.func26 rfl rfl (s4) rfl (by repeat (first | exact .refl _ | apply Les.cons | exact .nil)) rfl ?_
    repeat (first | refine guard_t rfl rfl rfl ?_ | refine stepY (y_move rfl) rfl ?_ | refine stepY (y_loadA rfl rfl rfl) rfl ?_ | refine stepY (y_not rfl) rfl ?_ | refine stepY (y_pick_f rfl rfl) rfl ?_)
    refine call_ Try.func15 rfl rfl (v1) rfl (by repeat (first | exact .refl _ | apply Les.cons | exact .nil)) rfl ?_
    repeat (first | refine seq_ ?_ | refine region_ ?_ | refine nil_ ?_ | refine cond_t rfl ?_ | refine guard_t rfl rfl rfl ?_ | refine guard_f rfl rfl rfl rfl ?_ | refine stepY (y_move rfl) rfl ?_ | refine stepY (y_not rfl) rfl ?_ | (first | refine stepY (y_pick_t rfl rfl) rfl ?_ | refine stepY (y_pick_f rfl rfl) rfl ?_))
    refine call_ Try.func10 rfl rfl (exampleHolds_c) rfl (by repeat (exact .nil)) rfl ?_
    repeat (first | refine nil_ ?_ | refine ret_ ?_ | refine stepY (y_assign rfl) rfl ?_)
    ((apply fin_r); (repeat (first | exact .nil | exact .tmp rfl | apply ResL.cons)); (repeat (exact .refl _)))
  rw [w1] at v1
  cases w2 : vldF p2 l2 q2 k2
  case false =>
    rw [w2] at v2
    refine con_of Try.func7 rfl rfl rfl rfl rfl ?_
    repeat (first | refine seq_ ?_ | refine region_ ?_ | refine nil_ ?_ | refine stepY (y_assign rfl) rfl ?_ | refine stepY (y_loadA rfl rfl rfl) rfl ?_ | refine stepY (y_fieldAddr rfl) rfl ?_ | refine stepE (e_box rfl rfl rfl rfl rfl rfl) ?_)
    refine call_ Try.func26 rfl rfl (s1) rfl (by repeat (first | exact .refl _ | apply Les.cons | exact .nil)) rfl ?_
    repeat (first | refine guard_t rfl rfl rfl ?_ | refine stepY (y_move rfl) rfl ?_ | refine stepY (y_loadA rfl rfl rfl) rfl ?_ | refine stepY (y_fieldAddr rfl) rfl ?_ | refine stepY (y_not rfl) rfl ?_)
    refine call_ Try.func26 rfl rfl (s2) rfl (by repeat (first | exact .refl _ | apply Les.cons | exact .nil)) rfl ?_
    repeat (first | refine guard_t rfl rfl rfl ?_ | refine stepY (y_move rfl) rfl ?_ | refine stepY (y_loadA rfl rfl rfl) rfl ?_ | refine stepY (y_fieldAddr rfl) rfl ?_ | refine stepY (y_not rfl) rfl ?_ | refine stepY (y_pick_f rfl rfl) rfl ?_)
    refine call_ Try.func26 rfl rfl (s3) rfl (by repeat (first | exact .refl _ | apply Les.cons | exact .nil)) rfl ?_
    repeat (first | refine guard_t rfl rfl rfl ?_ | refine stepY (y_move rfl) rfl ?_ | refine stepY (y_loadA rfl rfl rfl) rfl ?_ | refine stepY (y_fieldAddr rfl) rfl ?_ | refine stepY (y_not rfl) rfl ?_ | refine stepY (y_pick_f rfl rfl) rfl ?_)
    refine call_ Try.func26 rfl rfl (s4) rfl (by repeat (first | exact .refl _ | apply Les.cons | exact .nil)) rfl ?_
    repeat (first | refine guard_t rfl rfl rfl ?_ | refine stepY (y_move rfl) rfl ?_ | refine stepY (y_loadA rfl rfl rfl) rfl ?_ | refine stepY (y_not rfl) rfl ?_ | refine stepY (y_pick_f rfl rfl) rfl ?_)
    refine call_ Try.func15 rfl rfl (v1) rfl (by repeat (first | exact .refl _ | apply Les.cons | exact .nil)) rfl ?_
    repeat (first | refine guard_t rfl rfl rfl ?_ | refine stepY (y_move rfl) rfl ?_ | refine stepY (y_loadA rfl rfl rfl) rfl ?_ | refine stepY (y_not rfl) rfl ?_ | refine stepY (y_pick_f rfl rfl) rfl ?_)
    refine call_ Try.func15 rfl rfl (v2) rfl (by repeat (first | exact .refl _ | apply Les.cons | exact .nil)) rfl ?_
    repeat (first | refine seq_ ?_ | refine region_ ?_ | refine nil_ ?_ | refine cond_t rfl ?_ | refine guard_t rfl rfl rfl ?_ | refine stepY (y_not rfl) rfl ?_ | refine stepY (y_pick_f rfl rfl) rfl ?_)
    refine call_ Try.func10 rfl rfl (exampleHolds_c) rfl (by repeat (exact .nil)) rfl ?_
    repeat (first | refine nil_ ?_ | refine ret_ ?_ | refine stepY (y_assign rfl) rfl ?_)
    ((apply fin_r); (repeat (first | exact .nil | exact .tmp rfl | apply ResL.cons)); (repeat (exact .refl _)))
  rw [w2] at v2
  obtain ⟨x, hx, rfl, rfl, rfl, rfl⟩ := tinyQ hl1 hk1 w1 (n := 1) ⟨by omega, by omega⟩
  obtain ⟨y, hy, rfl, rfl, rfl, rfl⟩ := tinyQ hl2 hk2 w2 (n := 1) ⟨by omega, by omega⟩
  clear w1 w2 g1 g2 g3 g4 hl1 hk1 hl2 hk2
  have hx0 := hx.ok (by decide)
  have hy0 := hy.ok (by decide)
  have c1 := FCmp_q x y hx0 hy0
  by_cases hxy : x ≤ y
  case neg =>
    have hlt := Rat.not_le.1 hxy
    have r1 := Simplest_r x y hx0 hy0 hlt
    have ho : 0 < qcmp x y := Int.not_le.1 (fun h => hxy ((qcmp_le x y).1 h))
    generalize qcmp x y = o at *
    refine con_of Try.func7 rfl rfl rfl rfl rfl ?_
    repeat (first | refine seq_ ?_ | refine region_ ?_ | refine nil_ ?_ | refine stepY (y_assign rfl) rfl ?_ | refine stepY (y_loadA rfl rfl rfl) rfl ?_ | refine stepY (y_fieldAddr rfl) rfl ?_ | refine stepE (e_box rfl rfl rfl rfl rfl rfl) ?_)
    refine call_ Try.func26 rfl rfl (s1) rfl (by repeat (first | exact .refl _ | apply Les.cons | exact .nil)) rfl ?_
    repeat (first | refine guard_t rfl rfl rfl ?_ | refine stepY (y_move rfl) rfl ?_ | refine stepY (y_loadA rfl rfl rfl) rfl ?_ | refine stepY (y_fieldAddr rfl) rfl ?_ | refine stepY (y_not rfl) rfl ?_)
    refine call_ Try.func26 rfl rfl (s2) rfl (by repeat (first | exact .refl _ | apply Les.cons | exact .nil)) rfl ?_
    repeat (first | refine guard_t rfl rfl rfl ?_ | refine stepY (y_move rfl) rfl ?_ | refine stepY (y_loadA rfl rfl rfl) rfl ?_ | refine stepY (y_fieldAddr rfl) rfl ?_ | refine stepY (y_not rfl) rfl ?_ | refine stepY (y_pick_f rfl rfl) rfl ?_)
    refine call_ Try.func26 rfl rfl (s3) rfl (by repeat (first | exact .refl _ | apply Les.cons | exact .nil)) rfl ?_
    repeat (first | refine guard_t rfl rfl rfl ?_ | refine stepY (y_move rfl) rfl ?_ | refine stepY (y_loadA rfl rfl rfl) rfl ?_ | refine stepY (y_fieldAddr rfl) rfl ?_ | refine stepY (y_not rfl) rfl ?_ | refine stepY (y_pick_f rfl rfl) rfl ?_)
    refine call_ Try.func26 rfl rfl (s4) rfl (by repeat (first | exact .refl _ | apply Les.cons | exact .nil)) rfl ?_
    repeat (first | refine guard_t rfl rfl rfl ?_ | refine stepY (y_move rfl) rfl ?_ | refine stepY (y_loadA rfl rfl rfl) rfl ?_ | refine stepY (y_not rfl) rfl ?_ | refine stepY (y_pick_f rfl rfl) rfl ?_)
    refine call_ Try.func15 rfl rfl (v1) rfl (by repeat (first | exact .refl _ | apply Les.cons | exact .nil)) rfl ?_
    repeat (first | refine guard_t rfl rfl rfl ?_ | refine stepY (y_move rfl) rfl ?_ | refine stepY (y_loadA rfl rfl rfl) rfl ?_ | refine stepY (y_not rfl) rfl ?_ | refine stepY (y_pick_f rfl rfl) rfl ?_)
    refine call_ Try.func15 rfl rfl (v2) rfl (by repeat (first | exact .refl _ | apply Les.cons | exact .nil)) rfl ?_
    repeat (first | refine seq_ ?_ | refine region_ ?_ | refine nil_ ?_ | refine skip_ ?_ | refine cond_f rfl ?_ | refine guard_t rfl rfl rfl ?_ | refine stepY (y_loadA rfl rfl rfl) rfl ?_ | refine stepY (y_not rfl) rfl ?_ | refine stepY (y_pick_f rfl rfl) rfl ?_)
    refine call_ Try.func27 rfl rfl (r1) rfl (by repeat (first | exact .refl _ | apply Les.cons | exact .nil)) rfl ?_
    repeat (first | refine seq_ ?_ | refine region_ ?_ | refine nil_ ?_ | refine stepY (y_move rfl) rfl ?_ | refine stepY (y_assign rfl) rfl ?_ | refine stepY (y_loadA rfl rfl rfl) rfl ?_ | refine stepY (y_extract rfl rfl) rfl ?_ | refine stepE (e_alloc rfl rfl rfl) ?_ | refine stepE (e_store rfl rfl rfl rfl rfl rfl rfl) ?_)
    refine call_ Try.func20 rfl rfl (c1) rfl (by repeat (first | exact .refl _ | apply Les.cons | exact .nil)) rfl ?_
    repeat (first | refine seq_ ?_ | refine region_ ?_ | refine nil_ ?_ | refine cond_t rfl ?_ | refine guard_t rfl rfl rfl ?_ | refine stepY (y_move rfl) rfl ?_ | refine stepY (y_assign rfl) rfl ?_ | refine stepY (y_extract rfl rfl) rfl ?_ | refine stepY (y_cmpT rfl rfl rfl (by omega)) rfl ?_ | refine stepY (y_cmpT rfl rfl rfl (by omega)) rfl ?_)
    refine call_ Try.func10 rfl rfl (exampleHolds_c) rfl (by repeat (exact .nil)) rfl ?_
    repeat (first | refine nil_ ?_ | refine ret_ ?_ | refine stepY (y_assign rfl) rfl ?_ | refine stepY (y_pick_t rfl rfl) rfl ?_)
    ((apply fin_r); (repeat (first | exact .nil | exact .tmp rfl | apply ResL.cons)); (repeat (exact .refl _)))
  have r1 := Simplest_q x y hx0 hy0 hxy
  have hS := smp_simp hxy
  have ho : ¬ 0 < qcmp x y := by
    have := (qcmp_le x y).2 hxy
    omega
  generalize smp x y = X at *
  have hmin := hS.min x Rat.le_refl hxy
  have hX : okB 1 X := ⟨Nat.le_trans (ln_mono hmin.2) hx.1, Nat.le_trans (ln_mono hmin.1) hx.2⟩
  have hX0 := hX.ok (by decide)
  have c2 := FCmp_q x X hx0 hX0
  have c3 := FCmp_q X y hX0 hy0
  have h2 : ¬ 0 < qcmp x X := by have := (qcmp_le _ _).2 hS.lo; omega
  have h3 : ¬ 0 < qcmp X y := by have := (qcmp_le _ _).2 hS.hi; omega
  have hins := fun d hd hs => not_inside hS (d := d) hd hs
  have hlp := ln_pos.2 X.den_pos
  have hX2 := hX.2
  have hl1 : ln X.den = 1 := by omega
  have hld : ((limbs X.den).length : Int) = 1 := by rw [limbs_length, hl1]; rfl
  have hln : ((limbs X.num.natAbs).length : Int) = ln X.num.natAbs := by rw [limbs_length]
  have hrd := dg_one hl1
  have hBd : X.den < 4294967296 := by
    have := ln_le.1 hX2
    unfold B at this
    simpa using this
  have hdn : ((X.den : Int) : Rat) ≠ 0 := fun h => by
    have h1 := congrArg Rat.num h
    have : (X.den : Int) = 0 := h1
    have := X.den_pos
    omega
  have ost := of_c (-1) 1 (by omega) (by omega) (by omega)
  have osp := of_c 1 1 (by omega) (by omega) (by omega)
  generalize qcmp x y = o1 at *
  generalize qcmp x X = o2 at *
  generalize qcmp X y = o3 at *
  refine con_of Try.func7 rfl rfl rfl rfl rfl ?_
  repeat (first | refine seq_ ?_ | refine region_ ?_ | refine nil_ ?_ | refine stepY (y_assign rfl) rfl ?_ | refine stepY (y_loadA rfl rfl rfl) rfl ?_ | refine stepY (y_fieldAddr rfl) rfl ?_ | refine stepE (e_box rfl rfl rfl rfl rfl rfl) ?_)
  refine call_ Try.func26 rfl rfl (s1) rfl (by repeat (first | exact .refl _ | apply Les.cons | exact .nil)) rfl ?_
  repeat (first | refine guard_t rfl rfl rfl ?_ | refine stepY (y_move rfl) rfl ?_ | refine stepY (y_loadA rfl rfl rfl) rfl ?_ | refine stepY (y_fieldAddr rfl) rfl ?_ | refine stepY (y_not rfl) rfl ?_)
  refine call_ Try.func26 rfl rfl (s2) rfl (by repeat (first | exact .refl _ | apply Les.cons | exact .nil)) rfl ?_
  repeat (first | refine guard_t rfl rfl rfl ?_ | refine stepY (y_move rfl) rfl ?_ | refine stepY (y_loadA rfl rfl rfl) rfl ?_ | refine stepY (y_fieldAddr rfl) rfl ?_ | refine stepY (y_not rfl) rfl ?_ | refine stepY (y_pick_f rfl rfl) rfl ?_)
  refine call_ Try.func26 rfl rfl (s3) rfl (by repeat (first | exact .refl _ | apply Les.cons | exact .nil)) rfl ?_
  repeat (first | refine guard_t rfl rfl rfl ?_ | refine stepY (y_move rfl) rfl ?_ | refine stepY (y_loadA rfl rfl rfl) rfl ?_ | refine stepY (y_fieldAddr rfl) rfl ?_ | refine stepY (y_not rfl) rfl ?_ | refine stepY (y_pick_f rfl rfl) rfl ?_)
  refine call_ Try.func26 rfl rfl (s4) rfl (by repeat (first | exact .refl _ | apply Les.cons | exact .nil)) rfl ?_
  repeat (first | refine guard_t rfl rfl rfl ?_ | refine stepY (y_move rfl) rfl ?_ | refine stepY (y_loadA rfl rfl rfl) rfl ?_ | refine stepY (y_not rfl) rfl ?_ | refine stepY (y_pick_f rfl rfl) rfl ?_)
  refine call_ Try.func15 rfl rfl (v1) rfl (by repeat (first | exact .refl _ | apply Les.cons | exact .nil)) rfl ?_
  repeat (first | refine guard_t rfl rfl rfl ?_ | refine stepY (y_move rfl) rfl ?_ | refine stepY (y_loadA rfl rfl rfl) rfl ?_ | refine stepY (y_not rfl) rfl ?_ | refine stepY (y_pick_f rfl rfl) rfl ?_)
  refine call_ Try.func15 rfl rfl (v2) rfl (by repeat (first | exact .refl _ | apply Les.cons | exact .nil)) rfl ?_
  repeat (first | refine seq_ ?_ | refine region_ ?_ | refine nil_ ?_ | refine skip_ ?_ | refine cond_f rfl ?_ | refine guard_t rfl rfl rfl ?_ | refine stepY (y_loadA rfl rfl rfl) rfl ?_ | refine stepY (y_not rfl) rfl ?_ | refine stepY (y_pick_f rfl rfl) rfl ?_)
  refine call_ Try.func27 rfl rfl (r1) rfl (by repeat (first | exact .refl _ | apply Les.cons | exact .nil)) rfl ?_
  repeat (first | refine seq_ ?_ | refine region_ ?_ | refine nil_ ?_ | refine stepY (y_move rfl) rfl ?_ | refine stepY (y_assign rfl) rfl ?_ | refine stepY (y_loadA rfl rfl rfl) rfl ?_ | refine stepY (y_extract rfl rfl) rfl ?_ | refine stepE (e_alloc rfl rfl rfl) ?_ | refine stepE (e_store rfl rfl rfl rfl rfl rfl rfl) ?_)
  refine call_ Try.func20 rfl rfl (c1) rfl (by repeat (first | exact .refl _ | apply Les.cons | exact .nil)) rfl ?_
  repeat (first | refine seq_ ?_ | refine region_ ?_ | refine nil_ ?_ | refine skip_ ?_ | refine cond_f rfl ?_ | refine stepY (y_move rfl) rfl ?_ | refine stepY (y_assign rfl) rfl ?_ | refine stepY (y_loadA rfl rfl rfl) rfl ?_ | refine stepY (y_extract rfl rfl) rfl ?_ | refine stepY (y_cmpF rfl rfl rfl (by omega)) rfl ?_)
  refine call_ Try.func20 rfl rfl (c2) rfl (by repeat (first | exact .refl _ | exact .tag _ _ | apply Le.ag | apply Les.cons | exact .nil)) rfl ?_
  repeat (first | refine seq_ ?_ | refine region_ ?_ | refine nil_ ?_ | refine stepY (y_move rfl) rfl ?_ | refine stepY (y_assign rfl) rfl ?_ | refine stepY (y_loadA rfl rfl rfl) rfl ?_ | refine stepY (y_extract rfl rfl) rfl ?_)
  refine call_ Try.func20 rfl rfl c3 rfl (by repeat (first | exact .refl _ | exact .tag _ _ | apply Le.ag | apply Les.cons | exact .nil)) rfl ?_
  repeat (first | refine nil_ ?_ | refine stepY (y_move rfl) rfl ?_ | refine stepY (y_assign rfl) rfl ?_ | refine stepY (y_extract rfl rfl) rfl ?_)
  refine seq_ ?_
  refine seq_ ?_
  repeat (first | refine region_ ?_ | refine nil_ ?_ | refine skip_ ?_ | refine cond_f rfl ?_ | refine guard_t rfl rfl rfl ?_ | refine stepY (y_move rfl) rfl ?_ | refine stepY (y_load1 rfl rfl rfl) rfl ?_ | refine stepY (y_fieldAddr rfl) rfl ?_ | refine stepY (y_len_si rfl) rfl ?_ | refine stepY (y_pick_f rfl rfl) rfl ?_ | refine stepY (y_cmpF rfl rfl rfl (by omega)) rfl ?_ | refine stepY (y_cmpF rfl rfl rfl (by omega)) rfl ?_)
  refine seq_ (cut_ [(2, .ptr 2 0), (3, .ptr 3 0), (5, .ptr 5 0)] [(2, .bx [Bo (decide (x.num < 0)), M x.num.natAbs, Bo false, M x.den]), (3, .bx [Bo (decide (y.num < 0)), M y.num.natAbs, Bo false, M y.den]), (5, .bx [Bo (decide (X.num < 0)), FM X.num.natAbs, Bo false, FM X.den])] ?_ ?_)
  · repeat (first | refine seq_ ?_ | refine region_ ?_ | refine nil_ ?_ | refine block_ ?_ | refine stepY (y_assign rfl) rfl ?_)
    refine loop_ (α := Nat) (fun d => ([(2, .ptr 2 0), (3, .ptr 3 0), (5, .ptr 5 0), (13, .p (I (d : Int)))], [(2, .bx [Bo (decide (x.num < 0)), M x.num.natAbs, Bo false, M x.den]), (3, .bx [Bo (decide (y.num < 0)), M y.num.natAbs, Bo false, M y.den]), (5, .bx [Bo (decide (X.num < 0)), FM X.num.natAbs, Bo false, FM X.den])])) (fun d => 1 ≤ d ∧ d ≤ 301) (fun d => 301 - d) 1 ⟨Nat.le_refl _, by decide⟩ ?_ ?_ ?_
    · (repeat (first | exact sub_nil | refine sub_cons rfl ?_))
    · (repeat (first | exact subH_nil | refine subH_cons rfl ?_))
    intro d ⟨hd1, hd2⟩
    by_cases hd3 : d ≤ 300
    · by_cases hd4 : d < X.den
      · have hi := inside_f x y d hx hy hd1 hd3 (hins d hd1 hd4)
        repeat (first | refine seq_ ?_ | refine region_ ?_ | refine nil_ ?_ | refine skip_ ?_ | refine block_ ?_ | refine cond_t rfl ?_ | refine guard_t rfl rfl rfl ?_ | refine stepY (y_move rfl) rfl ?_ | (first | refine stepY (y_load1 rfl rfl rfl) rfl ?_ | refine stepY (y_loadA rfl rfl rfl) rfl ?_ | refine stepY (y_load_rc1 rfl rfl) rfl ?_) | refine stepY (y_fieldAddr rfl) rfl ?_ | refine stepY (y_convn rfl (by simp only [InK, loK, hiK]; omega)) rfl ?_ | refine stepY (y_pick_t rfl rfl) rfl ?_ | refine stepY (y_index_si rfl rfl (by omega) (by omega)) rfl ?_ | refine stepY (y_cmpT rfl rfl rfl (by omega)) rfl ?_ | refine stepY (y_cmpT rfl rfl rfl (by omega)) rfl ?_)
        refine call_ Try.func28 rfl rfl (hi) rfl (by repeat (first | exact .refl _ | apply Les.cons | exact .nil)) rfl ?_
        repeat (first | refine region_ ?_ | refine nil_ ?_ | refine skip_ ?_ | refine cond_f rfl ?_ | refine stepY (y_move rfl) rfl ?_ | refine stepY (y_assign rfl) rfl ?_ | refine stepY (y_binn rfl rfl rfl (by simp only [InK, loK, hiK]; omega)) rfl ?_)
        refine ⟨d + 1, ⟨by omega, by omega⟩, by omega, ?_, ?_⟩ <;> (repeat (first | exact sub_nil | exact subH_nil | refine sub_cons rfl ?_ | refine subH_cons rfl ?_))
      · repeat (first | refine seq_ ?_ | refine region_ ?_ | refine nil_ ?_ | refine exit_ ?_ | refine cond_f rfl ?_ | refine guard_t rfl rfl rfl ?_ | refine stepY (y_move rfl) rfl ?_ | (first | refine stepY (y_load1 rfl rfl rfl) rfl ?_ | refine stepY (y_load_rc1 rfl rfl) rfl ?_) | refine stepY (y_fieldAddr rfl) rfl ?_ | refine stepY (y_convn rfl (by simp only [InK, loK, hiK]; omega)) rfl ?_ | refine stepY (y_pick_t rfl rfl) rfl ?_ | refine stepY (y_index_si rfl rfl (by omega) (by omega)) rfl ?_ | refine stepY (y_cmpF rfl rfl rfl (by omega)) rfl ?_ | refine stepY (y_cmpT rfl rfl rfl (by omega)) rfl ?_)
        exact ⟨rfl, by (repeat (first | exact sub_nil | refine sub_cons rfl ?_)), by (repeat (first | exact subH_nil | refine subH_cons rfl ?_))⟩
    · repeat (first | refine seq_ ?_ | refine region_ ?_ | refine nil_ ?_ | refine exit_ ?_ | refine cond_f rfl ?_ | refine guard_f rfl rfl rfl rfl ?_ | refine stepY (y_move rfl) rfl ?_ | refine stepY (y_pick_f rfl rfl) rfl ?_ | refine stepY (y_cmpF rfl rfl rfl (by omega)) rfl ?_)
      exact ⟨rfl, by (repeat (first | exact sub_nil | refine sub_cons rfl ?_)), by (repeat (first | exact subH_nil | refine subH_cons rfl ?_))⟩
  by_cases hz : X.num = 0
  · have hz0 : ln X.num.natAbs = 0 := by rw [hz]; rfl
    repeat (first | refine seq_ ?_ | refine region_ ?_ | refine nil_ ?_ | refine cond_t rfl ?_ | refine stepY (y_load1 rfl rfl rfl) rfl ?_ | refine stepY (y_fieldAddr rfl) rfl ?_ | refine stepY (y_len_si rfl) rfl ?_ | refine stepY (y_cmpT rfl rfl rfl (by omega)) rfl ?_)
    refine call_ Try.func10 rfl rfl (exampleHolds_c) rfl (by repeat (exact .nil)) rfl ?_
    repeat (first | refine nil_ ?_ | refine ret_ ?_ | refine stepY (y_assign rfl) rfl ?_)
    ((apply fin_r); (repeat (first | exact .nil | exact .tmp rfl | apply ResL.cons)); (repeat (exact .refl _)))
  · have hz0 := ln_pos.2 (show 0 < X.num.natAbs by omega)
    repeat (first | refine seq_ ?_ | refine region_ ?_ | refine nil_ ?_ | refine skip_ ?_ | refine cond_f rfl ?_ | refine stepY (y_load1 rfl rfl rfl) rfl ?_ | refine stepY (y_fieldAddr rfl) rfl ?_ | refine stepY (y_len_si rfl) rfl ?_ | refine stepY (y_cmpF rfl rfl rfl (by omega)) rfl ?_)
    refine call_ Try.func29 rfl rfl (ost) rfl (by repeat (first | exact .refl _ | apply Les.cons | exact .nil)) rfl ?_
    repeat (first | refine seq_ ?_ | refine region_ ?_ | refine nil_ ?_ | refine stepY (y_load1 rfl rfl rfl) rfl ?_ | refine stepY (y_fieldAddr rfl) rfl ?_ | refine stepE (e_alloc rfl rfl rfl) ?_ | refine stepE (e_store rfl rfl rfl rfl rfl rfl rfl) ?_)
    refine cond_d rfl (fun hneg => ?_) (fun hneg => ?_)
    · have hpx : okB 1 (mkRat (sgn false 1) X.den) := okB_mk X.den_pos (by decide) hX.2
      obtain ⟨q1, q2⟩ := unit_q false X
      have u1 := FDiv_q (Q_ (sgn false 1) 1) ((X.den : Int) : Rat) (okQ_div _ _ (by decide) (by decide) (by decide)) ((okB_int (k := 1) (by rw [Int.natAbs_natCast]; exact hX.2) (by decide)).ok (by decide)) hdn
      rw [q1, resQ_ok (hpx.ok (by decide))] at u1
      have a1 := Add_b hX hpx (by decide)
      have hnear := okB_add hX hpx
      have hout := nearer_out hS false (.inl ⟨rfl, hneg⟩)
      rw [q2] at a1 hnear
      have c4 := FCmp_q x _ hx0 (hnear.ok (by decide))
      have c5 := FCmp_q _ y (hnear.ok (by decide)) hy0
      generalize mkRat (X.num + sgn false 1) X.den = W at *
      generalize qcmp x W = g1 at *
      generalize qcmp W y = g2 at *
      repeat (refine region_ ?_)
      refine call_ Try.func29 rfl rfl (osp) rfl (by repeat (first | exact .refl _ | apply Les.cons | exact .nil)) rfl ?_
      repeat (first | refine seq_ ?_ | refine region_ ?_ | refine nil_ ?_ | refine stepY (y_loadA rfl rfl rfl) rfl ?_ | refine stepY (y_fieldAddr rfl) rfl ?_ | refine stepY (y_build rfl rfl rfl) rfl ?_ | refine stepE (e_store rfl rfl rfl rfl rfl rfl rfl) ?_)
      by_cases hg : 0 < g1
      · refine call_ Try.func25 rfl rfl (u1) rfl (by repeat (first | exact .refl _ | exact .tag _ _ | apply Le.ag | apply Les.cons | exact .nil)) rfl ?_
        repeat (first | refine seq_ ?_ | refine region_ ?_ | refine nil_ ?_ | refine stepY (y_move rfl) rfl ?_ | refine stepY (y_assign rfl) rfl ?_ | refine stepY (y_loadA rfl rfl rfl) rfl ?_ | refine stepY (y_extract rfl rfl) rfl ?_ | refine stepE (e_alloc rfl rfl rfl) ?_ | refine stepE (e_store rfl rfl rfl rfl rfl rfl rfl) ?_)
        refine call_ Try.func23 rfl rfl (a1) rfl (by repeat (first | exact .refl _ | exact .tag _ _ | apply Le.ag | apply Les.cons | exact .nil)) rfl ?_
        repeat (first | refine seq_ ?_ | refine region_ ?_ | refine nil_ ?_ | refine stepY (y_move rfl) rfl ?_ | refine stepY (y_assign rfl) rfl ?_ | refine stepY (y_loadA rfl rfl rfl) rfl ?_ | refine stepY (y_extract rfl rfl) rfl ?_ | refine stepE (e_alloc rfl rfl rfl) ?_ | refine stepE (e_store rfl rfl rfl rfl rfl rfl rfl) ?_)
        refine call_ Try.func20 rfl rfl (c4) rfl (by repeat (first | exact .refl _ | exact .tag _ _ | apply Le.ag | apply Les.cons | exact .nil)) rfl ?_
        repeat (first | refine seq_ ?_ | refine region_ ?_ | refine nil_ ?_ | refine stepY (y_move rfl) rfl ?_ | refine stepY (y_assign rfl) rfl ?_ | refine stepY (y_loadA rfl rfl rfl) rfl ?_ | refine stepY (y_extract rfl rfl) rfl ?_)
        refine call_ Try.func20 rfl rfl (c5) rfl (by repeat (first | exact .refl _ | exact .tag _ _ | apply Le.ag | apply Les.cons | exact .nil)) rfl ?_
        repeat (first | refine seq_ ?_ | refine region_ ?_ | refine nil_ ?_ | refine guard_t rfl rfl rfl ?_ | refine guard_f rfl rfl rfl rfl ?_ | refine stepY (y_move rfl) rfl ?_ | refine stepY (y_assign rfl) rfl ?_ | refine stepY (y_extract rfl rfl) rfl ?_ | refine stepY (y_pick_t rfl rfl) rfl ?_ | refine stepY (y_cmpT rfl rfl rfl (by omega)) rfl ?_)
        refine call_ Try.func10 rfl rfl (exampleHolds_c) rfl (by repeat (exact .nil)) rfl ?_
        repeat (first | refine nil_ ?_ | refine ret_ ?_ | refine stepY (y_assign rfl) rfl ?_ | refine stepY (y_pick_t rfl rfl) rfl ?_)
        ((apply fin_r); (repeat (first | exact .nil | exact .tmp rfl | apply ResL.cons)); (repeat (exact .refl _)))
      · have hg2 : 0 < g2 := by
          rcases hout with h | h
          · exact absurd h hg
          · exact h
        refine call_ Try.func25 rfl rfl (u1) rfl (by repeat (first | exact .refl _ | exact .tag _ _ | apply Le.ag | apply Les.cons | exact .nil)) rfl ?_
        repeat (first | refine seq_ ?_ | refine region_ ?_ | refine nil_ ?_ | refine stepY (y_move rfl) rfl ?_ | refine stepY (y_assign rfl) rfl ?_ | refine stepY (y_loadA rfl rfl rfl) rfl ?_ | refine stepY (y_extract rfl rfl) rfl ?_ | refine stepE (e_alloc rfl rfl rfl) ?_ | refine stepE (e_store rfl rfl rfl rfl rfl rfl rfl) ?_)
        refine call_ Try.func23 rfl rfl (a1) rfl (by repeat (first | exact .refl _ | exact .tag _ _ | apply Le.ag | apply Les.cons | exact .nil)) rfl ?_
        repeat (first | refine seq_ ?_ | refine region_ ?_ | refine nil_ ?_ | refine stepY (y_move rfl) rfl ?_ | refine stepY (y_assign rfl) rfl ?_ | refine stepY (y_loadA rfl rfl rfl) rfl ?_ | refine stepY (y_extract rfl rfl) rfl ?_ | refine stepE (e_alloc rfl rfl rfl) ?_ | refine stepE (e_store rfl rfl rfl rfl rfl rfl rfl) ?_)
        refine call_ Try.func20 rfl rfl (c4) rfl (by repeat (first | exact .refl _ | exact .tag _ _ | apply Le.ag | apply Les.cons | exact .nil)) rfl ?_
        repeat (first | refine seq_ ?_ | refine region_ ?_ | refine nil_ ?_ | refine stepY (y_move rfl) rfl ?_ | refine stepY (y_assign rfl) rfl ?_ | refine stepY (y_loadA rfl rfl rfl) rfl ?_ | refine stepY (y_extract rfl rfl) rfl ?_)
        refine call_ Try.func20 rfl rfl (c5) rfl (by repeat (first | exact .refl _ | exact .tag _ _ | apply Le.ag | apply Les.cons | exact .nil)) rfl ?_
        repeat (first | refine seq_ ?_ | refine region_ ?_ | refine nil_ ?_ | refine guard_t rfl rfl rfl ?_ | refine stepY (y_move rfl) rfl ?_ | refine stepY (y_assign rfl) rfl ?_ | refine stepY (y_extract rfl rfl) rfl ?_ | refine stepY (y_pick_f rfl rfl) rfl ?_ | (first | refine stepY (y_cmpT rfl rfl rfl (by omega)) rfl ?_ | refine stepY (y_cmpF rfl rfl rfl (by omega)) rfl ?_))
        refine call_ Try.func10 rfl rfl (exampleHolds_c) rfl (by repeat (exact .nil)) rfl ?_
        repeat (first | refine nil_ ?_ | refine ret_ ?_ | refine stepY (y_assign rfl) rfl ?_ | refine stepY (y_pick_t rfl rfl) rfl ?_)
        ((apply fin_r); (repeat (first | exact .nil | exact .tmp rfl | apply ResL.cons)); (repeat (exact .refl _)))
    · have hpx : okB 1 (mkRat (sgn true 1) X.den) := okB_mk X.den_pos (by decide) hX.2
      obtain ⟨q1, q2⟩ := unit_q true X
      have u1 := FDiv_q (Q_ (sgn true 1) 1) ((X.den : Int) : Rat) (okQ_div _ _ (by decide) (by decide) (by decide)) ((okB_int (k := 1) (by rw [Int.natAbs_natCast]; exact hX.2) (by decide)).ok (by decide)) hdn
      rw [q1, resQ_ok (hpx.ok (by decide))] at u1
      have a1 := Add_b hX hpx (by decide)
      have hnear := okB_add hX hpx
      have hout := nearer_out hS true (.inr ⟨rfl, by omega⟩)
      rw [q2] at a1 hnear
      have c4 := FCmp_q x _ hx0 (hnear.ok (by decide))
      have c5 := FCmp_q _ y (hnear.ok (by decide)) hy0
      generalize mkRat (X.num + sgn true 1) X.den = W at *
      generalize qcmp x W = g1 at *
      generalize qcmp W y = g2 at *
      repeat (first | refine seq_ ?_ | refine region_ ?_ | refine skip_ ?_ | refine stepY (y_loadA rfl rfl rfl) rfl ?_ | refine stepY (y_fieldAddr rfl) rfl ?_ | refine stepY (y_build rfl rfl rfl) rfl ?_)
      by_cases hg : 0 < g1
      · refine call_ Try.func25 rfl rfl (u1) rfl (by repeat (first | exact .refl _ | exact .tag _ _ | apply Le.ag | apply Les.cons | exact .nil)) rfl ?_
        repeat (first | refine seq_ ?_ | refine region_ ?_ | refine nil_ ?_ | refine stepY (y_move rfl) rfl ?_ | refine stepY (y_assign rfl) rfl ?_ | refine stepY (y_loadA rfl rfl rfl) rfl ?_ | refine stepY (y_extract rfl rfl) rfl ?_ | refine stepE (e_alloc rfl rfl rfl) ?_ | refine stepE (e_store rfl rfl rfl rfl rfl rfl rfl) ?_)
        refine call_ Try.func23 rfl rfl (a1) rfl (by repeat (first | exact .refl _ | exact .tag _ _ | apply Le.ag | apply Les.cons | exact .nil)) rfl ?_
        repeat (first | refine seq_ ?_ | refine region_ ?_ | refine nil_ ?_ | refine stepY (y_move rfl) rfl ?_ | refine stepY (y_assign rfl) rfl ?_ | refine stepY (y_loadA rfl rfl rfl) rfl ?_ | refine stepY (y_extract rfl rfl) rfl ?_ | refine stepE (e_alloc rfl rfl rfl) ?_ | refine stepE (e_store rfl rfl rfl rfl rfl rfl rfl) ?_)
        refine call_ Try.func20 rfl rfl (c4) rfl (by repeat (first | exact .refl _ | exact .tag _ _ | apply Le.ag | apply Les.cons | exact .nil)) rfl ?_
        repeat (first | refine seq_ ?_ | refine region_ ?_ | refine nil_ ?_ | refine stepY (y_move rfl) rfl ?_ | refine stepY (y_assign rfl) rfl ?_ | refine stepY (y_loadA rfl rfl rfl) rfl ?_ | refine stepY (y_extract rfl rfl) rfl ?_)
        refine call_ Try.func20 rfl rfl (c5) rfl (by repeat (first | exact .refl _ | exact .tag _ _ | apply Le.ag | apply Les.cons | exact .nil)) rfl ?_
        repeat (first | refine seq_ ?_ | refine region_ ?_ | refine nil_ ?_ | refine guard_t rfl rfl rfl ?_ | refine guard_f rfl rfl rfl rfl ?_ | refine stepY (y_move rfl) rfl ?_ | refine stepY (y_assign rfl) rfl ?_ | refine stepY (y_extract rfl rfl) rfl ?_ | refine stepY (y_pick_t rfl rfl) rfl ?_ | refine stepY (y_cmpT rfl rfl rfl (by omega)) rfl ?_)
        refine call_ Try.func10 rfl rfl (exampleHolds_c) rfl (by repeat (exact .nil)) rfl ?_
        repeat (first | refine nil_ ?_ | refine ret_ ?_ | refine stepY (y_assign rfl) rfl ?_ | refine stepY (y_pick_t rfl rfl) rfl ?_)
        ((apply fin_r); (repeat (first | exact .nil | exact .tmp rfl | apply ResL.cons)); (repeat (exact .refl _)))
      · have hg2 : 0 < g2 := by
          rcases hout with h | h
          · exact absurd h hg
          · exact h
        refine call_ Try.func25 rfl rfl (u1) rfl (by repeat (first | exact .refl _ | exact .tag _ _ | apply Le.ag | apply Les.cons | exact .nil)) rfl ?_
        repeat (first | refine seq_ ?_ | refine region_ ?_ | refine nil_ ?_ | refine stepY (y_move rfl) rfl ?_ | refine stepY (y_assign rfl) rfl ?_ | refine stepY (y_loadA rfl rfl rfl) rfl ?_ | refine stepY (y_extract rfl rfl) rfl ?_ | refine stepE (e_alloc rfl rfl rfl) ?_ | refine stepE (e_store rfl rfl rfl rfl rfl rfl rfl) ?_)
        refine call_ Try.func23 rfl rfl (a1) rfl (by repeat (first | exact .refl _ | exact .tag _ _ | apply Le.ag | apply Les.cons | exact .nil)) rfl ?_
        repeat (first | refine seq_ ?_ | refine region_ ?_ | refine nil_ ?_ | refine stepY (y_move rfl) rfl ?_ | refine stepY (y_assign rfl) rfl ?_ | refine stepY (y_loadA rfl rfl rfl) rfl ?_ | refine stepY (y_extract rfl rfl) rfl ?_ | refine stepE (e_alloc rfl rfl rfl) ?_ | refine stepE (e_store rfl rfl rfl rfl rfl rfl rfl) ?_)
        refine call_ Try.func20 rfl rfl (c4) rfl (by repeat (first | exact .refl _ | exact .tag _ _ | apply Le.ag | apply Les.cons | exact .nil)) rfl ?_
        repeat (first | refine seq_ ?_ | refine region_ ?_ | refine nil_ ?_ | refine stepY (y_move rfl) rfl ?_ | refine stepY (y_assign rfl) rfl ?_ | refine stepY (y_loadA rfl rfl rfl) rfl ?_ | refine stepY (y_extract rfl rfl) rfl ?_)
        refine call_ Try.func20 rfl rfl (c5) rfl (by repeat (first | exact .refl _ | exact .tag _ _ | apply Le.ag | apply Les.cons | exact .nil)) rfl ?_
        repeat (first | refine seq_ ?_ | refine region_ ?_ | refine nil_ ?_ | refine guard_t rfl rfl rfl ?_ | refine stepY (y_move rfl) rfl ?_ | refine stepY (y_assign rfl) rfl ?_ | refine stepY (y_extract rfl rfl) rfl ?_ | refine stepY (y_pick_f rfl rfl) rfl ?_ | (first | refine stepY (y_cmpT rfl rfl rfl (by omega)) rfl ?_ | refine stepY (y_cmpF rfl rfl rfl (by omega)) rfl ?_))
        refine call_ Try.func10 rfl rfl (exampleHolds_c) rfl (by repeat (exact .nil)) rfl ?_
        repeat (first | refine nil_ ?_ | refine ret_ ?_ | refine stepY (y_assign rfl) rfl ?_ | refine stepY (y_pick_t rfl rfl) rfl ?_)
        ((apply fin_r); (repeat (first | exact .nil | exact .tmp rfl | apply ResL.cons)); (repeat (exact .refl _)))
end Go.Av

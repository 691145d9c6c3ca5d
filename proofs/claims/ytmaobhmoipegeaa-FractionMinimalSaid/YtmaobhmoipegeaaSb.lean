/- Contracts behind a law: no conditions beyond those in each statement. -/
import Derived.Test.YtmaobhmoipegeaaSa
set_option maxHeartbeats 8000000
set_option exponentiation.threshold 100000
set_option maxRecDepth 100000
set_option linter.unusedVariables false
set_option linter.unusedSimpArgs false
namespace Go.Av
open Go Go.Proofs
/-! FractionOrder -/
theorem SameInt_g (p p' : Bool) (m m' : Nat) : Con Try.prog 48 [SV p m, SV p' m'] (Bo (decide (p = p' ∧ m = m'))) := by
  refine con_of Try.func48 rfl rfl rfl rfl rfl ?_
  refine len_Ca (i := 0) rfl fun hlim => ?_
  refine len_Ca (i := 1) rfl fun hlim2 => ?_
  have l1 : ((limbs m).length : Int) = ln m := by rw [limbs_length]
  have l2 : ((limbs m').length : Int) = ln m' := by rw [limbs_length]
  have hc := compare3_c m m'
  have main : ∀ b : Bool, Con Try.prog 72 [M m, M m'] (I (sg m m')) → True := fun _ _ => trivial
  by_cases hp : p = p'
  · subst hp
    by_cases hm : m = m'
    · subst hm
      rw [decide_eq_true ⟨rfl, rfl⟩]
      rw [sg_eq] at hc
      cases p
      · repeat (first | refine seq_ ?_ | refine region_ ?_ | refine nil_ ?_ | refine guard_t rfl rfl rfl ?_ | refine stepY (y_move rfl) rfl ?_ | refine stepY (y_assign rfl) rfl ?_ | refine stepY (y_load1 rfl rfl rfl) rfl ?_ | refine stepY (y_fieldAddr rfl) rfl ?_ | refine stepY (y_len_si rfl) rfl ?_ | refine stepY (y_pick_t rfl rfl) rfl ?_ | (first | refine stepY (y_cmpT rfl rfl rfl (by omega)) rfl ?_ | refine stepY (y_eqb rfl rfl) rfl ?_) | refine stepE (e_box rfl rfl rfl rfl rfl rfl) ?_)
        refine call_ Try.func72 rfl rfl (hc) rfl (by repeat (first | exact .refl _ | apply Les.cons | exact .nil)) rfl ?_
        repeat (first | refine nil_ ?_ | refine ret_ ?_ | refine guard_t rfl rfl rfl ?_ | refine stepY (y_assign rfl) rfl ?_ | refine stepY (y_pick_t rfl rfl) rfl ?_ | refine stepY (y_cmpT rfl rfl rfl (by omega)) rfl ?_)
        ((apply fin_r); (repeat (first | exact .nil | exact .tmp rfl | apply ResL.cons)); (repeat (exact .refl _)))
      · repeat (first | refine seq_ ?_ | refine region_ ?_ | refine nil_ ?_ | refine guard_t rfl rfl rfl ?_ | refine stepY (y_move rfl) rfl ?_ | refine stepY (y_assign rfl) rfl ?_ | refine stepY (y_load1 rfl rfl rfl) rfl ?_ | refine stepY (y_fieldAddr rfl) rfl ?_ | refine stepY (y_len_si rfl) rfl ?_ | refine stepY (y_pick_t rfl rfl) rfl ?_ | (first | refine stepY (y_cmpT rfl rfl rfl (by omega)) rfl ?_ | refine stepY (y_eqb rfl rfl) rfl ?_) | refine stepE (e_box rfl rfl rfl rfl rfl rfl) ?_)
        refine call_ Try.func72 rfl rfl (hc) rfl (by repeat (first | exact .refl _ | apply Les.cons | exact .nil)) rfl ?_
        repeat (first | refine nil_ ?_ | refine ret_ ?_ | refine guard_t rfl rfl rfl ?_ | refine stepY (y_assign rfl) rfl ?_ | refine stepY (y_pick_t rfl rfl) rfl ?_ | refine stepY (y_cmpT rfl rfl rfl (by omega)) rfl ?_)
        ((apply fin_r); (repeat (first | exact .nil | exact .tmp rfl | apply ResL.cons)); (repeat (exact .refl _)))
    · rw [decide_eq_false (fun h => hm h.2)]
      have hs : sg m m' ≠ 0 := by unfold sg; split <;> (try split) <;> omega
      by_cases hl : ln m = ln m'
      · cases p
        · repeat (first | refine seq_ ?_ | refine region_ ?_ | refine nil_ ?_ | refine guard_t rfl rfl rfl ?_ | refine stepY (y_move rfl) rfl ?_ | refine stepY (y_assign rfl) rfl ?_ | refine stepY (y_load1 rfl rfl rfl) rfl ?_ | refine stepY (y_fieldAddr rfl) rfl ?_ | refine stepY (y_len_si rfl) rfl ?_ | refine stepY (y_pick_t rfl rfl) rfl ?_ | (first | refine stepY (y_cmpT rfl rfl rfl (by omega)) rfl ?_ | refine stepY (y_eqb rfl rfl) rfl ?_) | refine stepE (e_box rfl rfl rfl rfl rfl rfl) ?_)
          refine call_ Try.func72 rfl rfl (hc) rfl (by repeat (first | exact .refl _ | apply Les.cons | exact .nil)) rfl ?_
          repeat (first | refine nil_ ?_ | refine ret_ ?_ | refine guard_t rfl rfl rfl ?_ | refine stepY (y_assign rfl) rfl ?_ | refine stepY (y_pick_t rfl rfl) rfl ?_ | refine stepY (y_cmpF rfl rfl rfl (by omega)) rfl ?_)
          ((apply fin_r); (repeat (first | exact .nil | exact .tmp rfl | apply ResL.cons)); (repeat (exact .refl _)))
        · repeat (first | refine seq_ ?_ | refine region_ ?_ | refine nil_ ?_ | refine guard_t rfl rfl rfl ?_ | refine stepY (y_move rfl) rfl ?_ | refine stepY (y_assign rfl) rfl ?_ | refine stepY (y_load1 rfl rfl rfl) rfl ?_ | refine stepY (y_fieldAddr rfl) rfl ?_ | refine stepY (y_len_si rfl) rfl ?_ | refine stepY (y_pick_t rfl rfl) rfl ?_ | (first | refine stepY (y_cmpT rfl rfl rfl (by omega)) rfl ?_ | refine stepY (y_eqb rfl rfl) rfl ?_) | refine stepE (e_box rfl rfl rfl rfl rfl rfl) ?_)
          refine call_ Try.func72 rfl rfl (hc) rfl (by repeat (first | exact .refl _ | apply Les.cons | exact .nil)) rfl ?_
          repeat (first | refine nil_ ?_ | refine ret_ ?_ | refine guard_t rfl rfl rfl ?_ | refine stepY (y_assign rfl) rfl ?_ | refine stepY (y_pick_t rfl rfl) rfl ?_ | refine stepY (y_cmpF rfl rfl rfl (by omega)) rfl ?_)
          ((apply fin_r); (repeat (first | exact .nil | exact .tmp rfl | apply ResL.cons)); (repeat (exact .refl _)))
      · cases p
        · repeat (first | refine seq_ ?_ | refine region_ ?_ | refine nil_ ?_ | refine ret_ ?_ | refine guard_t rfl rfl rfl ?_ | refine guard_f rfl rfl rfl rfl ?_ | refine stepY (y_move rfl) rfl ?_ | refine stepY (y_assign rfl) rfl ?_ | refine stepY (y_load1 rfl rfl rfl) rfl ?_ | refine stepY (y_fieldAddr rfl) rfl ?_ | refine stepY (y_len_si rfl) rfl ?_ | (first | refine stepY (y_pick_t rfl rfl) rfl ?_ | refine stepY (y_pick_f rfl rfl) rfl ?_) | (first | refine stepY (y_cmpF rfl rfl rfl (by omega)) rfl ?_ | refine stepY (y_eqb rfl rfl) rfl ?_) | refine stepE (e_box rfl rfl rfl rfl rfl rfl) ?_)
          ((apply fin_r); (repeat (first | exact .nil | exact .tmp rfl | apply ResL.cons)); (repeat (exact .refl _)))
        · repeat (first | refine seq_ ?_ | refine region_ ?_ | refine nil_ ?_ | refine ret_ ?_ | refine guard_t rfl rfl rfl ?_ | refine guard_f rfl rfl rfl rfl ?_ | refine stepY (y_move rfl) rfl ?_ | refine stepY (y_assign rfl) rfl ?_ | refine stepY (y_load1 rfl rfl rfl) rfl ?_ | refine stepY (y_fieldAddr rfl) rfl ?_ | refine stepY (y_len_si rfl) rfl ?_ | (first | refine stepY (y_pick_t rfl rfl) rfl ?_ | refine stepY (y_pick_f rfl rfl) rfl ?_) | (first | refine stepY (y_cmpF rfl rfl rfl (by omega)) rfl ?_ | refine stepY (y_eqb rfl rfl) rfl ?_) | refine stepE (e_box rfl rfl rfl rfl rfl rfl) ?_)
          ((apply fin_r); (repeat (first | exact .nil | exact .tmp rfl | apply ResL.cons)); (repeat (exact .refl _)))
  · rw [decide_eq_false (fun h => hp h.1)]
    cases p <;> cases p'
    · exact absurd rfl hp
    · repeat (first | refine seq_ ?_ | refine region_ ?_ | refine nil_ ?_ | refine ret_ ?_ | refine guard_f rfl rfl rfl rfl ?_ | refine stepY (y_move rfl) rfl ?_ | refine stepY (y_assign rfl) rfl ?_ | refine stepY (y_load1 rfl rfl rfl) rfl ?_ | refine stepY (y_fieldAddr rfl) rfl ?_ | refine stepY (y_pick_f rfl rfl) rfl ?_ | refine stepY (y_eqb rfl rfl) rfl ?_ | refine stepE (e_box rfl rfl rfl rfl rfl rfl) ?_)
      ((apply fin_r); (repeat (first | exact .nil | exact .tmp rfl | apply ResL.cons)); (repeat (exact .refl _)))
    · repeat (first | refine seq_ ?_ | refine region_ ?_ | refine nil_ ?_ | refine ret_ ?_ | refine guard_f rfl rfl rfl rfl ?_ | refine stepY (y_move rfl) rfl ?_ | refine stepY (y_assign rfl) rfl ?_ | refine stepY (y_load1 rfl rfl rfl) rfl ?_ | refine stepY (y_fieldAddr rfl) rfl ?_ | refine stepY (y_pick_f rfl rfl) rfl ?_ | refine stepY (y_eqb rfl rfl) rfl ?_ | refine stepE (e_box rfl rfl rfl rfl rfl rfl) ?_)
      ((apply fin_r); (repeat (first | exact .nil | exact .tmp rfl | apply ResL.cons)); (repeat (exact .refl _)))
    · exact absurd rfl hp
theorem Same_no (p p' : Bool) (m d m' d' : Nat) (h : ¬ (p = p' ∧ m = m' ∧ d = d')) : Con Try.prog 21 [GF p m d, GF p' m' d'] (Bo false) := by
  refine con_of Try.func21 rfl rfl rfl rfl rfl ?_
  have h1 := SameInt_g p p' m m'
  have h2 := SameInt_g false false d d'
  by_cases h3 : p = p' ∧ m = m'
  · rw [decide_eq_true h3] at h1
    rw [decide_eq_false (fun h4 => h ⟨h3.1, h3.2, h4.2⟩)] at h2
    repeat (first | refine seq_ ?_ | refine region_ ?_ | refine nil_ ?_ | refine stepY (y_assign rfl) rfl ?_ | refine stepY (y_loadA rfl rfl rfl) rfl ?_ | refine stepY (y_fieldAddr rfl) rfl ?_ | refine stepE (e_box rfl rfl rfl rfl rfl rfl) ?_)
    refine call_ Try.func48 rfl rfl (h1) rfl (by repeat (first | exact .refl _ | apply Les.cons | exact .nil)) rfl ?_
    repeat (first | refine guard_t rfl rfl rfl ?_ | refine stepY (y_move rfl) rfl ?_ | refine stepY (y_loadA rfl rfl rfl) rfl ?_ | refine stepY (y_fieldAddr rfl) rfl ?_)
    refine call_ Try.func48 rfl rfl (h2) rfl (by repeat (first | exact .refl _ | apply Les.cons | exact .nil)) rfl ?_
    repeat (first | refine nil_ ?_ | refine ret_ ?_ | refine stepY (y_assign rfl) rfl ?_ | refine stepY (y_pick_t rfl rfl) rfl ?_)
    ((apply fin_r); (repeat (first | exact .nil | exact .tmp rfl | apply ResL.cons)); (repeat (exact .refl _)))
  · rw [decide_eq_false h3] at h1
    repeat (first | refine seq_ ?_ | refine region_ ?_ | refine nil_ ?_ | refine stepY (y_assign rfl) rfl ?_ | refine stepY (y_loadA rfl rfl rfl) rfl ?_ | refine stepY (y_fieldAddr rfl) rfl ?_ | refine stepE (e_box rfl rfl rfl rfl rfl rfl) ?_)
    refine call_ Try.func48 rfl rfl (h1) rfl (by repeat (first | exact .refl _ | apply Les.cons | exact .nil)) rfl ?_
    repeat (first | refine nil_ ?_ | refine ret_ ?_ | refine guard_f rfl rfl rfl rfl ?_ | refine stepY (y_move rfl) rfl ?_ | refine stepY (y_assign rfl) rfl ?_ | refine stepY (y_pick_f rfl rfl) rfl ?_)
    ((apply fin_r); (repeat (first | exact .nil | exact .tmp rfl | apply ResL.cons)); (repeat (exact .refl _)))
theorem Same_ne (x y : Rat) (h : x ≠ y) : Con Try.prog 21 [QV x, QV y] (Bo false) := by
  refine Same_no _ _ _ _ _ _ fun ⟨h1, h2, h3⟩ => h ?_
  refine Rat.ext ?_ h3
  have h4 : (x.num < 0) ↔ (y.num < 0) := decide_eq_decide.1 h1
  omega
theorem le_eq' {x y : Rat} (h : x = y) : x ≤ y := h ▸ Rat.le_refl
theorem qcmp_cases (x y : Rat) : (x < y ∧ qcmp x y = -1) ∨ (x = y ∧ qcmp x y = 0) ∨ (y < x ∧ qcmp x y = 1) := by
  unfold qcmp
  by_cases a : x < y
  · exact .inl ⟨a, by rw [if_pos a]⟩
  · by_cases b : y < x
    · exact .inr (.inr ⟨b, by rw [if_neg a, if_pos b]⟩)
    · exact .inr (.inl ⟨Rat.le_antisymm (Rat.not_lt.1 b) (Rat.not_lt.1 a), by rw [if_neg a, if_neg b]⟩)
theorem qcmp_neg (x y : Rat) : qcmp y x = 0 - qcmp x y := by
  rcases qcmp_cases x y with ⟨h, e⟩ | ⟨h, e⟩ | ⟨h, e⟩ <;> rcases qcmp_cases y x with ⟨h2, e2⟩ | ⟨h2, e2⟩ | ⟨h2, e2⟩ <;> rw [e, e2] <;> first
    | rfl
    | exact absurd (Rat.le_of_lt h) (Rat.not_le.2 h2)
    | (subst h; exact absurd (Rat.le_refl) (Rat.not_le.2 h2))
    | (subst h2; exact absurd (Rat.le_refl) (Rat.not_le.2 h))
theorem qcmp_add (x y z : Rat) : qcmp (x + z) (y + z) = qcmp x y := by
  unfold qcmp
  simp only [Rat.add_lt_add_right]
theorem qcmp_le (x y : Rat) : qcmp x y ≤ 0 ↔ x ≤ y := by
  rcases qcmp_cases x y with ⟨h, e⟩ | ⟨h, e⟩ | ⟨h, e⟩ <;> rw [e]
  · exact ⟨fun _ => Rat.le_of_lt h, fun _ => by decide⟩
  · exact ⟨fun _ => by rw [h]; exact Rat.le_refl, fun _ => by decide⟩
  · exact ⟨fun h2 => absurd h2 (by decide), fun h2 => absurd h2 (Rat.not_le.2 h)⟩
theorem qcmp_eq (x y : Rat) : qcmp x y = 0 ↔ x = y := by
  rcases qcmp_cases x y with ⟨h, e⟩ | ⟨h, e⟩ | ⟨h, e⟩ <;> rw [e]
  · exact ⟨fun h2 => absurd h2 (by decide), fun h2 => absurd (le_eq' h2.symm) (Rat.not_le.2 h)⟩
  · exact ⟨fun _ => h, fun _ => rfl⟩
  · exact ⟨fun h2 => absurd h2 (by decide), fun h2 => absurd (le_eq' h2) (Rat.not_le.2 h)⟩
theorem sub_num (x y : Rat) : ((x - y).num < 0 ↔ x < y) ∧ ((x - y).num.natAbs = 0 ↔ x = y) := by
  have h1 := Rat.le_iff_sub_nonneg y x
  have h2 := Rat.le_iff_sub_nonneg x y
  have h3 := @Rat.num_nonneg (x - y)
  have h4 := @Rat.num_nonneg (y - x)
  have h5 : (y - x).num = -(x - y).num := by rw [← Rat.neg_num, Rat.neg_sub]
  constructor
  · rw [← Rat.not_le, h1, ← h3]
    omega
  · constructor
    · intro h
      exact Rat.le_antisymm (h2.2 (h4.1 (by omega))) (h1.2 (h3.1 (by omega)))
    · intro h
      subst h
      have a := h3.2 (h1.1 Rat.le_refl)
      have b := h4.2 (h2.1 Rat.le_refl)
      omega

theorem FOrder_c (p1 p2 p3 : Bool) (l1 l2 l3 : List Int) (q1 q2 q3 : Bool) (k1 k2 k3 : List Int) (hl1 : wf l1) (hk1 : wf k1) (hl2 : wf l2) (hk2 : wf k2) (hl3 : wf l3) (hk3 : wf k3) : Con Try.prog 6 [AF p1 l1 q1 k1, AF p2 l2 q2 k2, AF p3 l3 q3 k3] (Bo true) := by
  have t1 := tiny_c p1 l1 q1 k1
  have t2 := tiny_c p2 l2 q2 k2
  have t3 := tiny_c p3 l3 q3 k3
  have v1 := FValid_c p1 l1 q1 k1 hl1 hk1
  have v2 := FValid_c p2 l2 q2 k2 hl2 hk2
  have v3 := FValid_c p3 l3 q3 k3 hl3 hk3
  by_cases g1 : l1.length ≤ 3 ∧ k1.length ≤ 3
  case neg =>
    rw [decide_eq_false g1] at t1
    refine con_of Try.func6 rfl rfl rfl rfl rfl ?_
    repeat (first | refine seq_ ?_ | refine region_ ?_ | refine nil_ ?_ | refine stepY (y_assign rfl) rfl ?_ | refine stepY (y_loadA rfl rfl rfl) rfl ?_ | refine stepE (e_box rfl rfl rfl rfl rfl rfl) ?_)
    refine call_ Try.func22 rfl rfl (t1) rfl (by repeat (first | exact .refl _ | apply Les.cons | exact .nil)) rfl ?_
    repeat (first | refine seq_ ?_ | refine region_ ?_ | refine nil_ ?_ | refine cond_t rfl ?_ | refine guard_f rfl rfl rfl rfl ?_ | refine stepY (y_move rfl) rfl ?_ | refine stepY (y_not rfl) rfl ?_ | refine stepY (y_pick_t rfl rfl) rfl ?_)
    refine call_ Try.func10 rfl rfl (exampleHolds_c) rfl (by repeat (exact .nil)) rfl ?_
    repeat (first | refine nil_ ?_ | refine ret_ ?_ | refine stepY (y_assign rfl) rfl ?_)
    ((apply fin_r); (repeat (first | exact .nil | exact .tmp rfl | apply ResL.cons)); (repeat (exact .refl _)))
  rw [decide_eq_true g1] at t1
  by_cases g2 : l2.length ≤ 3 ∧ k2.length ≤ 3
  case neg =>
    rw [decide_eq_false g2] at t2
    refine con_of Try.func6 rfl rfl rfl rfl rfl ?_
    repeat (first | refine seq_ ?_ | refine region_ ?_ | refine nil_ ?_ | refine stepY (y_assign rfl) rfl ?_ | refine stepY (y_loadA rfl rfl rfl) rfl ?_ | refine stepE (e_box rfl rfl rfl rfl rfl rfl) ?_)
    refine call_ Try.func22 rfl rfl (t1) rfl (by repeat (first | exact .refl _ | apply Les.cons | exact .nil)) rfl ?_
    repeat (first | refine guard_t rfl rfl rfl ?_ | refine stepY (y_move rfl) rfl ?_ | refine stepY (y_loadA rfl rfl rfl) rfl ?_ | refine stepY (y_not rfl) rfl ?_)
    refine call_ Try.func22 rfl rfl (t2) rfl (by repeat (first | exact .refl _ | apply Les.cons | exact .nil)) rfl ?_
    repeat (first | refine seq_ ?_ | refine region_ ?_ | refine nil_ ?_ | refine cond_t rfl ?_ | refine guard_t rfl rfl rfl ?_ | refine guard_f rfl rfl rfl rfl ?_ | refine stepY (y_move rfl) rfl ?_ | refine stepY (y_not rfl) rfl ?_ | (first | refine stepY (y_pick_t rfl rfl) rfl ?_ | refine stepY (y_pick_f rfl rfl) rfl ?_))
    refine call_ Try.func10 rfl rfl (exampleHolds_c) rfl (by repeat (exact .nil)) rfl ?_
    repeat (first | refine nil_ ?_ | refine ret_ ?_ | refine stepY (y_assign rfl) rfl ?_)
    ((apply fin_r); (repeat (first | exact .nil | exact .tmp rfl | apply ResL.cons)); (repeat (exact .refl _)))
  rw [decide_eq_true g2] at t2
  by_cases g3 : l3.length ≤ 3 ∧ k3.length ≤ 3
  case neg =>
    rw [decide_eq_false g3] at t3
    refine con_of Try.func6 rfl rfl rfl rfl rfl ?_
    repeat (first | refine seq_ ?_ | refine region_ ?_ | refine nil_ ?_ | refine stepY (y_assign rfl) rfl ?_ | refine stepY (y_loadA rfl rfl rfl) rfl ?_ | refine stepE (e_box rfl rfl rfl rfl rfl rfl) ?_)
    refine call_ Try.func22 rfl rfl (t1) rfl (by repeat (first | exact .refl _ | apply Les.cons | exact .nil)) rfl ?_
    repeat (first | refine guard_t rfl rfl rfl ?_ | refine stepY (y_move rfl) rfl ?_ | refine stepY (y_loadA rfl rfl rfl) rfl ?_ | refine stepY (y_not rfl) rfl ?_)
    refine call_ Try.func22 rfl rfl (t2) rfl (by repeat (first | exact .refl _ | apply Les.cons | exact .nil)) rfl ?_
    repeat (first | refine guard_t rfl rfl rfl ?_ | refine stepY (y_move rfl) rfl ?_ | refine stepY (y_loadA rfl rfl rfl) rfl ?_ | refine stepY (y_not rfl) rfl ?_ | refine stepY (y_pick_f rfl rfl) rfl ?_)
    refine call_ Try.func22 rfl rfl (t3) rfl (by repeat (first | exact .refl _ | apply Les.cons | exact .nil)) rfl ?_
    repeat (first | refine seq_ ?_ | refine region_ ?_ | refine nil_ ?_ | refine cond_t rfl ?_ | refine guard_t rfl rfl rfl ?_ | refine guard_f rfl rfl rfl rfl ?_ | refine stepY (y_move rfl) rfl ?_ | refine stepY (y_not rfl) rfl ?_ | (first | refine stepY (y_pick_t rfl rfl) rfl ?_ | refine stepY (y_pick_f rfl rfl) rfl ?_))
    refine call_ Try.func10 rfl rfl (exampleHolds_c) rfl (by repeat (exact .nil)) rfl ?_
    repeat (first | refine nil_ ?_ | refine ret_ ?_ | refine stepY (y_assign rfl) rfl ?_)
    ((apply fin_r); (repeat (first | exact .nil | exact .tmp rfl | apply ResL.cons)); (repeat (exact .refl _)))
  rw [decide_eq_true g3] at t3
  cases w1 : vldF p1 l1 q1 k1
  case false =>
    rw [w1] at v1
    refine con_of Try.func6 rfl rfl rfl rfl rfl ?_
    repeat (first | refine seq_ ?_ | refine region_ ?_ | refine nil_ ?_ | refine stepY (y_assign rfl) rfl ?_ | refine stepY (y_loadA rfl rfl rfl) rfl ?_ | refine stepE (e_box rfl rfl rfl rfl rfl rfl) ?_)
    refine call_ Try.func22 rfl rfl (t1) rfl (by repeat (first | exact .refl _ | apply Les.cons | exact .nil)) rfl ?_
    repeat (first | refine guard_t rfl rfl rfl ?_ | refine stepY (y_move rfl) rfl ?_ | refine stepY (y_loadA rfl rfl rfl) rfl ?_ | refine stepY (y_not rfl) rfl ?_)
    refine call_ Try.func22 rfl rfl (t2) rfl (by repeat (first | exact .refl _ | apply Les.cons | exact .nil)) rfl ?_
    repeat (first | refine guard_t rfl rfl rfl ?_ | refine stepY (y_move rfl) rfl ?_ | refine stepY (y_loadA rfl rfl rfl) rfl ?_ | refine stepY (y_not rfl) rfl ?_ | refine stepY (y_pick_f rfl rfl) rfl ?_)
    refine call_ Try.func22 rfl rfl (t3) rfl (by repeat (first | exact .refl _ | apply Les.cons | exact .nil)) rfl ?_
    repeat (first | refine guard_t rfl rfl rfl ?_ | refine stepY (y_move rfl) rfl ?_ | refine stepY (y_loadA rfl rfl rfl) rfl ?_ | refine stepY (y_not rfl) rfl ?_ | refine stepY (y_pick_f rfl rfl) rfl ?_)
    refine call_ Try.func15 rfl rfl (v1) rfl (by repeat (first | exact .refl _ | apply Les.cons | exact .nil)) rfl ?_
    repeat (first | refine seq_ ?_ | refine region_ ?_ | refine nil_ ?_ | refine cond_t rfl ?_ | refine guard_t rfl rfl rfl ?_ | refine guard_f rfl rfl rfl rfl ?_ | refine stepY (y_move rfl) rfl ?_ | refine stepY (y_not rfl) rfl ?_ | (first | refine stepY (y_pick_t rfl rfl) rfl ?_ | refine stepY (y_pick_f rfl rfl) rfl ?_))
    refine call_ Try.func10 rfl rfl (exampleHolds_c) rfl (by repeat (exact .nil)) rfl ?_
    repeat (first | refine nil_ ?_ | refine ret_ ?_ | refine stepY (y_assign rfl) rfl ?_)
    ((apply fin_r); (repeat (first | exact .nil | exact .tmp rfl | apply ResL.cons)); (repeat (exact .refl _)))
  rw [w1] at v1
  cases w2 : vldF p2 l2 q2 k2
  case false =>
    rw [w2] at v2
    refine con_of Try.func6 rfl rfl rfl rfl rfl ?_
    repeat (first | refine seq_ ?_ | refine region_ ?_ | refine nil_ ?_ | refine stepY (y_assign rfl) rfl ?_ | refine stepY (y_loadA rfl rfl rfl) rfl ?_ | refine stepE (e_box rfl rfl rfl rfl rfl rfl) ?_)
    refine call_ Try.func22 rfl rfl (t1) rfl (by repeat (first | exact .refl _ | apply Les.cons | exact .nil)) rfl ?_
    repeat (first | refine guard_t rfl rfl rfl ?_ | refine stepY (y_move rfl) rfl ?_ | refine stepY (y_loadA rfl rfl rfl) rfl ?_ | refine stepY (y_not rfl) rfl ?_)
    refine call_ Try.func22 rfl rfl (t2) rfl (by repeat (first | exact .refl _ | apply Les.cons | exact .nil)) rfl ?_
    repeat (first | refine guard_t rfl rfl rfl ?_ | refine stepY (y_move rfl) rfl ?_ | refine stepY (y_loadA rfl rfl rfl) rfl ?_ | refine stepY (y_not rfl) rfl ?_ | refine stepY (y_pick_f rfl rfl) rfl ?_)
    refine call_ Try.func22 rfl rfl (t3) rfl (by repeat (first | exact .refl _ | apply Les.cons | exact .nil)) rfl ?_
    repeat (first | refine guard_t rfl rfl rfl ?_ | refine stepY (y_move rfl) rfl ?_ | refine stepY (y_loadA rfl rfl rfl) rfl ?_ | refine stepY (y_not rfl) rfl ?_ | refine stepY (y_pick_f rfl rfl) rfl ?_)
    refine call_ Try.func15 rfl rfl (v1) rfl (by repeat (first | exact .refl _ | apply Les.cons | exact .nil)) rfl ?_
    repeat (first | refine guard_t rfl rfl rfl ?_ | refine stepY (y_move rfl) rfl ?_ | refine stepY (y_loadA rfl rfl rfl) rfl ?_ | refine stepY (y_not rfl) rfl ?_ | refine stepY (y_pick_f rfl rfl) rfl ?_)
    refine call_ Try.func15 rfl rfl (v2) rfl (by repeat (first | exact .refl _ | apply Les.cons | exact .nil)) rfl ?_
    repeat (first | refine seq_ ?_ | refine region_ ?_ | refine nil_ ?_ | refine cond_t rfl ?_ | refine guard_t rfl rfl rfl ?_ | refine guard_f rfl rfl rfl rfl ?_ | refine stepY (y_move rfl) rfl ?_ | refine stepY (y_not rfl) rfl ?_ | (first | refine stepY (y_pick_t rfl rfl) rfl ?_ | refine stepY (y_pick_f rfl rfl) rfl ?_))
    refine call_ Try.func10 rfl rfl (exampleHolds_c) rfl (by repeat (exact .nil)) rfl ?_
    repeat (first | refine nil_ ?_ | refine ret_ ?_ | refine stepY (y_assign rfl) rfl ?_)
    ((apply fin_r); (repeat (first | exact .nil | exact .tmp rfl | apply ResL.cons)); (repeat (exact .refl _)))
  rw [w2] at v2
  cases w3 : vldF p3 l3 q3 k3
  case false =>
    rw [w3] at v3
    refine con_of Try.func6 rfl rfl rfl rfl rfl ?_
    repeat (first | refine seq_ ?_ | refine region_ ?_ | refine nil_ ?_ | refine stepY (y_assign rfl) rfl ?_ | refine stepY (y_loadA rfl rfl rfl) rfl ?_ | refine stepE (e_box rfl rfl rfl rfl rfl rfl) ?_)
    refine call_ Try.func22 rfl rfl (t1) rfl (by repeat (first | exact .refl _ | apply Les.cons | exact .nil)) rfl ?_
    repeat (first | refine guard_t rfl rfl rfl ?_ | refine stepY (y_move rfl) rfl ?_ | refine stepY (y_loadA rfl rfl rfl) rfl ?_ | refine stepY (y_not rfl) rfl ?_)
    refine call_ Try.func22 rfl rfl (t2) rfl (by repeat (first | exact .refl _ | apply Les.cons | exact .nil)) rfl ?_
    repeat (first | refine guard_t rfl rfl rfl ?_ | refine stepY (y_move rfl) rfl ?_ | refine stepY (y_loadA rfl rfl rfl) rfl ?_ | refine stepY (y_not rfl) rfl ?_ | refine stepY (y_pick_f rfl rfl) rfl ?_)
    refine call_ Try.func22 rfl rfl (t3) rfl (by repeat (first | exact .refl _ | apply Les.cons | exact .nil)) rfl ?_
    repeat (first | refine guard_t rfl rfl rfl ?_ | refine stepY (y_move rfl) rfl ?_ | refine stepY (y_loadA rfl rfl rfl) rfl ?_ | refine stepY (y_not rfl) rfl ?_ | refine stepY (y_pick_f rfl rfl) rfl ?_)
    refine call_ Try.func15 rfl rfl (v1) rfl (by repeat (first | exact .refl _ | apply Les.cons | exact .nil)) rfl ?_
    repeat (first | refine guard_t rfl rfl rfl ?_ | refine stepY (y_move rfl) rfl ?_ | refine stepY (y_loadA rfl rfl rfl) rfl ?_ | refine stepY (y_not rfl) rfl ?_ | refine stepY (y_pick_f rfl rfl) rfl ?_)
    refine call_ Try.func15 rfl rfl (v2) rfl (by repeat (first | exact .refl _ | apply Les.cons | exact .nil)) rfl ?_
    repeat (first | refine guard_t rfl rfl rfl ?_ | refine stepY (y_move rfl) rfl ?_ | refine stepY (y_loadA rfl rfl rfl) rfl ?_ | refine stepY (y_not rfl) rfl ?_ | refine stepY (y_pick_f rfl rfl) rfl ?_)
    refine call_ Try.func15 rfl rfl (v3) rfl (by repeat (first | exact .refl _ | apply Les.cons | exact .nil)) rfl ?_
    repeat (first | refine seq_ ?_ | refine region_ ?_ | refine nil_ ?_ | refine cond_t rfl ?_ | refine guard_t rfl rfl rfl ?_ | refine stepY (y_not rfl) rfl ?_ | refine stepY (y_pick_f rfl rfl) rfl ?_)
    refine call_ Try.func10 rfl rfl (exampleHolds_c) rfl (by repeat (exact .nil)) rfl ?_
    repeat (first | refine nil_ ?_ | refine ret_ ?_ | refine stepY (y_assign rfl) rfl ?_)
    ((apply fin_r); (repeat (first | exact .nil | exact .tmp rfl | apply ResL.cons)); (repeat (exact .refl _)))
  rw [w3] at v3
  obtain ⟨x, hx, rfl, rfl, rfl, rfl⟩ := tinyQ hl1 hk1 w1 g1
  obtain ⟨y, hy, rfl, rfl, rfl, rfl⟩ := tinyQ hl2 hk2 w2 g2
  obtain ⟨z, hz, rfl, rfl, rfl, rfl⟩ := tinyQ hl3 hk3 w3 g3
  clear w1 w2 w3 g1 g2 g3 hl1 hk1 hl2 hk2 hl3 hk3
  have hx0 := hx.ok (by decide)
  have hy0 := hy.ok (by decide)
  have hz0 := hz.ok (by decide)
  have c1 := FCmp_q x y hx0 hy0
  have c2 := FCmp_q y x hy0 hx0
  have c3 := FCmp_q y z hy0 hz0
  have c4 := FCmp_q x z hx0 hz0
  have s1 : Con Try.prog 24 [QV x, QV y] (.tp [.ag [Bo (decide ((x - y).num < 0)), FM (x - y).num.natAbs, Bo false, FM (x - y).den], E_ 0]) := Sub_b hx hy (by decide)
  have a1 := Add_b hx hz (by decide)
  have a2 := Add_b hy hz (by decide)
  have c5 := FCmp_q (x + z) (y + z) ((okB_add hx hz).ok (by decide)) ((okB_add hy hz).ok (by decide))
  rw [qcmp_add] at c5
  rw [qcmp_neg x y] at c2
  obtain ⟨n1, n2⟩ := sub_num x y
  have hld : ((limbs (x - y).num.natAbs).length : Int) = ln (x - y).num.natAbs := by rw [limbs_length]
  have tr : qcmp x y ≤ 0 → qcmp y z ≤ 0 → qcmp x z ≤ 0 ∧ (qcmp x z = 0 → qcmp x y = 0 ∧ qcmp y z = 0) := by
    rw [qcmp_le, qcmp_le, qcmp_le, qcmp_eq, qcmp_eq, qcmp_eq]
    intro h1 h2
    refine ⟨Rat.le_trans h1 h2, fun h => ?_⟩
    subst h
    have := Rat.le_antisymm h1 h2
    exact ⟨this, this.symm⟩
  have rb := qcmp_cases y z
  have rc := qcmp_cases x z
  have rb : -1 ≤ qcmp y z ∧ qcmp y z ≤ 1 := by rcases rb with ⟨_, e⟩ | ⟨_, e⟩ | ⟨_, e⟩ <;> omega
  have rc : -1 ≤ qcmp x z ∧ qcmp x z ≤ 1 := by rcases rc with ⟨_, e⟩ | ⟨_, e⟩ | ⟨_, e⟩ <;> omega
  have fxy := qcmp_cases x y
  generalize qcmp x y = a at *
  generalize qcmp y z = b at *
  generalize qcmp x z = c at *
  rcases fxy with ⟨f, rfl⟩ | ⟨f, rfl⟩ | ⟨f, rfl⟩
  · have e1 := Same_ne x y (fun h => absurd (le_eq' h.symm) (Rat.not_le.2 f))
    rw [decide_eq_true (n1.2 f)] at s1
    have hn : 0 < ln (x - y).num.natAbs := ln_pos.2 (by
      rcases Nat.eq_zero_or_pos (x - y).num.natAbs with h | h
      · exact absurd (le_eq' (n2.1 h).symm) (Rat.not_le.2 f)
      · exact h)
    by_cases hb : b ≤ 0
    · have tr2 := tr (by omega) hb
      by_cases hc : c = 0
      · have := tr2.2 hc; omega
      · refine con_of Try.func6 rfl rfl rfl rfl rfl ?_
        repeat (first | refine seq_ ?_ | refine region_ ?_ | refine nil_ ?_ | refine stepY (y_assign rfl) rfl ?_ | refine stepY (y_loadA rfl rfl rfl) rfl ?_ | refine stepE (e_box rfl rfl rfl rfl rfl rfl) ?_)
        refine call_ Try.func22 rfl rfl (t1) rfl (by repeat (first | exact .refl _ | apply Les.cons | exact .nil)) rfl ?_
        repeat (first | refine guard_t rfl rfl rfl ?_ | refine stepY (y_move rfl) rfl ?_ | refine stepY (y_loadA rfl rfl rfl) rfl ?_ | refine stepY (y_not rfl) rfl ?_)
        refine call_ Try.func22 rfl rfl (t2) rfl (by repeat (first | exact .refl _ | apply Les.cons | exact .nil)) rfl ?_
        repeat (first | refine guard_t rfl rfl rfl ?_ | refine stepY (y_move rfl) rfl ?_ | refine stepY (y_loadA rfl rfl rfl) rfl ?_ | refine stepY (y_not rfl) rfl ?_ | refine stepY (y_pick_f rfl rfl) rfl ?_)
        refine call_ Try.func22 rfl rfl (t3) rfl (by repeat (first | exact .refl _ | apply Les.cons | exact .nil)) rfl ?_
        repeat (first | refine guard_t rfl rfl rfl ?_ | refine stepY (y_move rfl) rfl ?_ | refine stepY (y_loadA rfl rfl rfl) rfl ?_ | refine stepY (y_not rfl) rfl ?_ | refine stepY (y_pick_f rfl rfl) rfl ?_)
        refine call_ Try.func15 rfl rfl (v1) rfl (by repeat (first | exact .refl _ | apply Les.cons | exact .nil)) rfl ?_
        repeat (first | refine guard_t rfl rfl rfl ?_ | refine stepY (y_move rfl) rfl ?_ | refine stepY (y_loadA rfl rfl rfl) rfl ?_ | refine stepY (y_not rfl) rfl ?_ | refine stepY (y_pick_f rfl rfl) rfl ?_)
        refine call_ Try.func15 rfl rfl (v2) rfl (by repeat (first | exact .refl _ | apply Les.cons | exact .nil)) rfl ?_
        repeat (first | refine guard_t rfl rfl rfl ?_ | refine stepY (y_move rfl) rfl ?_ | refine stepY (y_loadA rfl rfl rfl) rfl ?_ | refine stepY (y_not rfl) rfl ?_ | refine stepY (y_pick_f rfl rfl) rfl ?_)
        refine call_ Try.func15 rfl rfl (v3) rfl (by repeat (first | exact .refl _ | apply Les.cons | exact .nil)) rfl ?_
        repeat (first | refine seq_ ?_ | refine region_ ?_ | refine nil_ ?_ | refine skip_ ?_ | refine cond_f rfl ?_ | refine guard_t rfl rfl rfl ?_ | refine stepY (y_loadA rfl rfl rfl) rfl ?_ | refine stepY (y_not rfl) rfl ?_ | refine stepY (y_pick_f rfl rfl) rfl ?_)
        refine call_ Try.func20 rfl rfl (c1) rfl (by repeat (first | exact .refl _ | apply Les.cons | exact .nil)) rfl ?_
        repeat (first | refine seq_ ?_ | refine region_ ?_ | refine nil_ ?_ | refine stepY (y_move rfl) rfl ?_ | refine stepY (y_assign rfl) rfl ?_ | refine stepY (y_loadA rfl rfl rfl) rfl ?_ | refine stepY (y_extract rfl rfl) rfl ?_)
        refine call_ Try.func20 rfl rfl (c2) rfl (by repeat (first | exact .refl _ | apply Les.cons | exact .nil)) rfl ?_
        repeat (first | refine seq_ ?_ | refine region_ ?_ | refine nil_ ?_ | refine stepY (y_move rfl) rfl ?_ | refine stepY (y_assign rfl) rfl ?_ | refine stepY (y_loadA rfl rfl rfl) rfl ?_ | refine stepY (y_extract rfl rfl) rfl ?_)
        refine call_ Try.func20 rfl rfl (c3) rfl (by repeat (first | exact .refl _ | apply Les.cons | exact .nil)) rfl ?_
        repeat (first | refine seq_ ?_ | refine region_ ?_ | refine nil_ ?_ | refine stepY (y_move rfl) rfl ?_ | refine stepY (y_assign rfl) rfl ?_ | refine stepY (y_loadA rfl rfl rfl) rfl ?_ | refine stepY (y_extract rfl rfl) rfl ?_)
        refine call_ Try.func20 rfl rfl (c4) rfl (by repeat (first | exact .refl _ | apply Les.cons | exact .nil)) rfl ?_
        repeat (first | refine seq_ ?_ | refine region_ ?_ | refine nil_ ?_ | refine stepY (y_move rfl) rfl ?_ | refine stepY (y_assign rfl) rfl ?_ | refine stepY (y_loadA rfl rfl rfl) rfl ?_ | refine stepY (y_extract rfl rfl) rfl ?_)
        refine call_ Try.func24 rfl rfl (s1) rfl (by repeat (first | exact .refl _ | apply Les.cons | exact .nil)) rfl ?_
        repeat (first | refine seq_ ?_ | refine region_ ?_ | refine nil_ ?_ | refine stepY (y_move rfl) rfl ?_ | refine stepY (y_assign rfl) rfl ?_ | refine stepY (y_loadA rfl rfl rfl) rfl ?_ | refine stepY (y_extract rfl rfl) rfl ?_ | refine stepE (e_alloc rfl rfl rfl) ?_ | refine stepE (e_store rfl rfl rfl rfl rfl rfl rfl) ?_)
        refine call_ Try.func23 rfl rfl (a1) rfl (by repeat (first | exact .refl _ | apply Les.cons | exact .nil)) rfl ?_
        repeat (first | refine seq_ ?_ | refine region_ ?_ | refine nil_ ?_ | refine stepY (y_move rfl) rfl ?_ | refine stepY (y_assign rfl) rfl ?_ | refine stepY (y_loadA rfl rfl rfl) rfl ?_ | refine stepY (y_extract rfl rfl) rfl ?_ | refine stepE (e_alloc rfl rfl rfl) ?_ | refine stepE (e_store rfl rfl rfl rfl rfl rfl rfl) ?_)
        refine call_ Try.func23 rfl rfl (a2) rfl (by repeat (first | exact .refl _ | apply Les.cons | exact .nil)) rfl ?_
        repeat (first | refine seq_ ?_ | refine region_ ?_ | refine nil_ ?_ | refine stepY (y_move rfl) rfl ?_ | refine stepY (y_assign rfl) rfl ?_ | refine stepY (y_loadA rfl rfl rfl) rfl ?_ | refine stepY (y_extract rfl rfl) rfl ?_ | refine stepE (e_alloc rfl rfl rfl) ?_ | refine stepE (e_store rfl rfl rfl rfl rfl rfl rfl) ?_)
        refine call_ Try.func20 rfl rfl (c5) rfl (by repeat (first | exact .refl _ | exact .tag _ _ | apply Le.ag | apply Les.cons | exact .nil)) rfl ?_
        repeat (first | refine seq_ ?_ | refine region_ ?_ | refine nil_ ?_ | refine skip_ ?_ | refine cond_f rfl ?_ | refine guard_t rfl rfl rfl ?_ | refine guard_f rfl rfl rfl rfl ?_ | refine guard_u rfl rfl rfl ?_ | refine stepY (y_move rfl) rfl ?_ | refine stepY (y_assign rfl) rfl ?_ | (first | refine stepY (y_load1 rfl rfl rfl) rfl ?_ | refine stepY (y_loadA rfl rfl rfl) rfl ?_) | refine stepY (y_fieldAddr rfl) rfl ?_ | refine stepY (y_extract rfl rfl) rfl ?_ | refine stepY (y_len_si rfl) rfl ?_ | (first | refine stepY (y_pick_t rfl rfl) rfl ?_ | refine stepY (y_pick_f rfl rfl) rfl ?_) | refine stepY (y_binn rfl rfl rfl (by simp only [InK, loK, hiK]; omega)) rfl ?_ | (first | refine stepY (y_cmpF rfl rfl rfl (by omega)) rfl ?_ | refine stepY (y_eqb rfl rfl) rfl ?_) | refine stepY (y_cmpF rfl rfl rfl (by omega)) rfl ?_ | refine stepY (y_cmpT rfl rfl rfl (by omega)) rfl ?_ | refine stepY (y_cmpT rfl rfl rfl (by omega)) rfl ?_ | refine stepY (y_cmpF rfl rfl rfl (by omega)) rfl ?_)
        refine call_ Try.func21 rfl rfl (e1) rfl (by repeat (first | exact .refl _ | apply Les.cons | exact .nil)) rfl ?_
        repeat (first | refine guard_t rfl rfl rfl ?_ | refine stepY (y_move rfl) rfl ?_ | refine stepY (y_pick_t rfl rfl) rfl ?_ | refine stepY (y_eqb rfl rfl) rfl ?_)
        refine call_ Try.func10 rfl rfl (exampleHolds_c) rfl (by repeat (exact .nil)) rfl ?_
        repeat (first | refine nil_ ?_ | refine ret_ ?_ | refine stepY (y_assign rfl) rfl ?_ | refine stepY (y_pick_t rfl rfl) rfl ?_)
        ((apply fin_r); (repeat (first | exact .nil | exact .tmp rfl | apply ResL.cons)); (repeat (exact .refl _)))
    · refine con_of Try.func6 rfl rfl rfl rfl rfl ?_
      repeat (first | refine seq_ ?_ | refine region_ ?_ | refine nil_ ?_ | refine stepY (y_assign rfl) rfl ?_ | refine stepY (y_loadA rfl rfl rfl) rfl ?_ | refine stepE (e_box rfl rfl rfl rfl rfl rfl) ?_)
      refine call_ Try.func22 rfl rfl (t1) rfl (by repeat (first | exact .refl _ | apply Les.cons | exact .nil)) rfl ?_
      repeat (first | refine guard_t rfl rfl rfl ?_ | refine stepY (y_move rfl) rfl ?_ | refine stepY (y_loadA rfl rfl rfl) rfl ?_ | refine stepY (y_not rfl) rfl ?_)
      refine call_ Try.func22 rfl rfl (t2) rfl (by repeat (first | exact .refl _ | apply Les.cons | exact .nil)) rfl ?_
      repeat (first | refine guard_t rfl rfl rfl ?_ | refine stepY (y_move rfl) rfl ?_ | refine stepY (y_loadA rfl rfl rfl) rfl ?_ | refine stepY (y_not rfl) rfl ?_ | refine stepY (y_pick_f rfl rfl) rfl ?_)
      refine call_ Try.func22 rfl rfl (t3) rfl (by repeat (first | exact .refl _ | apply Les.cons | exact .nil)) rfl ?_
      repeat (first | refine guard_t rfl rfl rfl ?_ | refine stepY (y_move rfl) rfl ?_ | refine stepY (y_loadA rfl rfl rfl) rfl ?_ | refine stepY (y_not rfl) rfl ?_ | refine stepY (y_pick_f rfl rfl) rfl ?_)
      refine call_ Try.func15 rfl rfl (v1) rfl (by repeat (first | exact .refl _ | apply Les.cons | exact .nil)) rfl ?_
      repeat (first | refine guard_t rfl rfl rfl ?_ | refine stepY (y_move rfl) rfl ?_ | refine stepY (y_loadA rfl rfl rfl) rfl ?_ | refine stepY (y_not rfl) rfl ?_ | refine stepY (y_pick_f rfl rfl) rfl ?_)
      refine call_ Try.func15 rfl rfl (v2) rfl (by repeat (first | exact .refl _ | apply Les.cons | exact .nil)) rfl ?_
      repeat (first | refine guard_t rfl rfl rfl ?_ | refine stepY (y_move rfl) rfl ?_ | refine stepY (y_loadA rfl rfl rfl) rfl ?_ | refine stepY (y_not rfl) rfl ?_ | refine stepY (y_pick_f rfl rfl) rfl ?_)
      refine call_ Try.func15 rfl rfl (v3) rfl (by repeat (first | exact .refl _ | apply Les.cons | exact .nil)) rfl ?_
      repeat (first | refine seq_ ?_ | refine region_ ?_ | refine nil_ ?_ | refine skip_ ?_ | refine cond_f rfl ?_ | refine guard_t rfl rfl rfl ?_ | refine stepY (y_loadA rfl rfl rfl) rfl ?_ | refine stepY (y_not rfl) rfl ?_ | refine stepY (y_pick_f rfl rfl) rfl ?_)
      refine call_ Try.func20 rfl rfl (c1) rfl (by repeat (first | exact .refl _ | apply Les.cons | exact .nil)) rfl ?_
      repeat (first | refine seq_ ?_ | refine region_ ?_ | refine nil_ ?_ | refine stepY (y_move rfl) rfl ?_ | refine stepY (y_assign rfl) rfl ?_ | refine stepY (y_loadA rfl rfl rfl) rfl ?_ | refine stepY (y_extract rfl rfl) rfl ?_)
      refine call_ Try.func20 rfl rfl (c2) rfl (by repeat (first | exact .refl _ | apply Les.cons | exact .nil)) rfl ?_
      repeat (first | refine seq_ ?_ | refine region_ ?_ | refine nil_ ?_ | refine stepY (y_move rfl) rfl ?_ | refine stepY (y_assign rfl) rfl ?_ | refine stepY (y_loadA rfl rfl rfl) rfl ?_ | refine stepY (y_extract rfl rfl) rfl ?_)
      refine call_ Try.func20 rfl rfl (c3) rfl (by repeat (first | exact .refl _ | apply Les.cons | exact .nil)) rfl ?_
      repeat (first | refine seq_ ?_ | refine region_ ?_ | refine nil_ ?_ | refine stepY (y_move rfl) rfl ?_ | refine stepY (y_assign rfl) rfl ?_ | refine stepY (y_loadA rfl rfl rfl) rfl ?_ | refine stepY (y_extract rfl rfl) rfl ?_)
      refine call_ Try.func20 rfl rfl (c4) rfl (by repeat (first | exact .refl _ | apply Les.cons | exact .nil)) rfl ?_
      repeat (first | refine seq_ ?_ | refine region_ ?_ | refine nil_ ?_ | refine stepY (y_move rfl) rfl ?_ | refine stepY (y_assign rfl) rfl ?_ | refine stepY (y_loadA rfl rfl rfl) rfl ?_ | refine stepY (y_extract rfl rfl) rfl ?_)
      refine call_ Try.func24 rfl rfl (s1) rfl (by repeat (first | exact .refl _ | apply Les.cons | exact .nil)) rfl ?_
      repeat (first | refine seq_ ?_ | refine region_ ?_ | refine nil_ ?_ | refine stepY (y_move rfl) rfl ?_ | refine stepY (y_assign rfl) rfl ?_ | refine stepY (y_loadA rfl rfl rfl) rfl ?_ | refine stepY (y_extract rfl rfl) rfl ?_ | refine stepE (e_alloc rfl rfl rfl) ?_ | refine stepE (e_store rfl rfl rfl rfl rfl rfl rfl) ?_)
      refine call_ Try.func23 rfl rfl (a1) rfl (by repeat (first | exact .refl _ | apply Les.cons | exact .nil)) rfl ?_
      repeat (first | refine seq_ ?_ | refine region_ ?_ | refine nil_ ?_ | refine stepY (y_move rfl) rfl ?_ | refine stepY (y_assign rfl) rfl ?_ | refine stepY (y_loadA rfl rfl rfl) rfl ?_ | refine stepY (y_extract rfl rfl) rfl ?_ | refine stepE (e_alloc rfl rfl rfl) ?_ | refine stepE (e_store rfl rfl rfl rfl rfl rfl rfl) ?_)
      refine call_ Try.func23 rfl rfl (a2) rfl (by repeat (first | exact .refl _ | apply Les.cons | exact .nil)) rfl ?_
      repeat (first | refine seq_ ?_ | refine region_ ?_ | refine nil_ ?_ | refine stepY (y_move rfl) rfl ?_ | refine stepY (y_assign rfl) rfl ?_ | refine stepY (y_loadA rfl rfl rfl) rfl ?_ | refine stepY (y_extract rfl rfl) rfl ?_ | refine stepE (e_alloc rfl rfl rfl) ?_ | refine stepE (e_store rfl rfl rfl rfl rfl rfl rfl) ?_)
      refine call_ Try.func20 rfl rfl (c5) rfl (by repeat (first | exact .refl _ | exact .tag _ _ | apply Le.ag | apply Les.cons | exact .nil)) rfl ?_
      repeat (first | refine seq_ ?_ | refine region_ ?_ | refine nil_ ?_ | refine skip_ ?_ | refine cond_f rfl ?_ | refine guard_t rfl rfl rfl ?_ | refine guard_f rfl rfl rfl rfl ?_ | refine guard_u rfl rfl rfl ?_ | refine stepY (y_move rfl) rfl ?_ | refine stepY (y_assign rfl) rfl ?_ | (first | refine stepY (y_load1 rfl rfl rfl) rfl ?_ | refine stepY (y_loadA rfl rfl rfl) rfl ?_) | refine stepY (y_fieldAddr rfl) rfl ?_ | refine stepY (y_extract rfl rfl) rfl ?_ | refine stepY (y_len_si rfl) rfl ?_ | (first | refine stepY (y_pick_t rfl rfl) rfl ?_ | refine stepY (y_pick_f rfl rfl) rfl ?_) | refine stepY (y_binn rfl rfl rfl (by simp only [InK, loK, hiK]; omega)) rfl ?_ | (first | refine stepY (y_cmpF rfl rfl rfl (by omega)) rfl ?_ | refine stepY (y_eqb rfl rfl) rfl ?_) | refine stepY (y_cmpF rfl rfl rfl (by omega)) rfl ?_ | refine stepY (y_cmpT rfl rfl rfl (by omega)) rfl ?_ | (first | refine stepY (y_cmpT rfl rfl rfl (by omega)) rfl ?_ | refine stepY (y_cmpF rfl rfl rfl (by omega)) rfl ?_))
      refine call_ Try.func21 rfl rfl (e1) rfl (by repeat (first | exact .refl _ | apply Les.cons | exact .nil)) rfl ?_
      repeat (first | refine guard_t rfl rfl rfl ?_ | refine stepY (y_move rfl) rfl ?_ | refine stepY (y_pick_t rfl rfl) rfl ?_ | refine stepY (y_eqb rfl rfl) rfl ?_)
      refine call_ Try.func10 rfl rfl (exampleHolds_c) rfl (by repeat (exact .nil)) rfl ?_
      repeat (first | refine nil_ ?_ | refine ret_ ?_ | refine stepY (y_assign rfl) rfl ?_ | refine stepY (y_pick_t rfl rfl) rfl ?_)
      ((apply fin_r); (repeat (first | exact .nil | exact .tmp rfl | apply ResL.cons)); (repeat (exact .refl _)))
  · have e1 := sameQ x
    have e1 : Con Try.prog 21 [QV x, QV y] (Bo true) := by rw [← f]; exact e1
    rw [decide_eq_false (fun h => absurd (le_eq' f.symm) (Rat.not_le.2 (n1.1 h)))] at s1
    have hn : ln (x - y).num.natAbs = 0 := by rw [n2.2 f]; rfl
    by_cases hb : b ≤ 0
    · have tr2 := tr (by omega) hb
      by_cases hc : c = 0
      · have hb0 := (tr2.2 hc).2
        refine con_of Try.func6 rfl rfl rfl rfl rfl ?_
        repeat (first | refine seq_ ?_ | refine region_ ?_ | refine nil_ ?_ | refine stepY (y_assign rfl) rfl ?_ | refine stepY (y_loadA rfl rfl rfl) rfl ?_ | refine stepE (e_box rfl rfl rfl rfl rfl rfl) ?_)
        refine call_ Try.func22 rfl rfl (t1) rfl (by repeat (first | exact .refl _ | apply Les.cons | exact .nil)) rfl ?_
        repeat (first | refine guard_t rfl rfl rfl ?_ | refine stepY (y_move rfl) rfl ?_ | refine stepY (y_loadA rfl rfl rfl) rfl ?_ | refine stepY (y_not rfl) rfl ?_)
        refine call_ Try.func22 rfl rfl (t2) rfl (by repeat (first | exact .refl _ | apply Les.cons | exact .nil)) rfl ?_
        repeat (first | refine guard_t rfl rfl rfl ?_ | refine stepY (y_move rfl) rfl ?_ | refine stepY (y_loadA rfl rfl rfl) rfl ?_ | refine stepY (y_not rfl) rfl ?_ | refine stepY (y_pick_f rfl rfl) rfl ?_)
        refine call_ Try.func22 rfl rfl (t3) rfl (by repeat (first | exact .refl _ | apply Les.cons | exact .nil)) rfl ?_
        repeat (first | refine guard_t rfl rfl rfl ?_ | refine stepY (y_move rfl) rfl ?_ | refine stepY (y_loadA rfl rfl rfl) rfl ?_ | refine stepY (y_not rfl) rfl ?_ | refine stepY (y_pick_f rfl rfl) rfl ?_)
        refine call_ Try.func15 rfl rfl (v1) rfl (by repeat (first | exact .refl _ | apply Les.cons | exact .nil)) rfl ?_
        repeat (first | refine guard_t rfl rfl rfl ?_ | refine stepY (y_move rfl) rfl ?_ | refine stepY (y_loadA rfl rfl rfl) rfl ?_ | refine stepY (y_not rfl) rfl ?_ | refine stepY (y_pick_f rfl rfl) rfl ?_)
        refine call_ Try.func15 rfl rfl (v2) rfl (by repeat (first | exact .refl _ | apply Les.cons | exact .nil)) rfl ?_
        repeat (first | refine guard_t rfl rfl rfl ?_ | refine stepY (y_move rfl) rfl ?_ | refine stepY (y_loadA rfl rfl rfl) rfl ?_ | refine stepY (y_not rfl) rfl ?_ | refine stepY (y_pick_f rfl rfl) rfl ?_)
        refine call_ Try.func15 rfl rfl (v3) rfl (by repeat (first | exact .refl _ | apply Les.cons | exact .nil)) rfl ?_
        repeat (first | refine seq_ ?_ | refine region_ ?_ | refine nil_ ?_ | refine skip_ ?_ | refine cond_f rfl ?_ | refine guard_t rfl rfl rfl ?_ | refine stepY (y_loadA rfl rfl rfl) rfl ?_ | refine stepY (y_not rfl) rfl ?_ | refine stepY (y_pick_f rfl rfl) rfl ?_)
        refine call_ Try.func20 rfl rfl (c1) rfl (by repeat (first | exact .refl _ | apply Les.cons | exact .nil)) rfl ?_
        repeat (first | refine seq_ ?_ | refine region_ ?_ | refine nil_ ?_ | refine stepY (y_move rfl) rfl ?_ | refine stepY (y_assign rfl) rfl ?_ | refine stepY (y_loadA rfl rfl rfl) rfl ?_ | refine stepY (y_extract rfl rfl) rfl ?_)
        refine call_ Try.func20 rfl rfl (c2) rfl (by repeat (first | exact .refl _ | apply Les.cons | exact .nil)) rfl ?_
        repeat (first | refine seq_ ?_ | refine region_ ?_ | refine nil_ ?_ | refine stepY (y_move rfl) rfl ?_ | refine stepY (y_assign rfl) rfl ?_ | refine stepY (y_loadA rfl rfl rfl) rfl ?_ | refine stepY (y_extract rfl rfl) rfl ?_)
        refine call_ Try.func20 rfl rfl (c3) rfl (by repeat (first | exact .refl _ | apply Les.cons | exact .nil)) rfl ?_
        repeat (first | refine seq_ ?_ | refine region_ ?_ | refine nil_ ?_ | refine stepY (y_move rfl) rfl ?_ | refine stepY (y_assign rfl) rfl ?_ | refine stepY (y_loadA rfl rfl rfl) rfl ?_ | refine stepY (y_extract rfl rfl) rfl ?_)
        refine call_ Try.func20 rfl rfl (c4) rfl (by repeat (first | exact .refl _ | apply Les.cons | exact .nil)) rfl ?_
        repeat (first | refine seq_ ?_ | refine region_ ?_ | refine nil_ ?_ | refine stepY (y_move rfl) rfl ?_ | refine stepY (y_assign rfl) rfl ?_ | refine stepY (y_loadA rfl rfl rfl) rfl ?_ | refine stepY (y_extract rfl rfl) rfl ?_)
        refine call_ Try.func24 rfl rfl (s1) rfl (by repeat (first | exact .refl _ | apply Les.cons | exact .nil)) rfl ?_
        repeat (first | refine seq_ ?_ | refine region_ ?_ | refine nil_ ?_ | refine stepY (y_move rfl) rfl ?_ | refine stepY (y_assign rfl) rfl ?_ | refine stepY (y_loadA rfl rfl rfl) rfl ?_ | refine stepY (y_extract rfl rfl) rfl ?_ | refine stepE (e_alloc rfl rfl rfl) ?_ | refine stepE (e_store rfl rfl rfl rfl rfl rfl rfl) ?_)
        refine call_ Try.func23 rfl rfl (a1) rfl (by repeat (first | exact .refl _ | apply Les.cons | exact .nil)) rfl ?_
        repeat (first | refine seq_ ?_ | refine region_ ?_ | refine nil_ ?_ | refine stepY (y_move rfl) rfl ?_ | refine stepY (y_assign rfl) rfl ?_ | refine stepY (y_loadA rfl rfl rfl) rfl ?_ | refine stepY (y_extract rfl rfl) rfl ?_ | refine stepE (e_alloc rfl rfl rfl) ?_ | refine stepE (e_store rfl rfl rfl rfl rfl rfl rfl) ?_)
        refine call_ Try.func23 rfl rfl (a2) rfl (by repeat (first | exact .refl _ | apply Les.cons | exact .nil)) rfl ?_
        repeat (first | refine seq_ ?_ | refine region_ ?_ | refine nil_ ?_ | refine stepY (y_move rfl) rfl ?_ | refine stepY (y_assign rfl) rfl ?_ | refine stepY (y_loadA rfl rfl rfl) rfl ?_ | refine stepY (y_extract rfl rfl) rfl ?_ | refine stepE (e_alloc rfl rfl rfl) ?_ | refine stepE (e_store rfl rfl rfl rfl rfl rfl rfl) ?_)
        refine call_ Try.func20 rfl rfl (c5) rfl (by repeat (first | exact .refl _ | exact .tag _ _ | apply Le.ag | apply Les.cons | exact .nil)) rfl ?_
        repeat (first | refine seq_ ?_ | refine region_ ?_ | refine nil_ ?_ | refine skip_ ?_ | refine cond_f rfl ?_ | refine guard_t rfl rfl rfl ?_ | refine stepY (y_move rfl) rfl ?_ | refine stepY (y_assign rfl) rfl ?_ | (first | refine stepY (y_load1 rfl rfl rfl) rfl ?_ | refine stepY (y_loadA rfl rfl rfl) rfl ?_) | refine stepY (y_fieldAddr rfl) rfl ?_ | refine stepY (y_extract rfl rfl) rfl ?_ | refine stepY (y_len_si rfl) rfl ?_ | (first | refine stepY (y_pick_t rfl rfl) rfl ?_ | refine stepY (y_pick_f rfl rfl) rfl ?_) | refine stepY (y_binn rfl rfl rfl (by simp only [InK, loK, hiK]; omega)) rfl ?_ | (first | refine stepY (y_cmpT rfl rfl rfl (by omega)) rfl ?_ | refine stepY (y_eqb rfl rfl) rfl ?_) | refine stepY (y_cmpF rfl rfl rfl (by omega)) rfl ?_ | refine stepY (y_cmpF rfl rfl rfl (by omega)) rfl ?_ | refine stepY (y_cmpT rfl rfl rfl (by omega)) rfl ?_ | refine stepY (y_cmpF rfl rfl rfl (by omega)) rfl ?_)
        refine call_ Try.func21 rfl rfl (e1) rfl (by repeat (first | exact .refl _ | apply Les.cons | exact .nil)) rfl ?_
        repeat (first | refine guard_t rfl rfl rfl ?_ | refine stepY (y_move rfl) rfl ?_ | refine stepY (y_pick_t rfl rfl) rfl ?_ | refine stepY (y_eqb rfl rfl) rfl ?_)
        refine call_ Try.func10 rfl rfl (exampleHolds_c) rfl (by repeat (exact .nil)) rfl ?_
        repeat (first | refine nil_ ?_ | refine ret_ ?_ | refine stepY (y_assign rfl) rfl ?_ | refine stepY (y_pick_t rfl rfl) rfl ?_)
        ((apply fin_r); (repeat (first | exact .nil | exact .tmp rfl | apply ResL.cons)); (repeat (exact .refl _)))
      · refine con_of Try.func6 rfl rfl rfl rfl rfl ?_
        repeat (first | refine seq_ ?_ | refine region_ ?_ | refine nil_ ?_ | refine stepY (y_assign rfl) rfl ?_ | refine stepY (y_loadA rfl rfl rfl) rfl ?_ | refine stepE (e_box rfl rfl rfl rfl rfl rfl) ?_)
        refine call_ Try.func22 rfl rfl (t1) rfl (by repeat (first | exact .refl _ | apply Les.cons | exact .nil)) rfl ?_
        repeat (first | refine guard_t rfl rfl rfl ?_ | refine stepY (y_move rfl) rfl ?_ | refine stepY (y_loadA rfl rfl rfl) rfl ?_ | refine stepY (y_not rfl) rfl ?_)
        refine call_ Try.func22 rfl rfl (t2) rfl (by repeat (first | exact .refl _ | apply Les.cons | exact .nil)) rfl ?_
        repeat (first | refine guard_t rfl rfl rfl ?_ | refine stepY (y_move rfl) rfl ?_ | refine stepY (y_loadA rfl rfl rfl) rfl ?_ | refine stepY (y_not rfl) rfl ?_ | refine stepY (y_pick_f rfl rfl) rfl ?_)
        refine call_ Try.func22 rfl rfl (t3) rfl (by repeat (first | exact .refl _ | apply Les.cons | exact .nil)) rfl ?_
        repeat (first | refine guard_t rfl rfl rfl ?_ | refine stepY (y_move rfl) rfl ?_ | refine stepY (y_loadA rfl rfl rfl) rfl ?_ | refine stepY (y_not rfl) rfl ?_ | refine stepY (y_pick_f rfl rfl) rfl ?_)
        refine call_ Try.func15 rfl rfl (v1) rfl (by repeat (first | exact .refl _ | apply Les.cons | exact .nil)) rfl ?_
        repeat (first | refine guard_t rfl rfl rfl ?_ | refine stepY (y_move rfl) rfl ?_ | refine stepY (y_loadA rfl rfl rfl) rfl ?_ | refine stepY (y_not rfl) rfl ?_ | refine stepY (y_pick_f rfl rfl) rfl ?_)
        refine call_ Try.func15 rfl rfl (v2) rfl (by repeat (first | exact .refl _ | apply Les.cons | exact .nil)) rfl ?_
        repeat (first | refine guard_t rfl rfl rfl ?_ | refine stepY (y_move rfl) rfl ?_ | refine stepY (y_loadA rfl rfl rfl) rfl ?_ | refine stepY (y_not rfl) rfl ?_ | refine stepY (y_pick_f rfl rfl) rfl ?_)
        refine call_ Try.func15 rfl rfl (v3) rfl (by repeat (first | exact .refl _ | apply Les.cons | exact .nil)) rfl ?_
        repeat (first | refine seq_ ?_ | refine region_ ?_ | refine nil_ ?_ | refine skip_ ?_ | refine cond_f rfl ?_ | refine guard_t rfl rfl rfl ?_ | refine stepY (y_loadA rfl rfl rfl) rfl ?_ | refine stepY (y_not rfl) rfl ?_ | refine stepY (y_pick_f rfl rfl) rfl ?_)
        refine call_ Try.func20 rfl rfl (c1) rfl (by repeat (first | exact .refl _ | apply Les.cons | exact .nil)) rfl ?_
        repeat (first | refine seq_ ?_ | refine region_ ?_ | refine nil_ ?_ | refine stepY (y_move rfl) rfl ?_ | refine stepY (y_assign rfl) rfl ?_ | refine stepY (y_loadA rfl rfl rfl) rfl ?_ | refine stepY (y_extract rfl rfl) rfl ?_)
        refine call_ Try.func20 rfl rfl (c2) rfl (by repeat (first | exact .refl _ | apply Les.cons | exact .nil)) rfl ?_
        repeat (first | refine seq_ ?_ | refine region_ ?_ | refine nil_ ?_ | refine stepY (y_move rfl) rfl ?_ | refine stepY (y_assign rfl) rfl ?_ | refine stepY (y_loadA rfl rfl rfl) rfl ?_ | refine stepY (y_extract rfl rfl) rfl ?_)
        refine call_ Try.func20 rfl rfl (c3) rfl (by repeat (first | exact .refl _ | apply Les.cons | exact .nil)) rfl ?_
        repeat (first | refine seq_ ?_ | refine region_ ?_ | refine nil_ ?_ | refine stepY (y_move rfl) rfl ?_ | refine stepY (y_assign rfl) rfl ?_ | refine stepY (y_loadA rfl rfl rfl) rfl ?_ | refine stepY (y_extract rfl rfl) rfl ?_)
        refine call_ Try.func20 rfl rfl (c4) rfl (by repeat (first | exact .refl _ | apply Les.cons | exact .nil)) rfl ?_
        repeat (first | refine seq_ ?_ | refine region_ ?_ | refine nil_ ?_ | refine stepY (y_move rfl) rfl ?_ | refine stepY (y_assign rfl) rfl ?_ | refine stepY (y_loadA rfl rfl rfl) rfl ?_ | refine stepY (y_extract rfl rfl) rfl ?_)
        refine call_ Try.func24 rfl rfl (s1) rfl (by repeat (first | exact .refl _ | apply Les.cons | exact .nil)) rfl ?_
        repeat (first | refine seq_ ?_ | refine region_ ?_ | refine nil_ ?_ | refine stepY (y_move rfl) rfl ?_ | refine stepY (y_assign rfl) rfl ?_ | refine stepY (y_loadA rfl rfl rfl) rfl ?_ | refine stepY (y_extract rfl rfl) rfl ?_ | refine stepE (e_alloc rfl rfl rfl) ?_ | refine stepE (e_store rfl rfl rfl rfl rfl rfl rfl) ?_)
        refine call_ Try.func23 rfl rfl (a1) rfl (by repeat (first | exact .refl _ | apply Les.cons | exact .nil)) rfl ?_
        repeat (first | refine seq_ ?_ | refine region_ ?_ | refine nil_ ?_ | refine stepY (y_move rfl) rfl ?_ | refine stepY (y_assign rfl) rfl ?_ | refine stepY (y_loadA rfl rfl rfl) rfl ?_ | refine stepY (y_extract rfl rfl) rfl ?_ | refine stepE (e_alloc rfl rfl rfl) ?_ | refine stepE (e_store rfl rfl rfl rfl rfl rfl rfl) ?_)
        refine call_ Try.func23 rfl rfl (a2) rfl (by repeat (first | exact .refl _ | apply Les.cons | exact .nil)) rfl ?_
        repeat (first | refine seq_ ?_ | refine region_ ?_ | refine nil_ ?_ | refine stepY (y_move rfl) rfl ?_ | refine stepY (y_assign rfl) rfl ?_ | refine stepY (y_loadA rfl rfl rfl) rfl ?_ | refine stepY (y_extract rfl rfl) rfl ?_ | refine stepE (e_alloc rfl rfl rfl) ?_ | refine stepE (e_store rfl rfl rfl rfl rfl rfl rfl) ?_)
        refine call_ Try.func20 rfl rfl (c5) rfl (by repeat (first | exact .refl _ | exact .tag _ _ | apply Le.ag | apply Les.cons | exact .nil)) rfl ?_
        repeat (first | refine seq_ ?_ | refine region_ ?_ | refine nil_ ?_ | refine skip_ ?_ | refine cond_f rfl ?_ | refine guard_t rfl rfl rfl ?_ | refine guard_f rfl rfl rfl rfl ?_ | refine guard_u rfl rfl rfl ?_ | refine stepY (y_move rfl) rfl ?_ | refine stepY (y_assign rfl) rfl ?_ | (first | refine stepY (y_load1 rfl rfl rfl) rfl ?_ | refine stepY (y_loadA rfl rfl rfl) rfl ?_) | refine stepY (y_fieldAddr rfl) rfl ?_ | refine stepY (y_extract rfl rfl) rfl ?_ | refine stepY (y_len_si rfl) rfl ?_ | (first | refine stepY (y_pick_t rfl rfl) rfl ?_ | refine stepY (y_pick_f rfl rfl) rfl ?_) | refine stepY (y_binn rfl rfl rfl (by simp only [InK, loK, hiK]; omega)) rfl ?_ | (first | refine stepY (y_cmpT rfl rfl rfl (by omega)) rfl ?_ | refine stepY (y_cmpF rfl rfl rfl (by omega)) rfl ?_ | refine stepY (y_eqb rfl rfl) rfl ?_) | refine stepY (y_cmpF rfl rfl rfl (by omega)) rfl ?_ | refine stepY (y_cmpF rfl rfl rfl (by omega)) rfl ?_ | refine stepY (y_cmpT rfl rfl rfl (by omega)) rfl ?_ | refine stepY (y_cmpF rfl rfl rfl (by omega)) rfl ?_)
        refine call_ Try.func21 rfl rfl (e1) rfl (by repeat (first | exact .refl _ | apply Les.cons | exact .nil)) rfl ?_
        repeat (first | refine guard_t rfl rfl rfl ?_ | refine stepY (y_move rfl) rfl ?_ | refine stepY (y_pick_t rfl rfl) rfl ?_ | refine stepY (y_eqb rfl rfl) rfl ?_)
        refine call_ Try.func10 rfl rfl (exampleHolds_c) rfl (by repeat (exact .nil)) rfl ?_
        repeat (first | refine nil_ ?_ | refine ret_ ?_ | refine stepY (y_assign rfl) rfl ?_ | refine stepY (y_pick_t rfl rfl) rfl ?_)
        ((apply fin_r); (repeat (first | exact .nil | exact .tmp rfl | apply ResL.cons)); (repeat (exact .refl _)))
    · refine con_of Try.func6 rfl rfl rfl rfl rfl ?_
      repeat (first | refine seq_ ?_ | refine region_ ?_ | refine nil_ ?_ | refine stepY (y_assign rfl) rfl ?_ | refine stepY (y_loadA rfl rfl rfl) rfl ?_ | refine stepE (e_box rfl rfl rfl rfl rfl rfl) ?_)
      refine call_ Try.func22 rfl rfl (t1) rfl (by repeat (first | exact .refl _ | apply Les.cons | exact .nil)) rfl ?_
      repeat (first | refine guard_t rfl rfl rfl ?_ | refine stepY (y_move rfl) rfl ?_ | refine stepY (y_loadA rfl rfl rfl) rfl ?_ | refine stepY (y_not rfl) rfl ?_)
      refine call_ Try.func22 rfl rfl (t2) rfl (by repeat (first | exact .refl _ | apply Les.cons | exact .nil)) rfl ?_
      repeat (first | refine guard_t rfl rfl rfl ?_ | refine stepY (y_move rfl) rfl ?_ | refine stepY (y_loadA rfl rfl rfl) rfl ?_ | refine stepY (y_not rfl) rfl ?_ | refine stepY (y_pick_f rfl rfl) rfl ?_)
      refine call_ Try.func22 rfl rfl (t3) rfl (by repeat (first | exact .refl _ | apply Les.cons | exact .nil)) rfl ?_
      repeat (first | refine guard_t rfl rfl rfl ?_ | refine stepY (y_move rfl) rfl ?_ | refine stepY (y_loadA rfl rfl rfl) rfl ?_ | refine stepY (y_not rfl) rfl ?_ | refine stepY (y_pick_f rfl rfl) rfl ?_)
      refine call_ Try.func15 rfl rfl (v1) rfl (by repeat (first | exact .refl _ | apply Les.cons | exact .nil)) rfl ?_
      repeat (first | refine guard_t rfl rfl rfl ?_ | refine stepY (y_move rfl) rfl ?_ | refine stepY (y_loadA rfl rfl rfl) rfl ?_ | refine stepY (y_not rfl) rfl ?_ | refine stepY (y_pick_f rfl rfl) rfl ?_)
      refine call_ Try.func15 rfl rfl (v2) rfl (by repeat (first | exact .refl _ | apply Les.cons | exact .nil)) rfl ?_
      repeat (first | refine guard_t rfl rfl rfl ?_ | refine stepY (y_move rfl) rfl ?_ | refine stepY (y_loadA rfl rfl rfl) rfl ?_ | refine stepY (y_not rfl) rfl ?_ | refine stepY (y_pick_f rfl rfl) rfl ?_)
      refine call_ Try.func15 rfl rfl (v3) rfl (by repeat (first | exact .refl _ | apply Les.cons | exact .nil)) rfl ?_
      repeat (first | refine seq_ ?_ | refine region_ ?_ | refine nil_ ?_ | refine skip_ ?_ | refine cond_f rfl ?_ | refine guard_t rfl rfl rfl ?_ | refine stepY (y_loadA rfl rfl rfl) rfl ?_ | refine stepY (y_not rfl) rfl ?_ | refine stepY (y_pick_f rfl rfl) rfl ?_)
      refine call_ Try.func20 rfl rfl (c1) rfl (by repeat (first | exact .refl _ | apply Les.cons | exact .nil)) rfl ?_
      repeat (first | refine seq_ ?_ | refine region_ ?_ | refine nil_ ?_ | refine stepY (y_move rfl) rfl ?_ | refine stepY (y_assign rfl) rfl ?_ | refine stepY (y_loadA rfl rfl rfl) rfl ?_ | refine stepY (y_extract rfl rfl) rfl ?_)
      refine call_ Try.func20 rfl rfl (c2) rfl (by repeat (first | exact .refl _ | apply Les.cons | exact .nil)) rfl ?_
      repeat (first | refine seq_ ?_ | refine region_ ?_ | refine nil_ ?_ | refine stepY (y_move rfl) rfl ?_ | refine stepY (y_assign rfl) rfl ?_ | refine stepY (y_loadA rfl rfl rfl) rfl ?_ | refine stepY (y_extract rfl rfl) rfl ?_)
      refine call_ Try.func20 rfl rfl (c3) rfl (by repeat (first | exact .refl _ | apply Les.cons | exact .nil)) rfl ?_
      repeat (first | refine seq_ ?_ | refine region_ ?_ | refine nil_ ?_ | refine stepY (y_move rfl) rfl ?_ | refine stepY (y_assign rfl) rfl ?_ | refine stepY (y_loadA rfl rfl rfl) rfl ?_ | refine stepY (y_extract rfl rfl) rfl ?_)
      refine call_ Try.func20 rfl rfl (c4) rfl (by repeat (first | exact .refl _ | apply Les.cons | exact .nil)) rfl ?_
      repeat (first | refine seq_ ?_ | refine region_ ?_ | refine nil_ ?_ | refine stepY (y_move rfl) rfl ?_ | refine stepY (y_assign rfl) rfl ?_ | refine stepY (y_loadA rfl rfl rfl) rfl ?_ | refine stepY (y_extract rfl rfl) rfl ?_)
      refine call_ Try.func24 rfl rfl (s1) rfl (by repeat (first | exact .refl _ | apply Les.cons | exact .nil)) rfl ?_
      repeat (first | refine seq_ ?_ | refine region_ ?_ | refine nil_ ?_ | refine stepY (y_move rfl) rfl ?_ | refine stepY (y_assign rfl) rfl ?_ | refine stepY (y_loadA rfl rfl rfl) rfl ?_ | refine stepY (y_extract rfl rfl) rfl ?_ | refine stepE (e_alloc rfl rfl rfl) ?_ | refine stepE (e_store rfl rfl rfl rfl rfl rfl rfl) ?_)
      refine call_ Try.func23 rfl rfl (a1) rfl (by repeat (first | exact .refl _ | apply Les.cons | exact .nil)) rfl ?_
      repeat (first | refine seq_ ?_ | refine region_ ?_ | refine nil_ ?_ | refine stepY (y_move rfl) rfl ?_ | refine stepY (y_assign rfl) rfl ?_ | refine stepY (y_loadA rfl rfl rfl) rfl ?_ | refine stepY (y_extract rfl rfl) rfl ?_ | refine stepE (e_alloc rfl rfl rfl) ?_ | refine stepE (e_store rfl rfl rfl rfl rfl rfl rfl) ?_)
      refine call_ Try.func23 rfl rfl (a2) rfl (by repeat (first | exact .refl _ | apply Les.cons | exact .nil)) rfl ?_
      repeat (first | refine seq_ ?_ | refine region_ ?_ | refine nil_ ?_ | refine stepY (y_move rfl) rfl ?_ | refine stepY (y_assign rfl) rfl ?_ | refine stepY (y_loadA rfl rfl rfl) rfl ?_ | refine stepY (y_extract rfl rfl) rfl ?_ | refine stepE (e_alloc rfl rfl rfl) ?_ | refine stepE (e_store rfl rfl rfl rfl rfl rfl rfl) ?_)
      refine call_ Try.func20 rfl rfl (c5) rfl (by repeat (first | exact .refl _ | exact .tag _ _ | apply Le.ag | apply Les.cons | exact .nil)) rfl ?_
      repeat (first | refine seq_ ?_ | refine region_ ?_ | refine nil_ ?_ | refine skip_ ?_ | refine cond_f rfl ?_ | refine guard_t rfl rfl rfl ?_ | refine guard_f rfl rfl rfl rfl ?_ | refine guard_u rfl rfl rfl ?_ | refine stepY (y_move rfl) rfl ?_ | refine stepY (y_assign rfl) rfl ?_ | (first | refine stepY (y_load1 rfl rfl rfl) rfl ?_ | refine stepY (y_loadA rfl rfl rfl) rfl ?_) | refine stepY (y_fieldAddr rfl) rfl ?_ | refine stepY (y_extract rfl rfl) rfl ?_ | refine stepY (y_len_si rfl) rfl ?_ | (first | refine stepY (y_pick_t rfl rfl) rfl ?_ | refine stepY (y_pick_f rfl rfl) rfl ?_) | refine stepY (y_binn rfl rfl rfl (by simp only [InK, loK, hiK]; omega)) rfl ?_ | (first | refine stepY (y_cmpT rfl rfl rfl (by omega)) rfl ?_ | refine stepY (y_eqb rfl rfl) rfl ?_) | refine stepY (y_cmpF rfl rfl rfl (by omega)) rfl ?_ | refine stepY (y_cmpF rfl rfl rfl (by omega)) rfl ?_ | (first | refine stepY (y_cmpT rfl rfl rfl (by omega)) rfl ?_ | refine stepY (y_cmpF rfl rfl rfl (by omega)) rfl ?_))
      refine call_ Try.func21 rfl rfl (e1) rfl (by repeat (first | exact .refl _ | apply Les.cons | exact .nil)) rfl ?_
      repeat (first | refine guard_t rfl rfl rfl ?_ | refine stepY (y_move rfl) rfl ?_ | refine stepY (y_pick_t rfl rfl) rfl ?_ | refine stepY (y_eqb rfl rfl) rfl ?_)
      refine call_ Try.func10 rfl rfl (exampleHolds_c) rfl (by repeat (exact .nil)) rfl ?_
      repeat (first | refine nil_ ?_ | refine ret_ ?_ | refine stepY (y_assign rfl) rfl ?_ | refine stepY (y_pick_t rfl rfl) rfl ?_)
      ((apply fin_r); (repeat (first | exact .nil | exact .tmp rfl | apply ResL.cons)); (repeat (exact .refl _)))
  · have e1 := Same_ne x y (fun h => absurd (le_eq' h) (Rat.not_le.2 f))
    rw [decide_eq_false (fun h => absurd (Rat.le_of_lt f) (Rat.not_le.2 (n1.1 h)))] at s1
    have hn : 0 < ln (x - y).num.natAbs := ln_pos.2 (by
      rcases Nat.eq_zero_or_pos (x - y).num.natAbs with h | h
      · exact absurd (le_eq' (n2.1 h)) (Rat.not_le.2 f)
      · exact h)
    refine con_of Try.func6 rfl rfl rfl rfl rfl ?_
    repeat (first | refine seq_ ?_ | refine region_ ?_ | refine nil_ ?_ | refine stepY (y_assign rfl) rfl ?_ | refine stepY (y_loadA rfl rfl rfl) rfl ?_ | refine stepE (e_box rfl rfl rfl rfl rfl rfl) ?_)
    refine call_ Try.func22 rfl rfl (t1) rfl (by repeat (first | exact .refl _ | apply Les.cons | exact .nil)) rfl ?_
    repeat (first | refine guard_t rfl rfl rfl ?_ | refine stepY (y_move rfl) rfl ?_ | refine stepY (y_loadA rfl rfl rfl) rfl ?_ | refine stepY (y_not rfl) rfl ?_)
    refine call_ Try.func22 rfl rfl (t2) rfl (by repeat (first | exact .refl _ | apply Les.cons | exact .nil)) rfl ?_
    repeat (first | refine guard_t rfl rfl rfl ?_ | refine stepY (y_move rfl) rfl ?_ | refine stepY (y_loadA rfl rfl rfl) rfl ?_ | refine stepY (y_not rfl) rfl ?_ | refine stepY (y_pick_f rfl rfl) rfl ?_)
    refine call_ Try.func22 rfl rfl (t3) rfl (by repeat (first | exact .refl _ | apply Les.cons | exact .nil)) rfl ?_
    repeat (first | refine guard_t rfl rfl rfl ?_ | refine stepY (y_move rfl) rfl ?_ | refine stepY (y_loadA rfl rfl rfl) rfl ?_ | refine stepY (y_not rfl) rfl ?_ | refine stepY (y_pick_f rfl rfl) rfl ?_)
    refine call_ Try.func15 rfl rfl (v1) rfl (by repeat (first | exact .refl _ | apply Les.cons | exact .nil)) rfl ?_
    repeat (first | refine guard_t rfl rfl rfl ?_ | refine stepY (y_move rfl) rfl ?_ | refine stepY (y_loadA rfl rfl rfl) rfl ?_ | refine stepY (y_not rfl) rfl ?_ | refine stepY (y_pick_f rfl rfl) rfl ?_)
    refine call_ Try.func15 rfl rfl (v2) rfl (by repeat (first | exact .refl _ | apply Les.cons | exact .nil)) rfl ?_
    repeat (first | refine guard_t rfl rfl rfl ?_ | refine stepY (y_move rfl) rfl ?_ | refine stepY (y_loadA rfl rfl rfl) rfl ?_ | refine stepY (y_not rfl) rfl ?_ | refine stepY (y_pick_f rfl rfl) rfl ?_)
    refine call_ Try.func15 rfl rfl (v3) rfl (by repeat (first | exact .refl _ | apply Les.cons | exact .nil)) rfl ?_
    repeat (first | refine seq_ ?_ | refine region_ ?_ | refine nil_ ?_ | refine skip_ ?_ | refine cond_f rfl ?_ | refine guard_t rfl rfl rfl ?_ | refine stepY (y_loadA rfl rfl rfl) rfl ?_ | refine stepY (y_not rfl) rfl ?_ | refine stepY (y_pick_f rfl rfl) rfl ?_)
    refine call_ Try.func20 rfl rfl (c1) rfl (by repeat (first | exact .refl _ | apply Les.cons | exact .nil)) rfl ?_
    repeat (first | refine seq_ ?_ | refine region_ ?_ | refine nil_ ?_ | refine stepY (y_move rfl) rfl ?_ | refine stepY (y_assign rfl) rfl ?_ | refine stepY (y_loadA rfl rfl rfl) rfl ?_ | refine stepY (y_extract rfl rfl) rfl ?_)
    refine call_ Try.func20 rfl rfl (c2) rfl (by repeat (first | exact .refl _ | apply Les.cons | exact .nil)) rfl ?_
    repeat (first | refine seq_ ?_ | refine region_ ?_ | refine nil_ ?_ | refine stepY (y_move rfl) rfl ?_ | refine stepY (y_assign rfl) rfl ?_ | refine stepY (y_loadA rfl rfl rfl) rfl ?_ | refine stepY (y_extract rfl rfl) rfl ?_)
    refine call_ Try.func20 rfl rfl (c3) rfl (by repeat (first | exact .refl _ | apply Les.cons | exact .nil)) rfl ?_
    repeat (first | refine seq_ ?_ | refine region_ ?_ | refine nil_ ?_ | refine stepY (y_move rfl) rfl ?_ | refine stepY (y_assign rfl) rfl ?_ | refine stepY (y_loadA rfl rfl rfl) rfl ?_ | refine stepY (y_extract rfl rfl) rfl ?_)
    refine call_ Try.func20 rfl rfl (c4) rfl (by repeat (first | exact .refl _ | apply Les.cons | exact .nil)) rfl ?_
    repeat (first | refine seq_ ?_ | refine region_ ?_ | refine nil_ ?_ | refine stepY (y_move rfl) rfl ?_ | refine stepY (y_assign rfl) rfl ?_ | refine stepY (y_loadA rfl rfl rfl) rfl ?_ | refine stepY (y_extract rfl rfl) rfl ?_)
    refine call_ Try.func24 rfl rfl (s1) rfl (by repeat (first | exact .refl _ | apply Les.cons | exact .nil)) rfl ?_
    repeat (first | refine seq_ ?_ | refine region_ ?_ | refine nil_ ?_ | refine stepY (y_move rfl) rfl ?_ | refine stepY (y_assign rfl) rfl ?_ | refine stepY (y_loadA rfl rfl rfl) rfl ?_ | refine stepY (y_extract rfl rfl) rfl ?_ | refine stepE (e_alloc rfl rfl rfl) ?_ | refine stepE (e_store rfl rfl rfl rfl rfl rfl rfl) ?_)
    refine call_ Try.func23 rfl rfl (a1) rfl (by repeat (first | exact .refl _ | apply Les.cons | exact .nil)) rfl ?_
    repeat (first | refine seq_ ?_ | refine region_ ?_ | refine nil_ ?_ | refine stepY (y_move rfl) rfl ?_ | refine stepY (y_assign rfl) rfl ?_ | refine stepY (y_loadA rfl rfl rfl) rfl ?_ | refine stepY (y_extract rfl rfl) rfl ?_ | refine stepE (e_alloc rfl rfl rfl) ?_ | refine stepE (e_store rfl rfl rfl rfl rfl rfl rfl) ?_)
    refine call_ Try.func23 rfl rfl (a2) rfl (by repeat (first | exact .refl _ | apply Les.cons | exact .nil)) rfl ?_
    repeat (first | refine seq_ ?_ | refine region_ ?_ | refine nil_ ?_ | refine stepY (y_move rfl) rfl ?_ | refine stepY (y_assign rfl) rfl ?_ | refine stepY (y_loadA rfl rfl rfl) rfl ?_ | refine stepY (y_extract rfl rfl) rfl ?_ | refine stepE (e_alloc rfl rfl rfl) ?_ | refine stepE (e_store rfl rfl rfl rfl rfl rfl rfl) ?_)
    refine call_ Try.func20 rfl rfl (c5) rfl (by repeat (first | exact .refl _ | exact .tag _ _ | apply Le.ag | apply Les.cons | exact .nil)) rfl ?_
    repeat (first | refine seq_ ?_ | refine region_ ?_ | refine nil_ ?_ | refine skip_ ?_ | refine cond_f rfl ?_ | refine guard_t rfl rfl rfl ?_ | refine guard_f rfl rfl rfl rfl ?_ | refine guard_u rfl rfl rfl ?_ | refine stepY (y_move rfl) rfl ?_ | refine stepY (y_assign rfl) rfl ?_ | (first | refine stepY (y_load1 rfl rfl rfl) rfl ?_ | refine stepY (y_loadA rfl rfl rfl) rfl ?_) | refine stepY (y_fieldAddr rfl) rfl ?_ | refine stepY (y_extract rfl rfl) rfl ?_ | refine stepY (y_len_si rfl) rfl ?_ | (first | refine stepY (y_pick_t rfl rfl) rfl ?_ | refine stepY (y_pick_f rfl rfl) rfl ?_) | refine stepY (y_binn rfl rfl rfl (by simp only [InK, loK, hiK]; omega)) rfl ?_ | (first | refine stepY (y_cmpF rfl rfl rfl (by omega)) rfl ?_ | refine stepY (y_eqb rfl rfl) rfl ?_) | refine stepY (y_cmpF rfl rfl rfl (by omega)) rfl ?_ | refine stepY (y_cmpF rfl rfl rfl (by omega)) rfl ?_ | refine stepY (y_cmpF rfl rfl rfl (by omega)) rfl ?_)
    refine call_ Try.func21 rfl rfl (e1) rfl (by repeat (first | exact .refl _ | apply Les.cons | exact .nil)) rfl ?_
    repeat (first | refine guard_t rfl rfl rfl ?_ | refine stepY (y_move rfl) rfl ?_ | refine stepY (y_pick_t rfl rfl) rfl ?_ | refine stepY (y_eqb rfl rfl) rfl ?_)
    refine call_ Try.func10 rfl rfl (exampleHolds_c) rfl (by repeat (exact .nil)) rfl ?_
    repeat (first | refine nil_ ?_ | refine ret_ ?_ | refine stepY (y_assign rfl) rfl ?_ | refine stepY (y_pick_t rfl rfl) rfl ?_)
    ((apply fin_r); (repeat (first | exact .nil | exact .tmp rfl | apply ResL.cons)); (repeat (exact .refl _)))
end Go.Av

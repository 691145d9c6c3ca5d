/- Contracts behind a law: no conditions beyond those in each statement. -/
import Derived.Test.YtmaobhmoipegeaaSb
import Derived.Test.YtmaobhmoipegeaaJ5
set_option maxHeartbeats 8000000
set_option exponentiation.threshold 100000
set_option maxRecDepth 100000
set_option linter.unusedVariables false
set_option linter.unusedSimpArgs false
namespace Go.Av
open Go Go.Proofs
/-! FractionNearest -/
theorem mk_g (n : Int) {d : Nat} (hd : 0 < d) : ∃ g : Nat, 0 < g ∧ n = (mkRat n d).num * g ∧ (d : Int) = ((mkRat n d).den : Int) * g := by
  obtain ⟨e1, e2⟩ := mkQ n hd
  have hg := gcd_pos' (n := n.natAbs) hd
  refine ⟨Nat.gcd n.natAbs d, hg, ?_, ?_⟩
  · rw [e1, Int.ediv_mul_cancel]
    exact Int.ofNat_dvd_left.2 (Nat.gcd_dvd_left _ _)
  · rw [e2, ← Int.natCast_mul, Nat.div_mul_cancel (Nat.gcd_dvd_right _ _)]
theorem mk_le (n : Int) {d : Nat} (hd : 0 < d) (x : Rat) : mkRat n d ≤ x ↔ n * x.den ≤ x.num * d := by
  obtain ⟨g, hg, h1, h2⟩ := mk_g n hd
  rw [Rat.le_iff, h2]
  conv => rhs; lhs; rw [h1]
  generalize (mkRat n d).num = a
  generalize ((mkRat n d).den : Int) = b
  rw [show a * (g : Int) * x.den = (a * x.den) * g by rw [Int.mul_right_comm], ← Int.mul_assoc]
  exact (Int.mul_le_mul_right (by omega)).symm
theorem mk_lt (n : Int) {d : Nat} (hd : 0 < d) (x : Rat) : x < mkRat n d ↔ x.num * d < n * x.den := by
  rw [← Rat.not_le, mk_le n hd x]
  omega
theorem rnd_dv (x : Rat) : rnd x = (2 * x.num + x.den) / ((x.den * 2 : Nat) : Int) := by
  have hd : 0 < (x.den : Int) := by have := x.den_pos; omega
  have h1 := Int.mul_ediv_add_emod x.num x.den
  have h2 := Int.emod_nonneg x.num (b := (x.den : Int)) (by omega)
  have h3 := Int.emod_lt_of_pos x.num hd
  unfold rnd
  rw [floor_num]
  generalize x.num / (x.den : Int) = q at *
  generalize x.num % (x.den : Int) = r at *
  generalize (x.den : Nat) = d at *
  have e : 2 * x.num = (d : Int) * 2 * q + 2 * r := by rw [← h1]; rw [Int.mul_add, Int.mul_comm (d : Int) 2, Int.mul_assoc]
  by_cases h : 2 * r < d
  · rw [if_pos h]
    exact ((Int.ediv_emod_unique (a := 2 * x.num + d) (b := ((d * 2 : Nat) : Int)) (r := 2 * r + d) (q := q) (by omega)).2 ⟨by rw [e, show ((d * 2 : Nat) : Int) = (d : Int) * 2 by omega]; omega, by omega, by omega⟩).1.symm
  · rw [if_neg h]
    refine ((Int.ediv_emod_unique (a := 2 * x.num + d) (b := ((d * 2 : Nat) : Int)) (r := 2 * r - d) (q := q + 1) (by omega)).2 ⟨?_, by omega, by omega⟩).1.symm
    rw [e, show ((d * 2 : Nat) : Int) = (d : Int) * 2 by omega, Int.mul_add, Int.mul_one]
    omega
theorem rnd_facts (x : Rat) : (rnd x * 2 - 1) * x.den ≤ x.num * 2 ∧ x.num * 2 < (rnd x * 2 + 1) * x.den := by
  have hd : 0 < ((x.den * 2 : Nat) : Int) := by have := x.den_pos; omega
  have h1 := Int.mul_ediv_add_emod (2 * x.num + x.den) ((x.den * 2 : Nat) : Int)
  have h2 := Int.emod_nonneg (2 * x.num + x.den) (b := ((x.den * 2 : Nat) : Int)) (by omega)
  have h3 := Int.emod_lt_of_pos (2 * x.num + x.den) hd
  rw [rnd_dv]
  generalize (2 * x.num + x.den) / ((x.den * 2 : Nat) : Int) = r at *
  generalize (2 * x.num + x.den) % ((x.den * 2 : Nat) : Int) = m at *
  have e : ((x.den * 2 : Nat) : Int) * r = (r * 2) * x.den := by
    rw [show ((x.den * 2 : Nat) : Int) = (x.den : Int) * 2 by omega, Int.mul_assoc, Int.mul_comm, Int.mul_comm 2 r]
  rw [e] at h1
  rw [Int.sub_mul, Int.add_mul]
  omega
theorem int_q (f : Int) : Rat.divInt f 1 = ((f : Int) : Rat) := Rat.mkRat_self ((f : Int) : Rat)
theorem one_q : Q_ 1 1 = 1 := by decide +kernel
theorem okB_int {k : Nat} {f : Int} (h : ln f.natAbs ≤ k) (hk : 1 ≤ k) : okB k ((f : Int) : Rat) := ⟨h, Nat.le_trans (show ln 1 ≤ 1 by decide) hk⟩
theorem New_1 (f : Int) (h : ln f.natAbs ≤ 512) : Con Try.prog 11 [IV f, IV 1] (.tp [FQ ((f : Int) : Rat), E_ 0]) := by
  have hn := New_i f 1 h (by decide)
  unfold ofR at hn
  rwa [if_neg (by decide), int_q, resQ_ok ((okB_int (k := 512) h (by decide)).ok (by decide))] at hn
theorem rnd_abs (x : Rat) : (rnd x).natAbs ≤ x.num.natAbs + 1 := by
  have := floor_abs x
  unfold rnd
  split <;> omega
theorem FNearest_c (p : Bool) (l : List Int) (q : Bool) (k : List Int) (hl : wf l) (hk : wf k) : Con Try.prog 8 [AF p l q k] (Bo true) := by
  have t1 := tiny_c p l q k
  have v1 := FValid_c p l q k hl hk
  by_cases g1 : l.length ≤ 3 ∧ k.length ≤ 3
  case neg =>
    rw [decide_eq_false g1] at t1
    refine con_of Try.func8 rfl rfl rfl rfl rfl ?_
    repeat (first | refine seq_ ?_ | refine region_ ?_ | refine nil_ ?_ | refine stepY (y_assign rfl) rfl ?_ | refine stepY (y_loadA rfl rfl rfl) rfl ?_ | refine stepE (e_box rfl rfl rfl rfl rfl rfl) ?_)
    refine call_ Try.func22 rfl rfl (t1) rfl (by repeat (first | exact .refl _ | apply Les.cons | exact .nil)) rfl ?_
    repeat (first | refine seq_ ?_ | refine region_ ?_ | refine nil_ ?_ | refine cond_t rfl ?_ | refine guard_f rfl rfl rfl rfl ?_ | refine stepY (y_move rfl) rfl ?_ | refine stepY (y_not rfl) rfl ?_ | refine stepY (y_pick_t rfl rfl) rfl ?_)
    refine call_ Try.func10 rfl rfl (exampleHolds_c) rfl (by repeat (exact .nil)) rfl ?_
    repeat (first | refine nil_ ?_ | refine ret_ ?_ | refine stepY (y_assign rfl) rfl ?_)
    ((apply fin_r); (repeat (first | exact .nil | exact .tmp rfl | apply ResL.cons)); (repeat (exact .refl _)))
  rw [decide_eq_true g1] at t1
  cases w1 : vldF p l q k
  case false =>
    rw [w1] at v1
    refine con_of Try.func8 rfl rfl rfl rfl rfl ?_
    repeat (first | refine seq_ ?_ | refine region_ ?_ | refine nil_ ?_ | refine stepY (y_assign rfl) rfl ?_ | refine stepY (y_loadA rfl rfl rfl) rfl ?_ | refine stepE (e_box rfl rfl rfl rfl rfl rfl) ?_)
    refine call_ Try.func22 rfl rfl (t1) rfl (by repeat (first | exact .refl _ | apply Les.cons | exact .nil)) rfl ?_
    repeat (first | refine guard_t rfl rfl rfl ?_ | refine stepY (y_move rfl) rfl ?_ | refine stepY (y_loadA rfl rfl rfl) rfl ?_ | refine stepY (y_not rfl) rfl ?_)
    refine call_ Try.func15 rfl rfl (v1) rfl (by repeat (first | exact .refl _ | apply Les.cons | exact .nil)) rfl ?_
    repeat (first | refine seq_ ?_ | refine region_ ?_ | refine nil_ ?_ | refine cond_t rfl ?_ | refine guard_t rfl rfl rfl ?_ | refine stepY (y_not rfl) rfl ?_ | refine stepY (y_pick_f rfl rfl) rfl ?_)
    refine call_ Try.func10 rfl rfl (exampleHolds_c) rfl (by repeat (exact .nil)) rfl ?_
    repeat (first | refine nil_ ?_ | refine ret_ ?_ | refine stepY (y_assign rfl) rfl ?_)
    ((apply fin_r); (repeat (first | exact .nil | exact .tmp rfl | apply ResL.cons)); (repeat (exact .refl _)))
  rw [w1] at v1
  obtain ⟨x, hx, rfl, rfl, rfl, rfl⟩ := tinyQ hl hk w1 g1
  clear w1 g1 hl hk
  have hx0 := hx.ok (by decide)
  have o1 := of_c 1 1 (by omega) (by omega) (by omega)
  have o2 := of_c 1 2 (by omega) (by omega) (by omega)
  have f1 := FFloor_q x hx0
  have r1 := FRound_q x hx0
  have lf : ln x.floor.natAbs ≤ 3 := Nat.le_trans (ln_mono (floor_abs x)) hx.1
  have lr : ln (rnd x).natAbs ≤ 4 := by
    have h1 := ln_le.1 hx.1
    have h2 := rnd_abs x
    rw [ln_le]
    have h3 : (1 : Nat) < B ^ 3 := by decide
    have h4 : x.num.natAbs + 1 < B ^ 4 := sum_lt h1 h3
    omega
  have n1 := New_1 x.floor (by omega)
  have n2 := New_1 (rnd x) (by omega)
  have hF := okB_int (k := 3) lf (by decide)
  have hR := okB_int (k := 4) lr (by decide)
  have hone : okB 1 (Q_ 1 1) := by unfold okB; decide +kernel
  have hhalf : okB 1 (Q_ 1 2) := by unfold okB; decide +kernel
  have a1 := Add_b hF hone (by decide)
  have s1 := Sub_b hR hhalf (by decide)
  have a2 := Add_b hR hhalf (by decide)
  have c1 := FCmp_q _ x (hF.ok (by decide)) hx0
  have c2 := FCmp_q x _ hx0 ((okB_add hF hone).ok (by decide))
  have c3 := FCmp_q _ x ((okB_sub hR hhalf).ok (by decide)) hx0
  have c4 := FCmp_q x _ hx0 ((okB_add hR hhalf).ok (by decide))
  obtain ⟨m1, m2⟩ := rnd_facts x
  have k1 : qcmp ((x.floor : Int) : Rat) x ≤ 0 := (qcmp_le _ _).2 (Rat.floor_le x)
  have k2 : qcmp x (((x.floor : Int) : Rat) + Q_ 1 1) < 0 := by
    have h : x < ((x.floor : Int) : Rat) + Q_ 1 1 := by
      have := Rat.lt_floor_add_one x
      rwa [Rat.intCast_add] at this
    rcases qcmp_cases x (((x.floor : Int) : Rat) + Q_ 1 1) with ⟨_, e⟩ | ⟨e, _⟩ | ⟨e, _⟩
    · rw [e]; decide
    · exact absurd (le_eq' e.symm) (Rat.not_le.2 h)
    · exact absurd (Rat.le_of_lt e) (Rat.not_le.2 h)
  have e3 : ((rnd x : Int) : Rat) - Q_ 1 2 = mkRat (rnd x * 2 - 1) 2 := by
    rw [← int_q]
    unfold Q_
    rw [Rat.divInt_sub_divInt _ _ (by decide) (by decide), Int.one_mul]
    rfl
  have e4 : ((rnd x : Int) : Rat) + Q_ 1 2 = mkRat (rnd x * 2 + 1) 2 := by
    rw [← int_q]
    unfold Q_
    rw [Rat.divInt_add_divInt _ _ (by decide) (by decide), Int.one_mul]
    rfl
  have k3 : qcmp (((rnd x : Int) : Rat) - Q_ 1 2) x ≤ 0 := by
    rw [qcmp_le, e3, mk_le _ (by decide)]
    exact m1
  have k4 : qcmp x (((rnd x : Int) : Rat) + Q_ 1 2) < 0 := by
    have h : x < ((rnd x : Int) : Rat) + Q_ 1 2 := by
      rw [e4, mk_lt _ (by decide)]
      exact m2
    rcases qcmp_cases x (((rnd x : Int) : Rat) + Q_ 1 2) with ⟨_, e⟩ | ⟨e, _⟩ | ⟨e, _⟩
    · rw [e]; decide
    · exact absurd (le_eq' e.symm) (Rat.not_le.2 h)
    · exact absurd (Rat.le_of_lt e) (Rat.not_le.2 h)
  have hiv : IV 1 = SV (decide ((Q_ 1 1).num < 0)) (Q_ 1 1).num.natAbs := by rw [one_q]; rfl
  rw [hiv] at n1 n2
  generalize ((x.floor : Int) : Rat) = F at *
  generalize ((rnd x : Int) : Rat) = R at *
  generalize qcmp F x = b1 at *
  generalize qcmp x (F + Q_ 1 1) = b2 at *
  generalize qcmp (R - Q_ 1 2) x = b3 at *
  generalize qcmp x (R + Q_ 1 2) = b4 at *
  generalize F + Q_ 1 1 = G1 at *
  generalize R - Q_ 1 2 = G2 at *
  generalize R + Q_ 1 2 = G3 at *
  refine con_of Try.func8 rfl rfl rfl rfl rfl ?_
  repeat (first | refine seq_ ?_ | refine region_ ?_ | refine nil_ ?_ | refine stepY (y_assign rfl) rfl ?_ | refine stepY (y_loadA rfl rfl rfl) rfl ?_ | refine stepE (e_box rfl rfl rfl rfl rfl rfl) ?_)
  refine call_ Try.func22 rfl rfl (t1) rfl (by repeat (first | exact .refl _ | apply Les.cons | exact .nil)) rfl ?_
  repeat (first | refine guard_t rfl rfl rfl ?_ | refine stepY (y_move rfl) rfl ?_ | refine stepY (y_loadA rfl rfl rfl) rfl ?_ | refine stepY (y_not rfl) rfl ?_)
  refine call_ Try.func15 rfl rfl (v1) rfl (by repeat (first | exact .refl _ | apply Les.cons | exact .nil)) rfl ?_
  repeat (first | refine seq_ ?_ | refine region_ ?_ | refine nil_ ?_ | refine skip_ ?_ | refine cond_f rfl ?_ | refine guard_t rfl rfl rfl ?_ | refine stepY (y_not rfl) rfl ?_ | refine stepY (y_pick_f rfl rfl) rfl ?_)
  refine call_ Try.func29 rfl rfl (o1) rfl (by repeat (first | exact .refl _ | apply Les.cons | exact .nil)) rfl ?_
  repeat (first | refine seq_ ?_ | refine region_ ?_ | refine nil_ ?_ | refine stepE (e_alloc rfl rfl rfl) ?_ | refine stepE (e_store rfl rfl rfl rfl rfl rfl rfl) ?_)
  refine call_ Try.func29 rfl rfl (o2) rfl (by repeat (first | exact .refl _ | apply Les.cons | exact .nil)) rfl ?_
  repeat (first | refine seq_ ?_ | refine region_ ?_ | refine nil_ ?_ | refine stepY (y_loadA rfl rfl rfl) rfl ?_ | refine stepE (e_alloc rfl rfl rfl) ?_ | refine stepE (e_store rfl rfl rfl rfl rfl rfl rfl) ?_)
  refine call_ Try.func30 rfl rfl (f1) rfl (by repeat (first | exact .refl _ | apply Les.cons | exact .nil)) rfl ?_
  repeat (first | refine seq_ ?_ | refine region_ ?_ | refine nil_ ?_ | refine stepY (y_move rfl) rfl ?_ | refine stepY (y_assign rfl) rfl ?_ | refine stepY (y_loadA rfl rfl rfl) rfl ?_ | refine stepY (y_extract rfl rfl) rfl ?_ | refine stepE (e_alloc rfl rfl rfl) ?_ | refine stepE (e_store rfl rfl rfl rfl rfl rfl rfl) ?_)
  refine call_ Try.func31 rfl rfl (r1) rfl (by repeat (first | exact .refl _ | apply Les.cons | exact .nil)) rfl ?_
  repeat (first | refine seq_ ?_ | refine region_ ?_ | refine nil_ ?_ | refine skip_ ?_ | refine cond_f rfl ?_ | refine guard_t rfl rfl rfl ?_ | refine stepY (y_move rfl) rfl ?_ | refine stepY (y_assign rfl) rfl ?_ | refine stepY (y_loadA rfl rfl rfl) rfl ?_ | refine stepY (y_fieldAddr rfl) rfl ?_ | refine stepY (y_extract rfl rfl) rfl ?_ | refine stepY (y_pick_f rfl rfl) rfl ?_ | refine stepY (y_cmpF rfl rfl rfl (by omega)) rfl ?_ | refine stepE (e_alloc rfl rfl rfl) ?_ | refine stepE (e_store rfl rfl rfl rfl rfl rfl rfl) ?_)
  refine call_ Try.func11 rfl rfl (n1) rfl (by repeat (first | exact .refl _ | exact .tag _ _ | apply Le.ag | apply Les.cons | exact .nil)) rfl ?_
  repeat (first | refine seq_ ?_ | refine region_ ?_ | refine nil_ ?_ | refine stepY (y_move rfl) rfl ?_ | refine stepY (y_assign rfl) rfl ?_ | refine stepY (y_loadA rfl rfl rfl) rfl ?_ | refine stepY (y_fieldAddr rfl) rfl ?_ | refine stepY (y_extract rfl rfl) rfl ?_ | refine stepE (e_alloc rfl rfl rfl) ?_ | refine stepE (e_store rfl rfl rfl rfl rfl rfl rfl) ?_)
  refine call_ Try.func11 rfl rfl (n2) rfl (by repeat (first | exact .refl _ | exact .tag _ _ | apply Le.ag | apply Les.cons | exact .nil)) rfl ?_
  repeat (first | refine seq_ ?_ | refine region_ ?_ | refine nil_ ?_ | refine skip_ ?_ | refine cond_f rfl ?_ | refine guard_t rfl rfl rfl ?_ | refine stepY (y_move rfl) rfl ?_ | refine stepY (y_assign rfl) rfl ?_ | refine stepY (y_loadA rfl rfl rfl) rfl ?_ | refine stepY (y_extract rfl rfl) rfl ?_ | refine stepY (y_pick_f rfl rfl) rfl ?_ | refine stepY (y_cmpF rfl rfl rfl (by omega)) rfl ?_ | refine stepE (e_alloc rfl rfl rfl) ?_ | refine stepE (e_store rfl rfl rfl rfl rfl rfl rfl) ?_)
  refine call_ Try.func23 rfl rfl (a1) rfl (by repeat (first | exact .refl _ | exact .tag _ _ | apply Le.ag | apply Les.cons | exact .nil)) rfl ?_
  repeat (first | refine seq_ ?_ | refine region_ ?_ | refine nil_ ?_ | refine stepY (y_move rfl) rfl ?_ | refine stepY (y_assign rfl) rfl ?_ | refine stepY (y_loadA rfl rfl rfl) rfl ?_ | refine stepY (y_extract rfl rfl) rfl ?_ | refine stepE (e_alloc rfl rfl rfl) ?_ | refine stepE (e_store rfl rfl rfl rfl rfl rfl rfl) ?_)
  refine call_ Try.func24 rfl rfl (s1) rfl (by repeat (first | exact .refl _ | exact .tag _ _ | apply Le.ag | apply Les.cons | exact .nil)) rfl ?_
  repeat (first | refine seq_ ?_ | refine region_ ?_ | refine nil_ ?_ | refine stepY (y_move rfl) rfl ?_ | refine stepY (y_assign rfl) rfl ?_ | refine stepY (y_loadA rfl rfl rfl) rfl ?_ | refine stepY (y_extract rfl rfl) rfl ?_ | refine stepE (e_alloc rfl rfl rfl) ?_ | refine stepE (e_store rfl rfl rfl rfl rfl rfl rfl) ?_)
  refine call_ Try.func23 rfl rfl (a2) rfl (by repeat (first | exact .refl _ | exact .tag _ _ | apply Le.ag | apply Les.cons | exact .nil)) rfl ?_
  repeat (first | refine seq_ ?_ | refine region_ ?_ | refine nil_ ?_ | refine stepY (y_move rfl) rfl ?_ | refine stepY (y_assign rfl) rfl ?_ | refine stepY (y_loadA rfl rfl rfl) rfl ?_ | refine stepY (y_extract rfl rfl) rfl ?_ | refine stepE (e_alloc rfl rfl rfl) ?_ | refine stepE (e_store rfl rfl rfl rfl rfl rfl rfl) ?_)
  refine call_ Try.func20 rfl rfl (c1) rfl (by repeat (first | exact .refl _ | exact .tag _ _ | apply Le.ag | apply Les.cons | exact .nil)) rfl ?_
  repeat (first | refine seq_ ?_ | refine region_ ?_ | refine nil_ ?_ | refine stepY (y_move rfl) rfl ?_ | refine stepY (y_assign rfl) rfl ?_ | refine stepY (y_loadA rfl rfl rfl) rfl ?_ | refine stepY (y_extract rfl rfl) rfl ?_)
  refine call_ Try.func20 rfl rfl (c2) rfl (by repeat (first | exact .refl _ | exact .tag _ _ | apply Le.ag | apply Les.cons | exact .nil)) rfl ?_
  repeat (first | refine seq_ ?_ | refine region_ ?_ | refine nil_ ?_ | refine stepY (y_move rfl) rfl ?_ | refine stepY (y_assign rfl) rfl ?_ | refine stepY (y_loadA rfl rfl rfl) rfl ?_ | refine stepY (y_extract rfl rfl) rfl ?_)
  refine call_ Try.func20 rfl rfl (c3) rfl (by repeat (first | exact .refl _ | exact .tag _ _ | apply Le.ag | apply Les.cons | exact .nil)) rfl ?_
  repeat (first | refine seq_ ?_ | refine region_ ?_ | refine nil_ ?_ | refine stepY (y_move rfl) rfl ?_ | refine stepY (y_assign rfl) rfl ?_ | refine stepY (y_loadA rfl rfl rfl) rfl ?_ | refine stepY (y_extract rfl rfl) rfl ?_)
  refine call_ Try.func20 rfl rfl (c4) rfl (by repeat (first | exact .refl _ | exact .tag _ _ | apply Le.ag | apply Les.cons | exact .nil)) rfl ?_
  repeat (first | refine seq_ ?_ | refine region_ ?_ | refine nil_ ?_ | refine guard_t rfl rfl rfl ?_ | refine stepY (y_move rfl) rfl ?_ | refine stepY (y_assign rfl) rfl ?_ | refine stepY (y_extract rfl rfl) rfl ?_ | refine stepY (y_pick_t rfl rfl) rfl ?_ | refine stepY (y_cmpT rfl rfl rfl (by omega)) rfl ?_ | refine stepY (y_cmpT rfl rfl rfl (by omega)) rfl ?_)
  refine call_ Try.func10 rfl rfl (exampleHolds_c) rfl (by repeat (exact .nil)) rfl ?_
  repeat (first | refine nil_ ?_ | refine ret_ ?_ | refine stepY (y_assign rfl) rfl ?_ | refine stepY (y_pick_t rfl rfl) rfl ?_)
  ((apply fin_r); (repeat (first | exact .nil | exact .tmp rfl | apply ResL.cons)); (repeat (exact .refl _)))
end Go.Av

import Derived.Test.YtckngipgcnhfpaaLv
set_option maxHeartbeats 8000000
set_option exponentiation.threshold 100000
set_option maxRecDepth 100000
set_option linter.unusedVariables false
set_option linter.unusedSimpArgs false
namespace Go.Av
open Go Go.Proofs
theorem resI_ex (z : Int) : ∃ a e : Int, ln a.natAbs ≤ 512 ∧ resI z = .tp [FIV a, E_ e] ∧ (e = 0 → a = z ∧ ln z.natAbs ≤ 512) ∧ (e ≠ 0 → e = 4 ∧ a = 0 ∧ ¬ ln z.natAbs ≤ 512) := by
  by_cases h : ln z.natAbs ≤ 512
  · exact ⟨z, 0, h, resI_ok h, fun _ => ⟨rfl, h⟩, fun h => absurd rfl h⟩
  · exact ⟨0, 4, by decide, resI_no h, fun h => absurd h (by decide), fun _ => ⟨rfl, rfl, h⟩⟩
/-- A value of the type is told by its sign and limbs, in normal form or not. -/
theorem norm {p : Bool} {l : List Int} (hl : wf l) (h : vldB p l = true) : ∃ m, l = limbs m ∧ vldB p (limbs m) = true := by
  have h1 : l = limbs (val l) := by
    refine (limbs_val hl ?_).symm
    unfold vldB at h
    simp only [Bool.and_eq_true] at h
    by_cases h0 : l.length = 0
    · exact .inl (List.eq_nil_of_length_eq_zero h0)
    · right
      have h2 := h.2
      rw [if_neg h0, decide_eq_true_eq] at h2
      unfold rd at h2
      rwa [show ((l.length : Int) - 1).toNat = l.length - 1 by omega] at h2
  exact ⟨val l, h1, by rw [← h1]; exact h⟩
theorem Multiplies_x (p q : Bool) (l k : List Int) (a e : Int) (h1 : Con Try.prog 27 [AV p l, AV q k] (.tp [FIV a, E_ e])) (h2 : Con Try.prog 28 [AV p l, AV q k] (.tp [FIV a, E_ e])) : Con Try.prog 6 [AV p l, AV q k] (Bo true) := by
  refine con_of Try.func6 rfl rfl rfl rfl rfl ?_
  have hs := same_r a
  repeat (first | refine seq_ ?_ | refine region_ ?_ | refine nil_ ?_ | refine stepY (y_assign rfl) rfl ?_ | refine stepY (y_loadA rfl rfl rfl) rfl ?_ | refine stepE (e_box rfl rfl rfl rfl rfl rfl) ?_)
  refine call_ Try.func27 rfl rfl h1 rfl (by repeat (first | exact .refl _ | apply Les.cons | exact .nil)) rfl ?_
  repeat (first | refine seq_ ?_ | refine region_ ?_ | refine nil_ ?_ | refine stepY (y_move rfl) rfl ?_ | refine stepY (y_assign rfl) rfl ?_ | refine stepY (y_loadA rfl rfl rfl) rfl ?_ | refine stepY (y_extract rfl rfl) rfl ?_ | refine stepE (e_alloc rfl rfl rfl) ?_ | refine stepE (e_store rfl rfl rfl rfl rfl rfl rfl) ?_)
  refine call_ Try.func28 rfl rfl h2 rfl (by repeat (first | exact .refl _ | apply Les.cons | exact .nil)) rfl ?_
  repeat (first | refine seq_ ?_ | refine region_ ?_ | refine nil_ ?_ | refine stepY (y_move rfl) rfl ?_ | refine stepY (y_assign rfl) rfl ?_ | refine stepY (y_loadA rfl rfl rfl) rfl ?_ | refine stepY (y_extract rfl rfl) rfl ?_ | refine stepE (e_alloc rfl rfl rfl) ?_ | refine stepE (e_store rfl rfl rfl rfl rfl rfl rfl) ?_)
  refine call_ Try.func19 rfl rfl hs rfl (by repeat (first | exact .refl _ | exact .tag _ _ | apply Le.ag | apply Les.cons | exact .nil)) rfl ?_
  repeat (first | refine guard_t rfl rfl rfl ?_ | refine stepY (y_move rfl) rfl ?_ | refine stepY (y_pick_t rfl rfl) rfl ?_ | refine stepY (y_cmpT rfl rfl rfl (by omega)) rfl ?_)
  refine call_ Try.func20 rfl rfl examples_c rfl (by repeat (exact .nil)) rfl ?_
  repeat (first | refine nil_ ?_ | refine ret_ ?_ | refine stepY (y_assign rfl) rfl ?_ | refine stepY (y_pick_t rfl rfl) rfl ?_)
  ((apply fin_r); (repeat (first | exact .nil | exact .tmp rfl | apply ResL.cons)); (repeat (exact .refl _)))
theorem Multiplies_c (p q : Bool) (l k : List Int) (hl : wf l) (hk : wf k) : Con Try.prog 6 [AV p l, AV q k] (Bo true) := by
  cases hv : vldB p l && vldB q k with
  | false => exact Multiplies_x p q l k 0 1 (Mul_e p q l k hv) (RMul_e p q l k hv)
  | true =>
    rw [Bool.and_eq_true] at hv
    obtain ⟨m, rfl, hm⟩ := norm hl hv.1
    obtain ⟨n, rfl, hn⟩ := norm hk hv.2
    have h1 := Mul_s p q m n hm hn
    have h2 := RMul_s p q m n hm hn
    obtain ⟨a, e, _, he, _⟩ := resI_ex (sgn p m * sgn q n)
    rw [he] at h1 h2
    exact Multiplies_x p q _ _ a e h1 h2
theorem Adds_x (p q : Bool) (l k : List Int) (a b c e e' d : Int) (h1 : Con Try.prog 40 [AV p l, AV q k] (.tp [FIV a, E_ e])) (h2 : Con Try.prog 45 [AV p l, AV q k] (.tp [FIV a, E_ e]))
    (h3 : Con Try.prog 42 [AV p l, AV q k] (.tp [FIV b, E_ e'])) (h4 : Con Try.prog 46 [AV p l, AV q k] (.tp [FIV b, E_ e']))
    (h5 : Con Try.prog 43 [AV p l] (FIV c)) (h6 : Con Try.prog 47 [AV p l] (FIV c)) (h7 : Con Try.prog 44 [AV p l, AV q k] (I d)) (h8 : Con Try.prog 48 [AV p l, AV q k] (I d)) :
    Con Try.prog 13 [AV p l, AV q k] (Bo true) := by
  refine con_of Try.func13 rfl rfl rfl rfl rfl ?_
  have sa := same_r a
  have sb := same_r b
  have sc := same_r c
  repeat (first | refine seq_ ?_ | refine region_ ?_ | refine nil_ ?_ | refine stepY (y_assign rfl) rfl ?_ | refine stepY (y_loadA rfl rfl rfl) rfl ?_ | refine stepE (e_box rfl rfl rfl rfl rfl rfl) ?_)
  refine call_ Try.func40 rfl rfl h1 rfl (by repeat (first | exact .refl _ | apply Les.cons | exact .nil)) rfl ?_
  repeat (first | refine seq_ ?_ | refine region_ ?_ | refine nil_ ?_ | refine stepY (y_move rfl) rfl ?_ | refine stepY (y_assign rfl) rfl ?_ | refine stepY (y_loadA rfl rfl rfl) rfl ?_ | refine stepY (y_extract rfl rfl) rfl ?_ | refine stepE (e_alloc rfl rfl rfl) ?_ | refine stepE (e_store rfl rfl rfl rfl rfl rfl rfl) ?_)
  refine call_ Try.func45 rfl rfl h2 rfl (by repeat (first | exact .refl _ | apply Les.cons | exact .nil)) rfl ?_
  repeat (first | refine seq_ ?_ | refine region_ ?_ | refine nil_ ?_ | refine stepY (y_move rfl) rfl ?_ | refine stepY (y_assign rfl) rfl ?_ | refine stepY (y_loadA rfl rfl rfl) rfl ?_ | refine stepY (y_extract rfl rfl) rfl ?_ | refine stepE (e_alloc rfl rfl rfl) ?_ | refine stepE (e_store rfl rfl rfl rfl rfl rfl rfl) ?_)
  refine call_ Try.func42 rfl rfl h3 rfl (by repeat (first | exact .refl _ | apply Les.cons | exact .nil)) rfl ?_
  repeat (first | refine seq_ ?_ | refine region_ ?_ | refine nil_ ?_ | refine stepY (y_move rfl) rfl ?_ | refine stepY (y_assign rfl) rfl ?_ | refine stepY (y_loadA rfl rfl rfl) rfl ?_ | refine stepY (y_extract rfl rfl) rfl ?_ | refine stepE (e_alloc rfl rfl rfl) ?_ | refine stepE (e_store rfl rfl rfl rfl rfl rfl rfl) ?_)
  refine call_ Try.func46 rfl rfl h4 rfl (by repeat (first | exact .refl _ | apply Les.cons | exact .nil)) rfl ?_
  repeat (first | refine seq_ ?_ | refine nil_ ?_ | refine stepY (y_move rfl) rfl ?_ | refine stepY (y_assign rfl) rfl ?_ | refine stepY (y_extract rfl rfl) rfl ?_ | refine stepE (e_alloc rfl rfl rfl) ?_ | refine stepE (e_store rfl rfl rfl rfl rfl rfl rfl) ?_)
  refine draw_ [(0, true), (1, true), (2, false), (3, true), (4, true), (5, true), (6, true), (7, true), (8, true), (9, true), (10, true), (11, false), (12, true), (13, true), (14, true), (15, true), (16, true), (17, true), (18, true), (19, true), (21, true), (20, false), (22, false), (23, false), (24, true), (25, true), (26, true), (27, true), (29, true), (30, true), (28, false), (31, false), (32, true), (33, true), (34, true), (35, false), (36, true), (37, true)] 1000 [2,3,5,7,9,11] mixed (by kernel_rfl) rfl ?_
  ((refine dY rfl (y_loadA rfl rfl rfl) rfl rfl rfl rfl ?_); refine dY rfl (y_loadA rfl rfl rfl) rfl rfl rfl rfl ?_)
  refine dC rfl Try.func19 rfl rfl sa rfl (by repeat (first | exact .refl _ | exact .tag _ _ | apply Le.ag | apply Les.cons | exact .nil)) rfl rfl ?_
  ((refine dY rfl (y_move rfl) rfl rfl rfl rfl ?_); refine dY rfl (y_move rfl) rfl rfl rfl rfl ?_; refine dY rfl (y_move rfl) rfl rfl rfl rfl ?_; refine dY rfl (y_cmpT rfl rfl rfl (by omega)) rfl rfl rfl rfl ?_; refine dY rfl (y_pick_t rfl rfl) rfl rfl rfl rfl ?_; refine dY rfl (y_move rfl) rfl rfl rfl rfl ?_; refine dY rfl (y_loadA rfl rfl rfl) rfl rfl rfl rfl ?_; refine dY rfl (y_loadA rfl rfl rfl) rfl rfl rfl rfl ?_)
  refine dC rfl Try.func19 rfl rfl sb rfl (by repeat (first | exact .refl _ | exact .tag _ _ | apply Le.ag | apply Les.cons | exact .nil)) rfl rfl ?_
  ((refine dY rfl (y_pick_t rfl rfl) rfl rfl rfl rfl ?_); refine dY rfl (y_move rfl) rfl rfl rfl rfl ?_; refine dY rfl (y_move rfl) rfl rfl rfl rfl ?_; refine dY rfl (y_move rfl) rfl rfl rfl rfl ?_; refine dY rfl (y_cmpT rfl rfl rfl (by omega)) rfl rfl rfl rfl ?_; refine dY rfl (y_pick_t rfl rfl) rfl rfl rfl rfl ?_; refine dY rfl (y_move rfl) rfl rfl rfl rfl ?_; refine dY rfl (y_loadA rfl rfl rfl) rfl rfl rfl rfl ?_; refine dY rfl (y_loadA rfl rfl rfl) rfl rfl rfl rfl ?_)
  refine dC rfl Try.func43 rfl rfl h5 rfl (by repeat (first | exact .refl _ | apply Les.cons | exact .nil)) rfl rfl ?_
  skip
  refine dC rfl Try.func47 rfl rfl h6 rfl (by repeat (first | exact .refl _ | apply Les.cons | exact .nil)) rfl rfl ?_
  skip
  refine dC rfl Try.func19 rfl rfl sc rfl (by repeat (first | exact .refl _ | exact .tag _ _ | apply Le.ag | apply Les.cons | exact .nil)) rfl rfl ?_
  ((refine dY rfl (y_pick_t rfl rfl) rfl rfl rfl rfl ?_); refine dY rfl (y_move rfl) rfl rfl rfl rfl ?_; refine dY rfl (y_loadA rfl rfl rfl) rfl rfl rfl rfl ?_; refine dY rfl (y_loadA rfl rfl rfl) rfl rfl rfl rfl ?_; refine dY rfl (y_loadA rfl rfl rfl) rfl rfl rfl rfl ?_; refine dY rfl (y_loadA rfl rfl rfl) rfl rfl rfl rfl ?_)
  refine dC rfl Try.func44 rfl rfl h7 rfl (by repeat (first | exact .refl _ | apply Les.cons | exact .nil)) rfl rfl ?_
  skip
  refine dC rfl Try.func48 rfl rfl h8 rfl (by repeat (first | exact .refl _ | apply Les.cons | exact .nil)) rfl rfl ?_
  ((refine dY rfl (y_cmpT rfl rfl rfl (by omega)) rfl rfl rfl rfl ?_); refine dY rfl (y_pick_t rfl rfl) rfl rfl rfl rfl ?_; refine dY rfl (y_move rfl) rfl rfl rfl rfl ?_)
  refine dC rfl Try.func20 rfl rfl examples_c rfl (by repeat (exact .nil)) rfl rfl ?_
  ((refine dY rfl (y_pick_t rfl rfl) rfl rfl rfl rfl ?_); refine dY rfl (y_assign rfl) rfl rfl rfl rfl ?_; refine dEnd ?_)
  repeat (refine ret_ ?_)
  ((apply fin_r); (repeat (first | exact .nil | exact .tmp rfl | apply ResL.cons)); (repeat (exact .refl _)))
theorem Adds_c (p q : Bool) (l k : List Int) (hl : wf l) (hk : wf k) : Con Try.prog 13 [AV p l, AV q k] (Bo true) := by
  have hneg : ∃ c : Int, Con Try.prog 43 [AV p l] (FIV c) ∧ Con Try.prog 47 [AV p l] (FIV c) := by
    cases hv : vldB p l with
    | false => exact ⟨0, Neg_e p l hv, RNeg_e p l hv⟩
    | true =>
      obtain ⟨m, rfl, hm⟩ := norm hl hv
      exact ⟨_, Neg_s p m hm, RNeg_s p m hm⟩
  obtain ⟨c, h5, h6⟩ := hneg
  cases hv : vldB p l && vldB q k with
  | false => exact Adds_x p q l k 0 0 c 1 1 0 (Add_e p q l k hv) (RAdd_e p q l k hv) (Sub_e p q l k hv) (RSub_e p q l k hk hv) h5 h6 (Cmp_e p q l k hv) (RCmp_e p q l k hv)
  | true =>
    rw [Bool.and_eq_true] at hv
    obtain ⟨m, rfl, hm⟩ := norm hl hv.1
    obtain ⟨n, rfl, hn⟩ := norm hk hv.2
    have h1 := Add_s p q m n hm hn
    have h2 := RAdd_s p q m n hm hn
    have h3 := Sub_s p q m n hm hn
    have h4 := RSub_s p q m n hm hn
    obtain ⟨a, e, _, he, _⟩ := resI_ex (sgn p m + sgn q n)
    rw [he] at h1 h2
    obtain ⟨b, e', _, he', _⟩ := resI_ex (sgn p m - sgn q n)
    rw [he'] at h3 h4
    exact Adds_x p q _ _ a b c e e' _ h1 h2 h3 h4 h5 h6 (Cmp_s p q m n hm hn) (RCmp_s p q m n hm hn)
end Go.Av

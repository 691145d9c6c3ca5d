import Derived.Test.YtckngipgcnhfpaaWa
import Derived.Test.YtckngipgcnhfpaaLk
import Derived.Test.YtckngipgcnhfpaaLt
import Derived.Test.YtckngipgcnhfpaaLq
set_option maxHeartbeats 8000000
set_option exponentiation.threshold 100000
set_option maxRecDepth 100000
set_option linter.unusedVariables false
set_option linter.unusedSimpArgs false
namespace Go.Av
open Go Go.Proofs
/-! BigintDivides -/
theorem Divides_x (p q : Bool) (l k : List Int) (a b e g e' : Int) (h1 : Con Try.prog 15 [AV p l, AV q k] (.tp [FIV a, FIV b, E_ e])) (h2 : Con Try.prog 16 [AV p l, AV q k] (.tp [FIV a, FIV b, E_ e]))
    (h3 : Con Try.prog 17 [AV p l, AV q k] (.tp [FIV g, E_ e'])) (h4 : Con Try.prog 18 [AV p l, AV q k] (.tp [FIV g, E_ e'])) : Con Try.prog 3 [AV p l, AV q k] (Bo true) := by
  refine con_of Try.func3 rfl rfl rfl rfl rfl ?_
  have sa := same_r a
  have sb := same_r b
  have sg' := same_r g
  repeat (first | refine seq_ ?_ | refine region_ ?_ | refine nil_ ?_ | refine stepY (y_assign rfl) rfl ?_ | refine stepY (y_loadA rfl rfl rfl) rfl ?_ | refine stepE (e_box rfl rfl rfl rfl rfl rfl) ?_)
  refine call_ Try.func15 rfl rfl h1 rfl (by repeat (first | exact .refl _ | apply Les.cons | exact .nil)) rfl ?_
  repeat (first | refine seq_ ?_ | refine region_ ?_ | refine nil_ ?_ | refine stepY (y_move rfl) rfl ?_ | refine stepY (y_assign rfl) rfl ?_ | refine stepY (y_loadA rfl rfl rfl) rfl ?_ | refine stepY (y_extract rfl rfl) rfl ?_ | refine stepE (e_alloc rfl rfl rfl) ?_ | refine stepE (e_store rfl rfl rfl rfl rfl rfl rfl) ?_)
  refine call_ Try.func16 rfl rfl h2 rfl (by repeat (first | exact .refl _ | apply Les.cons | exact .nil)) rfl ?_
  repeat (first | refine seq_ ?_ | refine region_ ?_ | refine nil_ ?_ | refine stepY (y_move rfl) rfl ?_ | refine stepY (y_assign rfl) rfl ?_ | refine stepY (y_loadA rfl rfl rfl) rfl ?_ | refine stepY (y_extract rfl rfl) rfl ?_ | refine stepE (e_alloc rfl rfl rfl) ?_ | refine stepE (e_store rfl rfl rfl rfl rfl rfl rfl) ?_)
  refine call_ Try.func17 rfl rfl h3 rfl (by repeat (first | exact .refl _ | apply Les.cons | exact .nil)) rfl ?_
  repeat (first | refine seq_ ?_ | refine region_ ?_ | refine nil_ ?_ | refine stepY (y_move rfl) rfl ?_ | refine stepY (y_assign rfl) rfl ?_ | refine stepY (y_loadA rfl rfl rfl) rfl ?_ | refine stepY (y_extract rfl rfl) rfl ?_ | refine stepE (e_alloc rfl rfl rfl) ?_ | refine stepE (e_store rfl rfl rfl rfl rfl rfl rfl) ?_)
  refine call_ Try.func18 rfl rfl h4 rfl (by repeat (first | exact .refl _ | apply Les.cons | exact .nil)) rfl ?_
  repeat (first | refine seq_ ?_ | refine region_ ?_ | refine nil_ ?_ | refine stepY (y_move rfl) rfl ?_ | refine stepY (y_assign rfl) rfl ?_ | refine stepY (y_loadA rfl rfl rfl) rfl ?_ | refine stepY (y_extract rfl rfl) rfl ?_ | refine stepE (e_alloc rfl rfl rfl) ?_ | refine stepE (e_store rfl rfl rfl rfl rfl rfl rfl) ?_)
  refine call_ Try.func19 rfl rfl sa rfl (by repeat (first | exact .refl _ | exact .tag _ _ | apply Le.ag | apply Les.cons | exact .nil)) rfl ?_
  repeat (first | refine guard_t rfl rfl rfl ?_ | refine stepY (y_move rfl) rfl ?_ | refine stepY (y_loadA rfl rfl rfl) rfl ?_)
  refine call_ Try.func19 rfl rfl sb rfl (by repeat (first | exact .refl _ | exact .tag _ _ | apply Le.ag | apply Les.cons | exact .nil)) rfl ?_
  repeat (first | refine guard_t rfl rfl rfl ?_ | refine stepY (y_move rfl) rfl ?_ | refine stepY (y_loadA rfl rfl rfl) rfl ?_ | refine stepY (y_pick_t rfl rfl) rfl ?_ | refine stepY (y_cmpT rfl rfl rfl (by omega)) rfl ?_)
  refine call_ Try.func19 rfl rfl sg' rfl (by repeat (first | exact .refl _ | exact .tag _ _ | apply Le.ag | apply Les.cons | exact .nil)) rfl ?_
  repeat (first | refine guard_t rfl rfl rfl ?_ | refine stepY (y_move rfl) rfl ?_ | refine stepY (y_pick_t rfl rfl) rfl ?_ | refine stepY (y_cmpT rfl rfl rfl (by omega)) rfl ?_)
  refine call_ Try.func20 rfl rfl examples_c rfl (by repeat (exact .nil)) rfl ?_
  repeat (first | refine nil_ ?_ | refine ret_ ?_ | refine stepY (y_assign rfl) rfl ?_ | refine stepY (y_pick_t rfl rfl) rfl ?_)
  ((apply fin_r); (repeat (first | exact .nil | exact .tmp rfl | apply ResL.cons)); (repeat (exact .refl _)))
theorem Divides_c (p q : Bool) (l k : List Int) (hl : wf l) (hk : wf k) : Con Try.prog 3 [AV p l, AV q k] (Bo true) := by
  cases hv : vldB p l && vldB q k with
  | false => exact Divides_x p q l k 0 0 1 0 1 (DivMod_e p q l k hv) (RDivMod_e p q l k hv) (GCD_e p q l k hv) (RGCD_e p q l k hv)
  | true =>
    rw [Bool.and_eq_true] at hv
    obtain ⟨m, rfl, hm⟩ := norm hl hv.1
    obtain ⟨n, rfl, hn⟩ := norm hk hv.2
    have h3 := GCD_s p q m n hm hn
    have h4 := RGCD_s p q m n hm hn
    by_cases h0 : 0 < n
    · exact Divides_x p q _ _ _ _ _ _ _ (DivMod_s p q m n hm hn h0) (RDivMod_s p q m n hm hn h0) h3 h4
    · obtain rfl : n = 0 := by omega
      exact Divides_x p q _ _ _ _ _ _ _ (DivMod_z p q m hm hn) (RDivMod_z p q m hm hn) h3 h4

/-! BigintPowers -/
theorem Powers_x (p : Bool) (l : List Int) (n a e : Int) (h1 : Con Try.prog 21 [AV p l, I n] (.tp [FIV a, E_ e])) (h2 : Con Try.prog 22 [AV p l, I n] (.tp [IV a, E_ e])) : Con Try.prog 4 [AV p l, I n] (Bo true) := by
  refine con_of Try.func4 rfl rfl rfl rfl rfl ?_
  have hs := same_r a
  repeat (first | refine seq_ ?_ | refine region_ ?_ | refine nil_ ?_ | refine stepY (y_move rfl) rfl ?_ | refine stepY (y_assign rfl) rfl ?_ | refine stepY (y_loadA rfl rfl rfl) rfl ?_ | refine stepE (e_box rfl rfl rfl rfl rfl rfl) ?_)
  refine call_ Try.func21 rfl rfl h1 rfl (by repeat (first | exact .refl _ | apply Les.cons | exact .nil)) rfl ?_
  repeat (first | refine seq_ ?_ | refine region_ ?_ | refine nil_ ?_ | refine stepY (y_move rfl) rfl ?_ | refine stepY (y_assign rfl) rfl ?_ | refine stepY (y_loadA rfl rfl rfl) rfl ?_ | refine stepY (y_extract rfl rfl) rfl ?_ | refine stepE (e_alloc rfl rfl rfl) ?_ | refine stepE (e_store rfl rfl rfl rfl rfl rfl rfl) ?_)
  refine call_ Try.func22 rfl rfl h2 rfl (by repeat (first | exact .refl _ | apply Les.cons | exact .nil)) rfl ?_
  repeat (first | refine seq_ ?_ | refine region_ ?_ | refine nil_ ?_ | refine stepY (y_move rfl) rfl ?_ | refine stepY (y_assign rfl) rfl ?_ | refine stepY (y_loadA rfl rfl rfl) rfl ?_ | refine stepY (y_extract rfl rfl) rfl ?_ | refine stepE (e_alloc rfl rfl rfl) ?_ | refine stepE (e_store rfl rfl rfl rfl rfl rfl rfl) ?_)
  refine call_ Try.func19 rfl rfl hs rfl (by repeat (first | exact .refl _ | exact .tag _ _ | apply Le.ag | apply Les.cons | exact .nil)) rfl ?_
  repeat (first | refine guard_t rfl rfl rfl ?_ | refine stepY (y_move rfl) rfl ?_ | refine stepY (y_pick_t rfl rfl) rfl ?_ | refine stepY (y_cmpT rfl rfl rfl (by omega)) rfl ?_)
  refine call_ Try.func20 rfl rfl examples_c rfl (by repeat (exact .nil)) rfl ?_
  repeat (first | refine nil_ ?_ | refine ret_ ?_ | refine stepY (y_assign rfl) rfl ?_ | refine stepY (y_pick_t rfl rfl) rfl ?_)
  ((apply fin_r); (repeat (first | exact .nil | exact .tmp rfl | apply ResL.cons)); (repeat (exact .refl _)))
theorem Powers_c (p : Bool) (l : List Int) (n : Int) (hl : wf l) (hn : -9223372036854775808 ≤ n ∧ n ≤ 9223372036854775807) : Con Try.prog 4 [AV p l, I n] (Bo true) := by
  by_cases hb : vldB p l = false ∨ n < 0
  · exact Powers_x p l n 0 1 (Pow_e p l n hb) ((RPow_e p l n hb).le (.tp (.cons (.ag (.cons (.refl _) (.cons (.tag _ _) .nil))) (.cons (.refl _) .nil))))
  · have hv : vldB p l = true := by
      cases h : vldB p l with
      | true => rfl
      | false => exact absurd (.inl h) hb
    have h0 : ¬ n < 0 := fun h => hb (.inr h)
    obtain ⟨m, rfl, hm⟩ := norm hl hv
    obtain ⟨k, rfl⟩ : ∃ k : Nat, n = k := ⟨n.toNat, by omega⟩
    have h1 := Pow_s p m k hm
    have h2 := RPow_s p m k hm hn.2
    by_cases hz : ln ((sgn p m) ^ k).natAbs ≤ 512
    · rw [resI_ok hz] at h1
      rw [resV_ok hz] at h2
      exact Powers_x p _ _ _ _ h1 h2
    · rw [resI_no hz] at h1
      rw [resV_no hz] at h2
      exact Powers_x p _ _ _ _ h1 h2

/-! BigintTexts -/
theorem prV_ex (r : Option (Option (Bool × Nat))) : ∃ a e : Int, prV r = .tp [FIV a, E_ e] := by
  match r with
  | none => exact ⟨0, 4, rfl⟩
  | some none => exact ⟨0, 9, rfl⟩
  | some (some (g, n)) => exact ⟨_, 0, rfl⟩
theorem Texts_x (p : Bool) (l : List Int) (s u : ByteArray) (a e : Int) (h1 : Con Try.prog 23 [.v (.string s)] (.tp [FIV a, E_ e])) (h2 : Con Try.prog 24 [.v (.string s)] (.tp [FIV a, E_ e]))
    (h3 : Con Try.prog 25 [AV p l] (.v (.string u))) (h4 : Con Try.prog 26 [AV p l] (.v (.string u))) : Con Try.prog 5 [AV p l, .v (.string s)] (Bo true) := by
  refine con_of Try.func5 rfl rfl rfl rfl rfl ?_
  have hs := same_r a
  have hu : decide (u = u) = true := decide_eq_true rfl
  repeat (first | refine seq_ ?_ | refine region_ ?_ | refine nil_ ?_ | refine stepY (y_move rfl) rfl ?_ | refine stepY (y_assign rfl) rfl ?_ | refine stepE (e_box rfl rfl rfl rfl rfl rfl) ?_)
  refine call_ Try.func23 rfl rfl h1 rfl (by repeat (first | exact .refl _ | apply Les.cons | exact .nil)) rfl ?_
  repeat (first | refine seq_ ?_ | refine region_ ?_ | refine nil_ ?_ | refine stepY (y_move rfl) rfl ?_ | refine stepY (y_assign rfl) rfl ?_ | refine stepY (y_extract rfl rfl) rfl ?_ | refine stepE (e_alloc rfl rfl rfl) ?_ | refine stepE (e_store rfl rfl rfl rfl rfl rfl rfl) ?_)
  refine call_ Try.func24 rfl rfl h2 rfl (by repeat (first | exact .refl _ | apply Les.cons | exact .nil)) rfl ?_
  repeat (first | refine seq_ ?_ | refine nil_ ?_ | refine stepY (y_move rfl) rfl ?_ | refine stepY (y_assign rfl) rfl ?_ | refine stepY (y_extract rfl rfl) rfl ?_ | refine stepE (e_alloc rfl rfl rfl) ?_ | refine stepE (e_store rfl rfl rfl rfl rfl rfl rfl) ?_)
  refine draw_ [(0, true), (1, true), (2, false), (3, true), (4, true), (5, true), (6, true), (7, true), (8, true), (9, true), (11, true), (10, false), (12, false), (13, true), (14, true), (15, true), (16, false), (17, true), (18, true)] 1000 [2,5,7] mixed (by kernel_rfl) rfl ?_
  ((refine dY rfl (y_loadA rfl rfl rfl) rfl rfl rfl rfl ?_); refine dY rfl (y_loadA rfl rfl rfl) rfl rfl rfl rfl ?_)
  refine dC rfl Try.func19 rfl rfl hs rfl (by repeat (first | exact .refl _ | exact .tag _ _ | apply Le.ag | apply Les.cons | exact .nil)) rfl rfl ?_
  ((refine dY rfl (y_move rfl) rfl rfl rfl rfl ?_); refine dY rfl (y_move rfl) rfl rfl rfl rfl ?_; refine dY rfl (y_move rfl) rfl rfl rfl rfl ?_; refine dY rfl (y_cmpT rfl rfl rfl (by omega)) rfl rfl rfl rfl ?_; refine dY rfl (y_pick_t rfl rfl) rfl rfl rfl rfl ?_; refine dY rfl (y_move rfl) rfl rfl rfl rfl ?_; refine dY rfl (y_loadA rfl rfl rfl) rfl rfl rfl rfl ?_; refine dY rfl (y_loadA rfl rfl rfl) rfl rfl rfl rfl ?_)
  refine dC rfl Try.func25 rfl rfl h3 rfl (by repeat (first | exact .refl _ | apply Les.cons | exact .nil)) rfl rfl ?_
  skip
  refine dC rfl Try.func26 rfl rfl h4 rfl (by repeat (first | exact .refl _ | apply Les.cons | exact .nil)) rfl rfl ?_
  ((refine dY rfl (y_eqs rfl rfl) rfl rfl rfl rfl ?_); refine dY rfl (y_pick_t rfl rfl) rfl rfl rfl rfl ?_; refine dY rfl (y_move rfl) rfl rfl rfl rfl ?_)
  rw [hu]
  refine dC rfl Try.func20 rfl rfl examples_c rfl (by repeat (exact .nil)) rfl rfl ?_
  ((refine dY rfl (y_pick_t rfl rfl) rfl rfl rfl rfl ?_); refine dY rfl (y_assign rfl) rfl rfl rfl rfl ?_; refine dEnd ?_)
  repeat (refine ret_ ?_)
  ((apply fin_r); (repeat (first | exact .nil | exact .tmp rfl | apply ResL.cons)); (repeat (exact .refl _)))
theorem Texts_c (p : Bool) (l : List Int) (s : ByteArray) (hl : wf l) : Con Try.prog 5 [AV p l, .v (.string s)] (Bo true) := by
  have h1 := Parse_c s
  have h2 := RParse_c s
  obtain ⟨a, e, he⟩ := prV_ex (prT (negS s) (tS s))
  rw [he] at h1 h2
  cases hv : vldB p l with
  | false => exact Texts_x p l s _ a e h1 h2 (Format_e p l hv) (RFormat_e p l hv)
  | true =>
    obtain ⟨m, rfl, hm⟩ := norm hl hv
    exact Texts_x p _ s _ a e h1 h2 (Format_s p m hm) (RFormat_s p m hm)
end Go.Av

import Derived.Test.YtckngipgcnhfpaaWd
import Derived.Test.YtckngipgcnhfpaaMa
set_option maxHeartbeats 16000000
set_option exponentiation.threshold 100000
set_option maxRecDepth 100000
set_option linter.unusedVariables false
set_option linter.unusedSimpArgs false
namespace Go.Av
open Go Go.Proofs
/-! BigintDigits -/
theorem ints_t (l : List Int) : Con Try.prog 39 [I64s l, I64s l] (Bo true) := by
  refine con_of Try.func39 rfl rfl rfl rfl rfl ?_
  refine len_C (i := 0) rfl fun hlim => ?_
  repeat (first | refine seq_ ?_ | refine region_ ?_ | refine nil_ ?_ | refine skip_ ?_ | refine block_ ?_ | refine cond_f rfl ?_ | refine stepY (y_move rfl) rfl ?_ | refine stepY (y_assign rfl) rfl ?_ | refine stepY (y_len_si rfl) rfl ?_ | refine stepY (y_cmpF rfl rfl rfl (by omega)) rfl ?_)
  refine loop_ (α := Nat) (fun i => ([(0, .p (I64s l)), (1, .p (I64s l)), (5, .p (I i))], [])) (fun i => i ≤ l.length) (fun i => l.length - i) 0 (Nat.zero_le _) ?_ ?_ ?_
  · (repeat (first | exact sub_nil | refine sub_cons rfl ?_))
  · (repeat (exact subH_nil))
  intro i hi
  by_cases hlt : i < l.length
  · repeat (first | refine seq_ ?_ | refine region_ ?_ | refine nil_ ?_ | refine skip_ ?_ | refine block_ ?_ | refine cond_t rfl ?_ | refine stepY (y_move rfl) rfl ?_ | refine stepY (y_len_si rfl) rfl ?_ | refine stepY (y_cmpT rfl rfl rfl (by omega)) rfl ?_)
    refine draw_ [(0, true), (1, true), (2, true), (3, true), (4, true), (5, true), (6, true), (7, true), (8, true)] 1000 [] mixed (by kernel_rfl) rfl ?_
    ((refine dY rfl (y_move rfl) rfl rfl rfl rfl ?_); refine dY rfl (y_move rfl) rfl rfl rfl rfl ?_; refine dY rfl (y_index_si rfl rfl (by omega) (by omega)) rfl rfl rfl rfl ?_; refine dY rfl (y_load_rc1 rfl rfl) rfl rfl rfl rfl ?_; refine dY rfl (y_move rfl) rfl rfl rfl rfl ?_; refine dY rfl (y_move rfl) rfl rfl rfl rfl ?_; refine dY rfl (y_index_si rfl rfl (by omega) (by omega)) rfl rfl rfl rfl ?_; refine dY rfl (y_load_rc1 rfl rfl) rfl rfl rfl rfl ?_; refine dY rfl (y_cmpF rfl rfl rfl (by omega)) rfl rfl rfl rfl ?_; refine dEnd ?_)
    repeat (first | refine region_ ?_ | refine nil_ ?_ | refine skip_ ?_ | refine cond_f rfl ?_ | refine stepY (y_move rfl) rfl ?_ | refine stepY (y_assign rfl) rfl ?_ | refine stepY (y_binn rfl rfl rfl (by simp only [InK, loK, hiK]; omega)) rfl ?_)
    refine ⟨i + 1, by omega, by omega, ?_, ?_⟩ <;> (repeat (first | exact sub_nil | exact subH_nil | refine sub_cons rfl ?_))
  · obtain rfl : i = l.length := by omega
    repeat (first | refine seq_ ?_ | refine region_ ?_ | refine nil_ ?_ | refine exit_ ?_ | refine ret_ ?_ | refine cond_f rfl ?_ | refine stepY (y_move rfl) rfl ?_ | refine stepY (y_assign rfl) rfl ?_ | refine stepY (y_len_si rfl) rfl ?_ | refine stepY (y_cmpF rfl rfl rfl (by omega)) rfl ?_)
    ((apply fin_r); (repeat (first | exact .nil | exact .tmp rfl | apply ResL.cons)); (repeat (exact .refl _)))
theorem dgR_ex (m b : Nat) : ∃ (l : List Int) (e : Int), dgR m b = .tp [FI64 l, E_ e] := by
  unfold dgR
  split
  · exact ⟨_, _, rfl⟩
  · split
    · exact ⟨_, _, rfl⟩
    · exact ⟨_, _, rfl⟩
theorem FromDigits_ex (l : List Int) (n : Int) : ∃ a e : Int, Con Try.prog 37 [I64s l, I n] (.tp [FIV a, E_ e]) ∧ Con Try.prog 38 [I64s l, I n] (.tp [FIV a, E_ e]) := by
  by_cases hb : n < 2 ∨ 65536 < n
  · exact ⟨_, _, FromDigits_1 l n hb, RFromDigits_1 l n hb⟩
  · have hb' : 2 ≤ n ∧ n ≤ 65536 := by omega
    by_cases hl : 4096 < l.length
    · exact ⟨_, _, FromDigits_4 l n hb' hl, RFromDigits_4 l n hb' hl⟩
    · by_cases ho : okR n l
      · obtain ⟨b, rfl⟩ : ∃ b : Nat, n = b := ⟨n.toNat, by omega⟩
        have h1 := FromDigits_0 l b (by omega) (by omega) ho
        have h2 := RFromDigits_0 l b (by omega) (by omega) ho
        obtain ⟨a, e, _, he, _⟩ := resI_ex ((hp b l l.length : Nat) : Int)
        rw [he] at h1 h2
        exact ⟨a, e, h1, h2⟩
      · exact ⟨_, _, FromDigits_3 l n hb' (by omega) ho, RFromDigits_3 l n hb' (by omega) ho⟩
theorem Digits_x (p : Bool) (k l d : List Int) (n e a e' : Int) (h1 : Con Try.prog 35 [AV p k, I n] (.tp [FI64 d, E_ e])) (h2 : Con Try.prog 36 [AV p k, I n] (.tp [FI64 d, E_ e]))
    (h3 : Con Try.prog 37 [I64s l, I n] (.tp [FIV a, E_ e'])) (h4 : Con Try.prog 38 [I64s l, I n] (.tp [FIV a, E_ e'])) : Con Try.prog 9 [AV p k, I64s l, I n] (Bo true) := by
  refine con_of Try.func9 rfl rfl rfl rfl rfl ?_
  have s1 := ints_t d
  have s2 := same_r a
  repeat (first | refine seq_ ?_ | refine region_ ?_ | refine nil_ ?_ | refine stepY (y_move rfl) rfl ?_ | refine stepY (y_assign rfl) rfl ?_ | refine stepY (y_loadA rfl rfl rfl) rfl ?_ | refine stepE (e_box rfl rfl rfl rfl rfl rfl) ?_)
  refine call_ Try.func35 rfl rfl h1 rfl (by repeat (first | exact .refl _ | apply Les.cons | exact .nil)) rfl ?_
  repeat (first | refine seq_ ?_ | refine region_ ?_ | refine nil_ ?_ | refine stepY (y_move rfl) rfl ?_ | refine stepY (y_assign rfl) rfl ?_ | refine stepY (y_loadA rfl rfl rfl) rfl ?_ | refine stepY (y_extract rfl rfl) rfl ?_)
  refine call_ Try.func36 rfl rfl h2 rfl (by repeat (first | exact .refl _ | apply Les.cons | exact .nil)) rfl ?_
  repeat (first | refine seq_ ?_ | refine region_ ?_ | refine nil_ ?_ | refine stepY (y_move rfl) rfl ?_ | refine stepY (y_assign rfl) rfl ?_ | refine stepY (y_extract rfl rfl) rfl ?_)
  refine call_ Try.func37 rfl rfl h3 rfl (by repeat (first | exact .refl _ | apply Les.cons | exact .nil)) rfl ?_
  repeat (first | refine seq_ ?_ | refine region_ ?_ | refine nil_ ?_ | refine stepY (y_move rfl) rfl ?_ | refine stepY (y_assign rfl) rfl ?_ | refine stepY (y_extract rfl rfl) rfl ?_ | refine stepE (e_alloc rfl rfl rfl) ?_ | refine stepE (e_store rfl rfl rfl rfl rfl rfl rfl) ?_)
  refine call_ Try.func38 rfl rfl h4 rfl (by repeat (first | exact .refl _ | apply Les.cons | exact .nil)) rfl ?_
  repeat (first | refine seq_ ?_ | refine region_ ?_ | refine nil_ ?_ | refine stepY (y_move rfl) rfl ?_ | refine stepY (y_assign rfl) rfl ?_ | refine stepY (y_extract rfl rfl) rfl ?_ | refine stepE (e_alloc rfl rfl rfl) ?_ | refine stepE (e_store rfl rfl rfl rfl rfl rfl rfl) ?_)
  refine call_ Try.func39 rfl rfl s1 rfl (by repeat (first | exact .tag _ _ | apply Les.cons | exact .nil)) rfl ?_
  repeat (first | refine guard_t rfl rfl rfl ?_ | refine stepY (y_move rfl) rfl ?_ | refine stepY (y_loadA rfl rfl rfl) rfl ?_ | refine stepY (y_pick_t rfl rfl) rfl ?_ | refine stepY (y_cmpT rfl rfl rfl (by omega)) rfl ?_)
  refine call_ Try.func19 rfl rfl s2 rfl (by repeat (first | exact .refl _ | exact .tag _ _ | apply Le.ag | apply Les.cons | exact .nil)) rfl ?_
  repeat (first | refine guard_t rfl rfl rfl ?_ | refine stepY (y_move rfl) rfl ?_ | refine stepY (y_pick_t rfl rfl) rfl ?_ | refine stepY (y_cmpT rfl rfl rfl (by omega)) rfl ?_)
  refine call_ Try.func20 rfl rfl examples_c rfl (by repeat (exact .nil)) rfl ?_
  repeat (first | refine nil_ ?_ | refine ret_ ?_ | refine stepY (y_assign rfl) rfl ?_ | refine stepY (y_pick_t rfl rfl) rfl ?_)
  ((apply fin_r); (repeat (first | exact .nil | exact .tmp rfl | apply ResL.cons)); (repeat (exact .refl _)))
theorem DigitsLaw_c (p : Bool) (k l : List Int) (n : Int) (hk : wf k) : Con Try.prog 9 [AV p k, I64s l, I n] (Bo true) := by
  obtain ⟨a, e', h3, h4⟩ := FromDigits_ex l n
  by_cases hb : vldB p k = false ∨ p = true ∨ n < 2 ∨ 65536 < n
  · exact Digits_x p k l _ n _ a e' (Digits_e p k n hb) (RDigits_e p k n hb) h3 h4
  · have hv : vldB p k = true := by
      cases h : vldB p k with
      | true => rfl
      | false => exact absurd (.inl h) hb
    have hp : p = false := by
      cases p with
      | false => rfl
      | true => exact absurd (.inr (.inl rfl)) hb
    subst hp
    have h2 : ¬ n < 2 := fun h => hb (.inr (.inr (.inl h)))
    have h3' : ¬ 65536 < n := fun h => hb (.inr (.inr (.inr h)))
    obtain ⟨m, rfl, hm⟩ := norm hk hv
    obtain ⟨b, rfl⟩ : ∃ b : Nat, n = b := ⟨n.toNat, by omega⟩
    have d1 := Digits_s m b hm (by omega) (by omega)
    have d2 := RDigits_s m b hm (by omega) (by omega)
    obtain ⟨d, e, hd⟩ := dgR_ex m b
    rw [hd] at d1 d2
    exact Digits_x false _ l d b e a e' d1 d2 h3 h4
end Go.Av

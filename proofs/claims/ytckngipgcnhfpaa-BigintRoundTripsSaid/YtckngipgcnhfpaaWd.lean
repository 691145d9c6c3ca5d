import Derived.Test.YtckngipgcnhfpaaWa
import Derived.Test.YtckngipgcnhfpaaP9
set_option maxHeartbeats 8000000
set_option exponentiation.threshold 100000
set_option maxRecDepth 100000
set_option linter.unusedVariables false
set_option linter.unusedSimpArgs false
namespace Go.Av
open Go Go.Proofs
/-- Where a piece of code begins that is to be cut off. -/
theorem stop_ {P : Program} {N : Nat} {E : Env} {H : Hp} {Q : Exit → Env → Hp → Prop} {id : Nat} {ops : Array Oper} {d : Bool} {c x : Code} (h : Tr P N (.seq (.seq (.region id ops d) c) x) E H Q) : Tr P N (.seq (.seq (.region id ops d) c) x) E H Q := h
/-! On values in normal form, as whole numbers -/
abbrev cI (z : Int) : List PV := [Bo (decide (z < 0)), M z.natAbs]
abbrev cF (z : Int) : List PV := [Bo (decide (z < 0)), FM z.natAbs]
theorem Add_z (x y : Int) (hx : ln x.natAbs ≤ 512) (hy : ln y.natAbs ≤ 512) : Con Try.prog 40 [IV x, IV y] (resI (x + y)) := by
  have := Add_s (decide (x < 0)) (decide (y < 0)) x.natAbs y.natAbs (vld_iv hx) (vld_iv hy)
  rwa [sgn_self, sgn_self] at this
theorem Sub_z (x y : Int) (hx : ln x.natAbs ≤ 512) (hy : ln y.natAbs ≤ 512) : Con Try.prog 42 [IV x, IV y] (resI (x - y)) := by
  have := Sub_s (decide (x < 0)) (decide (y < 0)) x.natAbs y.natAbs (vld_iv hx) (vld_iv hy)
  rwa [sgn_self, sgn_self] at this
theorem Mul_z (x y : Int) (hx : ln x.natAbs ≤ 512) (hy : ln y.natAbs ≤ 512) : Con Try.prog 27 [IV x, IV y] (resI (x * y)) := by
  have := Mul_s (decide (x < 0)) (decide (y < 0)) x.natAbs y.natAbs (vld_iv hx) (vld_iv hy)
  rwa [sgn_self, sgn_self] at this
theorem Neg_z (x : Int) (hx : ln x.natAbs ≤ 512) : Con Try.prog 43 [IV x] (FIV (-x)) := by
  have := Neg_s (decide (x < 0)) x.natAbs (vld_iv hx)
  rwa [sgn_self] at this
theorem Cmp_z (x y : Int) (hx : ln x.natAbs ≤ 512) (hy : ln y.natAbs ≤ 512) : Con Try.prog 44 [IV x, IV y] (I (icmp x y)) := by
  have := Cmp_s (decide (x < 0)) (decide (y < 0)) x.natAbs y.natAbs (vld_iv hx) (vld_iv hy)
  rwa [sgn_self, sgn_self] at this
/-- A value in normal form is a whole number. -/
theorem norm_z {p : Bool} {l : List Int} (hl : wf l) (h : vldB p l = true) : ∃ z : Int, AV p l = IV z ∧ ln z.natAbs ≤ 512 := ⟨_, (iv_vld hl h).1, (iv_vld hl h).2⟩
/-! BigintPowerLaw -/
theorem PowerLaw_e (p : Bool) (l : List Int) (m n : Int) (hm : 0 ≤ m ∧ m ≤ 255) (hn : 0 ≤ n ∧ n ≤ 255) (hv : vldB p l = false) : Con Try.prog 7 [AV p l, .v (.int .u8 m), .v (.int .u8 n)] (Bo true) := by
  refine con_of Try.func7 rfl rfl rfl rfl rfl ?_
  have h1 := Pow_e p l (m % 61 + n % 61) (.inl hv)
  have h2 := Valid_c p l
  rw [hv] at h2
  repeat (first | refine seq_ ?_ | refine region_ ?_ | refine nil_ ?_ | refine stepY (y_move rfl) rfl ?_ | refine stepY (y_assign rfl) rfl ?_ | refine stepY (y_loadA rfl rfl rfl) rfl ?_ | refine stepY (y_convn rfl (by simp only [InK, loK, hiK]; omega)) rfl ?_ | refine stepY (y_binn rfl rfl rfl (by simp only [InK, loK, hiK]; omega)) rfl ?_ | refine stepY (y_remp rfl rfl (by omega) (by omega)) rfl ?_ | refine stepE (e_box rfl rfl rfl rfl rfl rfl) ?_)
  refine call_ Try.func21 rfl rfl h1 rfl (by repeat (first | exact .refl _ | apply Les.cons | exact .nil)) rfl ?_
  repeat (first | refine seq_ ?_ | refine region_ ?_ | refine nil_ ?_ | refine cond_t rfl ?_ | refine guard_t rfl rfl rfl ?_ | refine stepY (y_move rfl) rfl ?_ | refine stepY (y_assign rfl) rfl ?_ | refine stepY (y_loadA rfl rfl rfl) rfl ?_ | refine stepY (y_extract rfl rfl) rfl ?_ | refine stepY (y_cmpF rfl rfl rfl (by omega)) rfl ?_ | refine stepY (y_cmpT rfl rfl rfl (by omega)) rfl ?_ | refine stepE (e_alloc rfl rfl rfl) ?_ | refine stepE (e_store rfl rfl rfl rfl rfl rfl rfl) ?_)
  refine call_ Try.func29 rfl rfl h2 rfl (by repeat (first | exact .refl _ | apply Les.cons | exact .nil)) rfl ?_
  repeat (first | refine guard_t rfl rfl rfl ?_ | refine stepY (y_move rfl) rfl ?_ | refine stepY (y_not rfl) rfl ?_ | refine stepY (y_pick_f rfl rfl) rfl ?_)
  refine call_ Try.func20 rfl rfl examples_c rfl (by repeat (exact .nil)) rfl ?_
  repeat (first | refine nil_ ?_ | refine ret_ ?_ | refine stepY (y_assign rfl) rfl ?_ | refine stepY (y_pick_t rfl rfl) rfl ?_)
  ((apply fin_r); (repeat (first | exact .nil | exact .tmp rfl | apply ResL.cons)); (repeat (exact .refl _)))
theorem pow_ln {z : Int} {k j : Nat} (h : ln (z ^ (k + j)).natAbs ≤ 512) : ln (z ^ k).natAbs ≤ 512 := by
  rw [Int.natAbs_pow] at *
  rcases Nat.eq_zero_or_pos z.natAbs with h0 | h0
  · rw [h0]
    rcases Nat.eq_zero_or_pos k with rfl | hk
    · rw [Nat.pow_zero]; decide
    · rw [Nat.zero_pow hk]; decide
  · exact Nat.le_trans (ln_mono (Nat.pow_le_pow_right h0 (Nat.le_add_right k j))) h
theorem PowerLaw_c (p : Bool) (l : List Int) (m n : Int) (hl : wf l) (hm : 0 ≤ m ∧ m ≤ 255) (hn : 0 ≤ n ∧ n ≤ 255) : Con Try.prog 7 [AV p l, .v (.int .u8 m), .v (.int .u8 n)] (Bo true) := by
  cases hv : vldB p l with
  | false => exact PowerLaw_e p l m n hm hn hv
  | true =>
    obtain ⟨z, hz, hln⟩ := norm_z hl hv
    rw [hz]
    obtain ⟨k, hk⟩ : ∃ k : Nat, m % 61 = k := ⟨(m % 61).toNat, by omega⟩
    obtain ⟨j, hj⟩ : ∃ j : Nat, n % 61 = j := ⟨(n % 61).toNat, by omega⟩
    refine con_of Try.func7 rfl rfl rfl rfl rfl ?_
    have h1 := Pow_z z (k + j) hln
    rw [Int.natCast_add] at h1
    by_cases hb : ln (z ^ (k + j)).natAbs ≤ 512
    · have hbk := pow_ln hb
      have hbj : ln (z ^ j).natAbs ≤ 512 := pow_ln (j := k) (by rw [Nat.add_comm]; exact hb)
      have h2 := Pow_z z k hln
      have h3 := Pow_z z j hln
      have h4 := Mul_z (z ^ k) (z ^ j) hbk hbj
      rw [← Int.pow_add] at h4
      have h5 := Pow_z z 0 hln
      rw [Int.pow_zero, resI_ok (by decide)] at h5
      change Con _ _ [_, I 0] _ at h5
      have f1 := FromInt_c 1 (by omega)
      have s1 := same_r (z ^ (k + j))
      have s2 := same_r 1
      rw [resI_ok hb] at h1 h4
      rw [resI_ok hbk] at h2
      rw [resI_ok hbj] at h3
      repeat (first | refine seq_ ?_ | refine region_ ?_ | refine nil_ ?_ | refine stepY (y_move rfl) rfl ?_ | refine stepY (y_assign rfl) rfl ?_ | refine stepY (y_loadA rfl rfl rfl) rfl ?_ | refine stepY (y_convn rfl (by simp only [InK, loK, hiK]; omega)) rfl ?_ | refine stepY (y_binn rfl rfl rfl (by simp only [InK, loK, hiK]; omega)) rfl ?_ | refine stepY (y_remp rfl rfl (by omega) (by omega)) rfl ?_ | refine stepE (e_box rfl rfl rfl rfl rfl rfl) ?_)
      rw [hk, hj]
      refine call_ Try.func21 rfl rfl h1 rfl (by repeat (first | exact .refl _ | apply Les.cons | exact .nil)) rfl ?_
      repeat (first | refine seq_ ?_ | refine region_ ?_ | refine nil_ ?_ | refine skip_ ?_ | refine cond_f rfl ?_ | refine stepY (y_move rfl) rfl ?_ | refine stepY (y_assign rfl) rfl ?_ | refine stepY (y_loadA rfl rfl rfl) rfl ?_ | refine stepY (y_extract rfl rfl) rfl ?_ | refine stepY (y_cmpF rfl rfl rfl (by omega)) rfl ?_ | refine stepE (e_alloc rfl rfl rfl) ?_ | refine stepE (e_store rfl rfl rfl rfl rfl rfl rfl) ?_)
      refine call_ Try.func21 rfl rfl h2 rfl (by repeat (first | exact .refl _ | apply Les.cons | exact .nil)) rfl ?_
      repeat (first | refine seq_ ?_ | refine region_ ?_ | refine nil_ ?_ | refine stepY (y_move rfl) rfl ?_ | refine stepY (y_assign rfl) rfl ?_ | refine stepY (y_loadA rfl rfl rfl) rfl ?_ | refine stepY (y_extract rfl rfl) rfl ?_ | refine stepE (e_alloc rfl rfl rfl) ?_ | refine stepE (e_store rfl rfl rfl rfl rfl rfl rfl) ?_)
      refine call_ Try.func21 rfl rfl h3 rfl (by repeat (first | exact .refl _ | apply Les.cons | exact .nil)) rfl ?_
      repeat (first | refine seq_ ?_ | refine region_ ?_ | refine nil_ ?_ | refine skip_ ?_ | refine cond_f rfl ?_ | refine guard_t rfl rfl rfl ?_ | refine stepY (y_move rfl) rfl ?_ | refine stepY (y_assign rfl) rfl ?_ | refine stepY (y_loadA rfl rfl rfl) rfl ?_ | refine stepY (y_extract rfl rfl) rfl ?_ | refine stepY (y_pick_f rfl rfl) rfl ?_ | refine stepY (y_cmpF rfl rfl rfl (by omega)) rfl ?_ | refine stepE (e_alloc rfl rfl rfl) ?_ | refine stepE (e_store rfl rfl rfl rfl rfl rfl rfl) ?_)
      refine call_ Try.func27 rfl rfl h4 rfl (by repeat (first | exact .refl _ | exact .tag _ _ | apply Le.ag | apply Les.cons | exact .nil)) rfl ?_
      repeat (first | refine seq_ ?_ | refine region_ ?_ | refine nil_ ?_ | refine stepY (y_move rfl) rfl ?_ | refine stepY (y_assign rfl) rfl ?_ | refine stepY (y_loadA rfl rfl rfl) rfl ?_ | refine stepY (y_extract rfl rfl) rfl ?_ | refine stepE (e_alloc rfl rfl rfl) ?_ | refine stepE (e_store rfl rfl rfl rfl rfl rfl rfl) ?_)
      refine call_ Try.func21 rfl rfl h5 rfl (by repeat (first | exact .refl _ | apply Les.cons | exact .nil)) rfl ?_
      repeat (first | refine seq_ ?_ | refine nil_ ?_ | refine stepY (y_move rfl) rfl ?_ | refine stepY (y_assign rfl) rfl ?_ | refine stepY (y_extract rfl rfl) rfl ?_ | refine stepE (e_alloc rfl rfl rfl) ?_ | refine stepE (e_store rfl rfl rfl rfl rfl rfl rfl) ?_)
      refine draw_ [(0, true), (1, true), (2, true), (3, true), (4, true), (5, false), (6, true), (7, true), (8, true), (9, true), (10, true), (11, true), (12, true), (13, false), (14, false), (15, true), (16, true), (17, false), (18, true), (19, true)] 1000 [9,15,17] mixed (by kernel_rfl) rfl ?_
      ((refine dY rfl (y_move rfl) rfl rfl rfl rfl ?_); refine dY rfl (y_cmpT rfl rfl rfl (by omega)) rfl rfl rfl rfl ?_; refine dY rfl (y_move rfl) rfl rfl rfl rfl ?_; refine dY rfl (y_loadA rfl rfl rfl) rfl rfl rfl rfl ?_; refine dY rfl (y_loadA rfl rfl rfl) rfl rfl rfl rfl ?_)
      refine dC rfl Try.func19 rfl rfl s1 rfl (by repeat (first | exact .refl _ | exact .tag _ _ | apply Le.ag | apply Les.cons | exact .nil)) rfl rfl ?_
      ((refine dY rfl (y_pick_t rfl rfl) rfl rfl rfl rfl ?_); refine dY rfl (y_move rfl) rfl rfl rfl rfl ?_; refine dY rfl (y_move rfl) rfl rfl rfl rfl ?_; refine dY rfl (y_cmpT rfl rfl rfl (by omega)) rfl rfl rfl rfl ?_; refine dY rfl (y_pick_t rfl rfl) rfl rfl rfl rfl ?_; refine dY rfl (y_move rfl) rfl rfl rfl rfl ?_; refine dY rfl (y_loadA rfl rfl rfl) rfl rfl rfl rfl ?_)
      refine dC rfl Try.func30 rfl rfl f1 rfl (by repeat (first | exact .refl _ | apply Les.cons | exact .nil)) rfl rfl ?_
      skip
      refine dC rfl Try.func19 rfl rfl s2 rfl (by repeat (first | exact .refl _ | exact .tag _ _ | apply Le.ag | apply Les.cons | exact .nil)) rfl rfl ?_
      ((refine dY rfl (y_pick_t rfl rfl) rfl rfl rfl rfl ?_); refine dY rfl (y_move rfl) rfl rfl rfl rfl ?_)
      refine dC rfl Try.func20 rfl rfl examples_c rfl (by repeat (exact .nil)) rfl rfl ?_
      ((refine dY rfl (y_pick_t rfl rfl) rfl rfl rfl rfl ?_); refine dY rfl (y_assign rfl) rfl rfl rfl rfl ?_; refine dEnd ?_)
      repeat (refine ret_ ?_)
      ((apply fin_r); (repeat (first | exact .nil | exact .tmp rfl | apply ResL.cons)); (repeat (exact .refl _)))
    · rw [resI_no hb] at h1
      repeat (first | refine seq_ ?_ | refine region_ ?_ | refine nil_ ?_ | refine stepY (y_move rfl) rfl ?_ | refine stepY (y_assign rfl) rfl ?_ | refine stepY (y_loadA rfl rfl rfl) rfl ?_ | refine stepY (y_convn rfl (by simp only [InK, loK, hiK]; omega)) rfl ?_ | refine stepY (y_binn rfl rfl rfl (by simp only [InK, loK, hiK]; omega)) rfl ?_ | refine stepY (y_remp rfl rfl (by omega) (by omega)) rfl ?_ | refine stepE (e_box rfl rfl rfl rfl rfl rfl) ?_)
      rw [hk, hj]
      refine call_ Try.func21 rfl rfl h1 rfl (by repeat (first | exact .refl _ | apply Les.cons | exact .nil)) rfl ?_
      repeat (first | refine seq_ ?_ | refine region_ ?_ | refine nil_ ?_ | refine cond_t rfl ?_ | refine guard_t rfl rfl rfl ?_ | refine guard_f rfl rfl rfl rfl ?_ | refine stepY (y_move rfl) rfl ?_ | refine stepY (y_assign rfl) rfl ?_ | refine stepY (y_extract rfl rfl) rfl ?_ | refine stepY (y_pick_t rfl rfl) rfl ?_ | refine stepY (y_cmpT rfl rfl rfl (by omega)) rfl ?_ | refine stepY (y_cmpT rfl rfl rfl (by omega)) rfl ?_ | refine stepE (e_alloc rfl rfl rfl) ?_ | refine stepE (e_store rfl rfl rfl rfl rfl rfl rfl) ?_)
      refine call_ Try.func20 rfl rfl examples_c rfl (by repeat (exact .nil)) rfl ?_
      repeat (first | refine nil_ ?_ | refine ret_ ?_ | refine stepY (y_assign rfl) rfl ?_ | refine stepY (y_pick_t rfl rfl) rfl ?_)
      ((apply fin_r); (repeat (first | exact .nil | exact .tmp rfl | apply ResL.cons)); (repeat (exact .refl _)))
end Go.Av

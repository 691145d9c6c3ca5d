/- Contracts behind a law: no conditions beyond those in each statement. -/
import Derived.Test.YtmaobhmoipegeaaSa
import Derived.Test.YtmaobhmoipegeaaSc
set_option maxHeartbeats 8000000
set_option exponentiation.threshold 100000
set_option maxRecDepth 100000
set_option linter.unusedVariables false
set_option linter.unusedSimpArgs false
namespace Go.Av
open Go Go.Proofs
/-! FractionLimits -/
theorem Bn_pos (n : Nat) : B ^ n ≠ 0 := Nat.ne_of_gt (Bp_pos n)
def pw (n : Nat) (t : Bool) : Rat := if t then ⟨1, B ^ n, Bn_pos n, by simp [Nat.Coprime]⟩ else ⟨((B ^ n : Nat) : Int), 1, by decide, by simp [Nat.Coprime]⟩
theorem wf_rep (n : Nat) : wf (List.replicate n 0 ++ [1]) := by
  intro x hx
  rcases List.mem_append.1 hx with h | h
  · rw [List.eq_of_mem_replicate h]; decide
  · simp only [List.mem_singleton] at h; subst h; decide
theorem limbs_pw (n : Nat) : limbs (B ^ n) = List.replicate n 0 ++ [1] := by
  have hv : val (List.replicate n 0 ++ [1]) = B ^ n := by
    rw [val_append, val_zero, List.length_replicate, Nat.zero_add, show val [1] = 1 from rfl, Nat.mul_one]
  rw [← hv]
  refine limbs_val (wf_rep n) (.inr ?_)
  rw [List.length_append, List.length_replicate, List.length_singleton, List.getD_eq_getElem?_getD, Nat.add_sub_cancel, List.getElem?_append_right (by simp)]
  simp
theorem ln_pw (n : Nat) : ln (B ^ n) = n + 1 := by
  rw [← limbs_length, limbs_pw]
  simp
theorem limbs_1 : limbs 1 = [1] := limbs_pw 0
theorem pw_f (n : Nat) : (pw n false).num = ((B ^ n : Nat) : Int) ∧ (pw n false).den = 1 := ⟨rfl, rfl⟩
theorem pw_t (n : Nat) : (pw n true).num = 1 ∧ (pw n true).den = B ^ n := ⟨rfl, rfl⟩
theorem okQ_pw (n : Nat) (t : Bool) : okQ (pw n t) ↔ n < 512 := by
  unfold okQ
  have l1 := ln_pw n
  have l2 : ln 1 = 1 := by decide
  cases t
  · rw [(pw_f n).1, (pw_f n).2, Int.natAbs_natCast, l1, l2]
    omega
  · rw [(pw_t n).1, (pw_t n).2, l1, show (1 : Int).natAbs = 1 from rfl, l2]
    omega
theorem FQ_pf (n : Nat) : FQ (pw n false) = .ag [Bo false, .si true .u32 (List.replicate n 0 ++ [1]), Bo false, .si true .u32 [1]] := by
  unfold FQ
  rw [(pw_f n).1, (pw_f n).2, Int.natAbs_natCast, decide_eq_false (by omega)]
  unfold FM
  rw [limbs_pw, limbs_1]
theorem FQ_pt (n : Nat) : FQ (pw n true) = .ag [Bo false, .si true .u32 [1], Bo false, .si true .u32 (List.replicate n 0 ++ [1])] := by
  unfold FQ
  rw [(pw_t n).1, (pw_t n).2, decide_eq_false (by omega), show (1 : Int).natAbs = 1 from rfl]
  unfold FM
  rw [limbs_pw, limbs_1]
theorem power_f (n : Nat) (hn : n ≤ 2000) : Con Try.prog 18 [I (n : Int), Bo false] (FQ (pw n false)) := by
  rw [FQ_pf]
  refine con_of Try.func18 rfl rfl rfl rfl rfl ?_
  repeat (first | refine seq_ ?_ | refine region_ ?_ | refine nil_ ?_ | refine block_ ?_ | refine stepY (y_assign rfl) rfl ?_ | refine stepE (e_alloc rfl rfl rfl) ?_)
  refine nil_C (i := 5) 44 .u32 rfl rfl rfl ?_
  refine loop_ (α := Nat) (fun k => ([(0, .p (I (n : Int))), (1, .p (Bo false)), (4, .ptr 4 0), (5, .vec 5), (6, .p (I (k : Int)))], [(4, .bx Z4), (5, .vi 44 .u32 (List.replicate k 0))])) (fun k => k ≤ n) (fun k => n - k) 0 (Nat.zero_le _) ?_ ?_ ?_
  · (repeat (first | exact sub_nil | refine sub_cons rfl ?_))
  · (repeat (first | exact subH_nil | refine subH_cons rfl ?_))
  intro k hk
  have hlr : (List.replicate k (0 : Int)).length = k := List.length_replicate
  by_cases hlt : k < n
  · repeat (first | refine seq_ ?_ | refine region_ ?_ | refine nil_ ?_ | refine skip_ ?_ | refine block_ ?_ | refine cond_t rfl ?_ | refine stepY (y_move rfl) rfl ?_ | refine stepY (y_cmpT rfl rfl rfl (by omega)) rfl ?_ | refine stepE (e_bs_vi (k := .u32) rfl rfl rfl rfl rfl) ?_)
    refine stepE (e_app_vi rfl rfl rfl (src_vi rfl rfl) (by simp only [List.length_cons, List.length_nil]; omega) rfl rfl) ?_
    rw [← List.replicate_succ']
    repeat (first | refine region_ ?_ | refine nil_ ?_ | refine stepY (y_move rfl) rfl ?_ | refine stepY (y_assign rfl) rfl ?_ | refine stepY (y_binn rfl rfl rfl (by simp only [InK, loK, hiK]; omega)) rfl ?_)
    refine ⟨k + 1, by omega, by omega, ?_, ?_⟩ <;> (repeat (first | exact sub_nil | exact subH_nil | refine sub_cons rfl ?_ | refine subH_cons rfl ?_))
  obtain rfl : k = n := by omega
  repeat (first | refine seq_ ?_ | refine region_ ?_ | refine nil_ ?_ | refine exit_ ?_ | refine cond_f rfl ?_ | refine stepY (y_move rfl) rfl ?_ | refine stepY (y_cmpF rfl rfl rfl (by omega)) rfl ?_ | refine stepE (e_bs_vi (k := .u32) rfl rfl rfl rfl rfl) ?_)
  refine stepE (e_app_vi rfl rfl rfl (src_vi rfl rfl) (by simp only [List.length_cons, List.length_nil]; omega) rfl rfl) ?_
  repeat (first | refine seq_ ?_ | refine region_ ?_ | refine nil_ ?_ | refine stepY (y_move rfl) rfl ?_ | refine stepY (y_assign rfl) rfl ?_)
  refine seal_L (i := 19) (h := 5) rfl rfl rfl rfl ?_
  repeat (first | refine stepY (y_build rfl rfl rfl) rfl ?_ | refine stepE (e_bs_vi (k := .u32) rfl rfl rfl rfl rfl) ?_)
  refine seal_L (i := 21) (h := 21) rfl rfl rfl rfl ?_
  repeat (first | refine seq_ ?_ | refine region_ ?_ | refine nil_ ?_ | refine skip_ ?_ | refine ret_ ?_ | refine cond_f rfl ?_ | refine stepY (y_move rfl) rfl ?_ | refine stepY (y_loadA rfl rfl rfl) rfl ?_ | refine stepY (y_build rfl rfl rfl) rfl ?_ | refine stepE (e_alloc rfl rfl rfl) ?_ | refine stepE (e_store rfl rfl rfl rfl rfl rfl rfl) ?_)
  ((apply fin_r); (repeat (first | exact .nil | exact .agg rfl rfl rfl | apply ResL.cons)); (repeat (exact .refl _)))
theorem power_t (n : Nat) (hn : n ≤ 2000) : Con Try.prog 18 [I (n : Int), Bo true] (FQ (pw n true)) := by
  rw [FQ_pt]
  refine con_of Try.func18 rfl rfl rfl rfl rfl ?_
  repeat (first | refine seq_ ?_ | refine region_ ?_ | refine nil_ ?_ | refine block_ ?_ | refine stepY (y_assign rfl) rfl ?_ | refine stepE (e_alloc rfl rfl rfl) ?_)
  refine nil_C (i := 5) 44 .u32 rfl rfl rfl ?_
  refine loop_ (α := Nat) (fun k => ([(0, .p (I (n : Int))), (1, .p (Bo true)), (4, .ptr 4 0), (5, .vec 5), (6, .p (I (k : Int)))], [(4, .bx Z4), (5, .vi 44 .u32 (List.replicate k 0))])) (fun k => k ≤ n) (fun k => n - k) 0 (Nat.zero_le _) ?_ ?_ ?_
  · (repeat (first | exact sub_nil | refine sub_cons rfl ?_))
  · (repeat (first | exact subH_nil | refine subH_cons rfl ?_))
  intro k hk
  have hlr : (List.replicate k (0 : Int)).length = k := List.length_replicate
  by_cases hlt : k < n
  · repeat (first | refine seq_ ?_ | refine region_ ?_ | refine nil_ ?_ | refine skip_ ?_ | refine block_ ?_ | refine cond_t rfl ?_ | refine stepY (y_move rfl) rfl ?_ | refine stepY (y_cmpT rfl rfl rfl (by omega)) rfl ?_ | refine stepE (e_bs_vi (k := .u32) rfl rfl rfl rfl rfl) ?_)
    refine stepE (e_app_vi rfl rfl rfl (src_vi rfl rfl) (by simp only [List.length_cons, List.length_nil]; omega) rfl rfl) ?_
    rw [← List.replicate_succ']
    repeat (first | refine region_ ?_ | refine nil_ ?_ | refine stepY (y_move rfl) rfl ?_ | refine stepY (y_assign rfl) rfl ?_ | refine stepY (y_binn rfl rfl rfl (by simp only [InK, loK, hiK]; omega)) rfl ?_)
    refine ⟨k + 1, by omega, by omega, ?_, ?_⟩ <;> (repeat (first | exact sub_nil | exact subH_nil | refine sub_cons rfl ?_ | refine subH_cons rfl ?_))
  obtain rfl : k = n := by omega
  repeat (first | refine seq_ ?_ | refine region_ ?_ | refine nil_ ?_ | refine exit_ ?_ | refine cond_f rfl ?_ | refine stepY (y_move rfl) rfl ?_ | refine stepY (y_cmpF rfl rfl rfl (by omega)) rfl ?_ | refine stepE (e_bs_vi (k := .u32) rfl rfl rfl rfl rfl) ?_)
  refine stepE (e_app_vi rfl rfl rfl (src_vi rfl rfl) (by simp only [List.length_cons, List.length_nil]; omega) rfl rfl) ?_
  repeat (first | refine seq_ ?_ | refine region_ ?_ | refine nil_ ?_ | refine stepY (y_move rfl) rfl ?_ | refine stepY (y_assign rfl) rfl ?_)
  refine seal_L (i := 19) (h := 5) rfl rfl rfl rfl ?_
  repeat (first | refine stepY (y_build rfl rfl rfl) rfl ?_ | refine stepE (e_bs_vi (k := .u32) rfl rfl rfl rfl rfl) ?_)
  refine seal_L (i := 21) (h := 21) rfl rfl rfl rfl ?_
  repeat (first | refine seq_ ?_ | refine region_ ?_ | refine nil_ ?_ | refine ret_ ?_ | refine cond_t rfl ?_ | refine stepY (y_move rfl) rfl ?_ | refine stepY (y_loadA rfl rfl rfl) rfl ?_ | refine stepY (y_fieldAddr rfl) rfl ?_ | refine stepY (y_build rfl rfl rfl) rfl ?_ | refine stepE (e_alloc rfl rfl rfl) ?_ | refine stepE (e_store rfl rfl rfl rfl rfl rfl rfl) ?_)
  ((apply fin_r); (repeat (first | exact .nil | exact .agg rfl rfl rfl | apply ResL.cons)); (repeat (exact .refl _)))
theorem pw_mk (n : Nat) (t : Bool) : pw n t = if t then mkRat 1 (B ^ n) else mkRat ((B ^ n : Nat) : Int) 1 := by
  cases t
  · exact (Rat.mkRat_self (pw n false)).symm
  · exact (Rat.mkRat_self (pw n true)).symm
theorem pw_mul (i k : Nat) (t : Bool) : pw i t * pw k t = pw (i + k) t := by
  rw [pw_mk, pw_mk, pw_mk]
  cases t
  · simp only [Bool.false_eq_true, if_false]
    rw [Rat.mkRat_mul_mkRat, ← Int.natCast_mul, ← Nat.pow_add]
  · simp only [if_true]
    rw [Rat.mkRat_mul_mkRat, ← Nat.pow_add, Int.one_mul]
theorem pw_quo (i k : Nat) : pw i false * pw k true = if k ≤ i then pw (i - k) false else pw (k - i) true := by
  rw [pw_mk i, pw_mk k]
  simp only [Bool.false_eq_true, if_false, if_true]
  rw [Rat.mkRat_mul_mkRat, Int.mul_one, Nat.one_mul]
  split
  · next h =>
    rw [pw_mk]
    simp only [Bool.false_eq_true, if_false]
    rw [Rat.mkRat_eq_iff (Bn_pos _) (by decide), Int.natCast_one, Int.mul_one, ← Int.natCast_mul, ← Nat.pow_add, show i - k + k = i by omega]
  · next h =>
    rw [pw_mk]
    simp only [if_true]
    rw [Rat.mkRat_eq_iff (Bn_pos _) (Bn_pos _), Int.one_mul, ← Int.natCast_mul, ← Nat.pow_add, show i + (k - i) = k by omega]
theorem pw_lt {i k : Nat} (h : i < k) : B ^ i < B ^ k := Nat.pow_lt_pow_right (by decide) h
theorem pw_cmp (i k : Nat) : (i < k → qcmp (pw i false) (pw k false) = -1) ∧ (i = k → qcmp (pw i false) (pw k false) = 0) ∧ (k < i → qcmp (pw i false) (pw k false) = 1) := by
  have key : qcmp (pw i false) (pw k false) = isg (((B ^ i : Nat) : Int) - ((B ^ k : Nat) : Int)) := by
    rw [← qcmp_isg, (pw_f i).1, (pw_f i).2, (pw_f k).1, (pw_f k).2, Int.natCast_one, Int.mul_one, Int.mul_one]
  rw [key]
  unfold isg
  refine ⟨fun h => ?_, fun h => ?_, fun h => ?_⟩
  · have := pw_lt h
    rw [if_pos (by omega)]
  · subst h
    rw [if_neg (by omega), if_neg (by omega)]
  · have := pw_lt h
    rw [if_neg (by omega), if_pos (by omega)]
theorem pw_cmp2 (i k : Nat) (h : 0 < i + k) : qcmp (pw i false) (pw k true) = 1 := by
  have key : qcmp (pw i false) (pw k true) = isg (((B ^ (i + k) : Nat) : Int) - 1) := by
    rw [← qcmp_isg, (pw_f i).1, (pw_f i).2, (pw_t k).1, (pw_t k).2, Int.natCast_one, Int.mul_one, ← Int.natCast_mul, ← Nat.pow_add]
  have h1 : 1 < B ^ (i + k) := by
    have := pw_lt (i := 0) (k := i + k) h
    rwa [Nat.pow_zero] at this
  rw [key]
  unfold isg
  rw [if_neg (by omega), if_pos (by omega)]
theorem FLimits_c (n m : Int) (t : Bool) (hn : 0 ≤ n ∧ n ≤ 65535) (hm : 0 ≤ m ∧ m ≤ 65535) : Con Try.prog 4 [.v (.int .u16 n), .v (.int .u16 m), Bo t] (Bo true) := by
  obtain ⟨i, hi⟩ : ∃ i : Nat, n % 512 = i := ⟨(n % 512).toNat, by omega⟩
  obtain ⟨k, hk⟩ : ∃ i : Nat, m % 512 = i := ⟨(m % 512).toNat, by omega⟩
  have hi2 : i ≤ 511 := by omega
  have hk2 : k ≤ 511 := by omega
  have p1 := power_f i (by omega)
  have o1 := (okQ_pw i false).2 (by omega)
  cases t with
  | false =>
    have p2 := power_f k (by omega)
    have p3 := power_t i (by omega)
    have p4 := power_t k (by omega)
    have o2 := (okQ_pw k false).2 (by omega)
    have m1 := FMul_q _ _ o1 o2
    have m2 := FMul_q _ _ ((okQ_pw i true).2 (by omega)) ((okQ_pw k true).2 (by omega))
    have c1 := FCmp_q _ _ o1 o2
    obtain ⟨d1, d2, d3⟩ := pw_cmp i k
    rw [pw_mul] at m1 m2
    have hc : (i < k ∧ qcmp (pw i false) (pw k false) = -1) ∨ (i = k ∧ qcmp (pw i false) (pw k false) = 0) ∨ (k < i ∧ qcmp (pw i false) (pw k false) = 1) := by
      rcases Nat.lt_trichotomy i k with h | h | h
      · exact .inl ⟨h, d1 h⟩
      · exact .inr (.inl ⟨h, d2 h⟩)
      · exact .inr (.inr ⟨h, d3 h⟩)
    clear d1 d2 d3
    generalize qcmp (pw i false) (pw k false) = c at *
    have z0 := Same_m false false 0 0
    have s5 := sameQ (pw (i + k) false)
    have s6 := sameQ (pw (i + k) true)
    have p5 := power_f (i + k) (by omega)
    have p6 := power_t (i + k) (by omega)
    rw [Int.natCast_add] at p5 p6
    by_cases hl : i + k < 512
    · rw [resQ_ok ((okQ_pw _ _).2 hl)] at m1 m2
      have e5 := s5
      have e6 := s6
      clear s5 s6
      rcases hc with ⟨h, rfl⟩ | ⟨h, rfl⟩ | ⟨h, rfl⟩
      · refine con_of Try.func4 rfl rfl rfl rfl rfl ?_
        repeat (first | refine seq_ ?_ | refine region_ ?_ | refine nil_ ?_ | refine stepY (y_move rfl) rfl ?_ | refine stepY (y_assign rfl) rfl ?_ | refine stepY (y_convn rfl (by simp only [InK, loK, hiK]; omega)) rfl ?_ | refine stepY (y_remp rfl rfl (by omega) (by omega)) rfl ?_)
        rw [hi, hk]
        refine call_ Try.func18 rfl rfl (p1) rfl (by repeat (first | exact .refl _ | apply Les.cons | exact .nil)) rfl ?_
        repeat (refine stepY (y_move rfl) rfl ?_)
        refine call_ Try.func18 rfl rfl (p2) rfl (by repeat (first | exact .refl _ | apply Les.cons | exact .nil)) rfl ?_
        repeat (first | refine seq_ ?_ | refine region_ ?_ | refine nil_ ?_ | refine stepY (y_loadA rfl rfl rfl) rfl ?_ | refine stepE (e_alloc rfl rfl rfl) ?_ | refine stepE (e_store rfl rfl rfl rfl rfl rfl rfl) ?_)
        refine call_ Try.func19 rfl rfl (m1) rfl (by repeat (first | exact .refl _ | exact .tag _ _ | apply Le.ag | apply Les.cons | exact .nil)) rfl ?_
        repeat (first | refine seq_ ?_ | refine region_ ?_ | refine nil_ ?_ | refine stepY (y_move rfl) rfl ?_ | refine stepY (y_assign rfl) rfl ?_ | refine stepY (y_loadA rfl rfl rfl) rfl ?_ | refine stepY (y_extract rfl rfl) rfl ?_ | refine stepE (e_alloc rfl rfl rfl) ?_ | refine stepE (e_store rfl rfl rfl rfl rfl rfl rfl) ?_)
        refine call_ Try.func20 rfl rfl (c1) rfl (by repeat (first | exact .refl _ | exact .tag _ _ | apply Le.ag | apply Les.cons | exact .nil)) rfl ?_
        repeat (first | refine seq_ ?_ | refine region_ ?_ | refine nil_ ?_ | refine skip_ ?_ | refine cond_t rfl ?_ | refine cond_f rfl ?_ | refine guard_t rfl rfl rfl ?_ | refine guard_f rfl rfl rfl rfl ?_ | refine stepY (y_move rfl) rfl ?_ | refine stepY (y_assign rfl) rfl ?_ | refine stepY (y_extract rfl rfl) rfl ?_ | refine stepY (y_not rfl) rfl ?_ | (first | refine stepY (y_pick_t rfl rfl) rfl ?_ | refine stepY (y_pick_f rfl rfl) rfl ?_) | (first | refine stepY (y_cmpF rfl rfl rfl (by omega)) rfl ?_ | refine stepY (y_neb rfl rfl) rfl ?_) | refine stepY (y_cmpT rfl rfl rfl (by omega)) rfl ?_ | refine stepY (y_cmpF rfl rfl rfl (by omega)) rfl ?_)
        refine call_ Try.func18 rfl rfl (p3) rfl (by repeat (first | exact .refl _ | apply Les.cons | exact .nil)) rfl ?_
        repeat (refine stepY (y_move rfl) rfl ?_)
        refine call_ Try.func18 rfl rfl (p4) rfl (by repeat (first | exact .refl _ | apply Les.cons | exact .nil)) rfl ?_
        skip
        refine call_ Try.func19 rfl rfl (m2) rfl (by repeat (first | exact .refl _ | exact .tag _ _ | apply Le.ag | apply Les.cons | exact .nil)) rfl ?_
        repeat (first | refine seq_ ?_ | refine region_ ?_ | refine nil_ ?_ | refine skip_ ?_ | refine cond_f rfl ?_ | refine stepY (y_move rfl) rfl ?_ | refine stepY (y_assign rfl) rfl ?_ | refine stepY (y_extract rfl rfl) rfl ?_ | refine stepY (y_binn rfl rfl rfl (by simp only [InK, loK, hiK]; omega)) rfl ?_ | refine stepY (y_cmpF rfl rfl rfl (by omega)) rfl ?_ | refine stepE (e_alloc rfl rfl rfl) ?_ | refine stepE (e_store rfl rfl rfl rfl rfl rfl rfl) ?_)
        refine draw_ [(0, true), (1, true), (2, true), (3, true), (4, true), (5, true), (6, true), (7, false), (8, false), (9, true), (10, true), (11, true), (12, true), (13, true), (14, true), (15, true), (16, true), (17, true), (18, true), (19, false), (20, false), (21, true), (22, true), (23, false), (24, true), (25, true)] 1000 [11, 15] mixed (by kernel_rfl) rfl ?_
        ((refine dY rfl (y_move rfl) rfl rfl rfl rfl ?_); refine dY rfl (y_cmpT rfl rfl rfl (by omega)) rfl rfl rfl rfl ?_; refine dY rfl (y_move rfl) rfl rfl rfl rfl ?_; refine dY rfl (y_loadA rfl rfl rfl) rfl rfl rfl rfl ?_; refine dY rfl (y_move rfl) rfl rfl rfl rfl ?_; refine dY rfl (y_move rfl) rfl rfl rfl rfl ?_; refine dY rfl (y_binn rfl rfl rfl (by simp only [InK, loK, hiK]; omega)) rfl rfl rfl rfl ?_)
        refine dC rfl Try.func18 rfl rfl (p5) rfl (by repeat (first | exact .refl _ | apply Les.cons | exact .nil)) rfl rfl ?_
        skip
        refine dC rfl Try.func21 rfl rfl (e5) rfl (by repeat (first | exact .refl _ | exact .tag _ _ | apply Le.ag | apply Les.cons | exact .nil)) rfl rfl ?_
        ((refine dY rfl (y_pick_t rfl rfl) rfl rfl rfl rfl ?_); refine dY rfl (y_move rfl) rfl rfl rfl rfl ?_; refine dY rfl (y_move rfl) rfl rfl rfl rfl ?_; refine dY rfl (y_cmpT rfl rfl rfl (by omega)) rfl rfl rfl rfl ?_; refine dY rfl (y_pick_t rfl rfl) rfl rfl rfl rfl ?_; refine dY rfl (y_move rfl) rfl rfl rfl rfl ?_; refine dY rfl (y_loadA rfl rfl rfl) rfl rfl rfl rfl ?_; refine dY rfl (y_move rfl) rfl rfl rfl rfl ?_; refine dY rfl (y_move rfl) rfl rfl rfl rfl ?_; refine dY rfl (y_binn rfl rfl rfl (by simp only [InK, loK, hiK]; omega)) rfl rfl rfl rfl ?_)
        refine dC rfl Try.func18 rfl rfl (p6) rfl (by repeat (first | exact .refl _ | apply Les.cons | exact .nil)) rfl rfl ?_
        skip
        refine dC rfl Try.func21 rfl rfl (e6) rfl (by repeat (first | exact .refl _ | exact .tag _ _ | apply Le.ag | apply Les.cons | exact .nil)) rfl rfl ?_
        ((refine dY rfl (y_pick_t rfl rfl) rfl rfl rfl rfl ?_); refine dY rfl (y_move rfl) rfl rfl rfl rfl ?_)
        refine dC rfl Try.func10 rfl rfl (exampleHolds_c) rfl (by repeat (exact .nil)) rfl rfl ?_
        ((refine dY rfl (y_pick_t rfl rfl) rfl rfl rfl rfl ?_); refine dY rfl (y_assign rfl) rfl rfl rfl rfl ?_; refine dEnd ?_)
        repeat (refine ret_ ?_)
        ((apply fin_r); (repeat (first | exact .nil | exact .tmp rfl | apply ResL.cons)); (repeat (exact .refl _)))
      · refine con_of Try.func4 rfl rfl rfl rfl rfl ?_
        repeat (first | refine seq_ ?_ | refine region_ ?_ | refine nil_ ?_ | refine stepY (y_move rfl) rfl ?_ | refine stepY (y_assign rfl) rfl ?_ | refine stepY (y_convn rfl (by simp only [InK, loK, hiK]; omega)) rfl ?_ | refine stepY (y_remp rfl rfl (by omega) (by omega)) rfl ?_)
        rw [hi, hk]
        refine call_ Try.func18 rfl rfl (p1) rfl (by repeat (first | exact .refl _ | apply Les.cons | exact .nil)) rfl ?_
        repeat (refine stepY (y_move rfl) rfl ?_)
        refine call_ Try.func18 rfl rfl (p2) rfl (by repeat (first | exact .refl _ | apply Les.cons | exact .nil)) rfl ?_
        repeat (first | refine seq_ ?_ | refine region_ ?_ | refine nil_ ?_ | refine stepY (y_loadA rfl rfl rfl) rfl ?_ | refine stepE (e_alloc rfl rfl rfl) ?_ | refine stepE (e_store rfl rfl rfl rfl rfl rfl rfl) ?_)
        refine call_ Try.func19 rfl rfl (m1) rfl (by repeat (first | exact .refl _ | exact .tag _ _ | apply Le.ag | apply Les.cons | exact .nil)) rfl ?_
        repeat (first | refine seq_ ?_ | refine region_ ?_ | refine nil_ ?_ | refine stepY (y_move rfl) rfl ?_ | refine stepY (y_assign rfl) rfl ?_ | refine stepY (y_loadA rfl rfl rfl) rfl ?_ | refine stepY (y_extract rfl rfl) rfl ?_ | refine stepE (e_alloc rfl rfl rfl) ?_ | refine stepE (e_store rfl rfl rfl rfl rfl rfl rfl) ?_)
        refine call_ Try.func20 rfl rfl (c1) rfl (by repeat (first | exact .refl _ | exact .tag _ _ | apply Le.ag | apply Les.cons | exact .nil)) rfl ?_
        repeat (first | refine seq_ ?_ | refine region_ ?_ | refine nil_ ?_ | refine skip_ ?_ | refine cond_t rfl ?_ | refine cond_f rfl ?_ | refine guard_t rfl rfl rfl ?_ | refine guard_f rfl rfl rfl rfl ?_ | refine stepY (y_move rfl) rfl ?_ | refine stepY (y_assign rfl) rfl ?_ | refine stepY (y_extract rfl rfl) rfl ?_ | refine stepY (y_not rfl) rfl ?_ | (first | refine stepY (y_pick_t rfl rfl) rfl ?_ | refine stepY (y_pick_f rfl rfl) rfl ?_) | (first | refine stepY (y_cmpF rfl rfl rfl (by omega)) rfl ?_ | refine stepY (y_neb rfl rfl) rfl ?_) | refine stepY (y_cmpF rfl rfl rfl (by omega)) rfl ?_ | refine stepY (y_cmpF rfl rfl rfl (by omega)) rfl ?_)
        refine call_ Try.func18 rfl rfl (p3) rfl (by repeat (first | exact .refl _ | apply Les.cons | exact .nil)) rfl ?_
        repeat (refine stepY (y_move rfl) rfl ?_)
        refine call_ Try.func18 rfl rfl (p4) rfl (by repeat (first | exact .refl _ | apply Les.cons | exact .nil)) rfl ?_
        skip
        refine call_ Try.func19 rfl rfl (m2) rfl (by repeat (first | exact .refl _ | exact .tag _ _ | apply Le.ag | apply Les.cons | exact .nil)) rfl ?_
        repeat (first | refine seq_ ?_ | refine region_ ?_ | refine nil_ ?_ | refine skip_ ?_ | refine cond_f rfl ?_ | refine stepY (y_move rfl) rfl ?_ | refine stepY (y_assign rfl) rfl ?_ | refine stepY (y_extract rfl rfl) rfl ?_ | refine stepY (y_binn rfl rfl rfl (by simp only [InK, loK, hiK]; omega)) rfl ?_ | refine stepY (y_cmpF rfl rfl rfl (by omega)) rfl ?_ | refine stepE (e_alloc rfl rfl rfl) ?_ | refine stepE (e_store rfl rfl rfl rfl rfl rfl rfl) ?_)
        refine draw_ [(0, true), (1, true), (2, true), (3, true), (4, true), (5, true), (6, true), (7, false), (8, false), (9, true), (10, true), (11, true), (12, true), (13, true), (14, true), (15, true), (16, true), (17, true), (18, true), (19, false), (20, false), (21, true), (22, true), (23, false), (24, true), (25, true)] 1000 [11, 15] mixed (by kernel_rfl) rfl ?_
        ((refine dY rfl (y_move rfl) rfl rfl rfl rfl ?_); refine dY rfl (y_cmpT rfl rfl rfl (by omega)) rfl rfl rfl rfl ?_; refine dY rfl (y_move rfl) rfl rfl rfl rfl ?_; refine dY rfl (y_loadA rfl rfl rfl) rfl rfl rfl rfl ?_; refine dY rfl (y_move rfl) rfl rfl rfl rfl ?_; refine dY rfl (y_move rfl) rfl rfl rfl rfl ?_; refine dY rfl (y_binn rfl rfl rfl (by simp only [InK, loK, hiK]; omega)) rfl rfl rfl rfl ?_)
        refine dC rfl Try.func18 rfl rfl (p5) rfl (by repeat (first | exact .refl _ | apply Les.cons | exact .nil)) rfl rfl ?_
        skip
        refine dC rfl Try.func21 rfl rfl (e5) rfl (by repeat (first | exact .refl _ | exact .tag _ _ | apply Le.ag | apply Les.cons | exact .nil)) rfl rfl ?_
        ((refine dY rfl (y_pick_t rfl rfl) rfl rfl rfl rfl ?_); refine dY rfl (y_move rfl) rfl rfl rfl rfl ?_; refine dY rfl (y_move rfl) rfl rfl rfl rfl ?_; refine dY rfl (y_cmpT rfl rfl rfl (by omega)) rfl rfl rfl rfl ?_; refine dY rfl (y_pick_t rfl rfl) rfl rfl rfl rfl ?_; refine dY rfl (y_move rfl) rfl rfl rfl rfl ?_; refine dY rfl (y_loadA rfl rfl rfl) rfl rfl rfl rfl ?_; refine dY rfl (y_move rfl) rfl rfl rfl rfl ?_; refine dY rfl (y_move rfl) rfl rfl rfl rfl ?_; refine dY rfl (y_binn rfl rfl rfl (by simp only [InK, loK, hiK]; omega)) rfl rfl rfl rfl ?_)
        refine dC rfl Try.func18 rfl rfl (p6) rfl (by repeat (first | exact .refl _ | apply Les.cons | exact .nil)) rfl rfl ?_
        skip
        refine dC rfl Try.func21 rfl rfl (e6) rfl (by repeat (first | exact .refl _ | exact .tag _ _ | apply Le.ag | apply Les.cons | exact .nil)) rfl rfl ?_
        ((refine dY rfl (y_pick_t rfl rfl) rfl rfl rfl rfl ?_); refine dY rfl (y_move rfl) rfl rfl rfl rfl ?_)
        refine dC rfl Try.func10 rfl rfl (exampleHolds_c) rfl (by repeat (exact .nil)) rfl rfl ?_
        ((refine dY rfl (y_pick_t rfl rfl) rfl rfl rfl rfl ?_); refine dY rfl (y_assign rfl) rfl rfl rfl rfl ?_; refine dEnd ?_)
        repeat (refine ret_ ?_)
        ((apply fin_r); (repeat (first | exact .nil | exact .tmp rfl | apply ResL.cons)); (repeat (exact .refl _)))
      · refine con_of Try.func4 rfl rfl rfl rfl rfl ?_
        repeat (first | refine seq_ ?_ | refine region_ ?_ | refine nil_ ?_ | refine stepY (y_move rfl) rfl ?_ | refine stepY (y_assign rfl) rfl ?_ | refine stepY (y_convn rfl (by simp only [InK, loK, hiK]; omega)) rfl ?_ | refine stepY (y_remp rfl rfl (by omega) (by omega)) rfl ?_)
        rw [hi, hk]
        refine call_ Try.func18 rfl rfl (p1) rfl (by repeat (first | exact .refl _ | apply Les.cons | exact .nil)) rfl ?_
        repeat (refine stepY (y_move rfl) rfl ?_)
        refine call_ Try.func18 rfl rfl (p2) rfl (by repeat (first | exact .refl _ | apply Les.cons | exact .nil)) rfl ?_
        repeat (first | refine seq_ ?_ | refine region_ ?_ | refine nil_ ?_ | refine stepY (y_loadA rfl rfl rfl) rfl ?_ | refine stepE (e_alloc rfl rfl rfl) ?_ | refine stepE (e_store rfl rfl rfl rfl rfl rfl rfl) ?_)
        refine call_ Try.func19 rfl rfl (m1) rfl (by repeat (first | exact .refl _ | exact .tag _ _ | apply Le.ag | apply Les.cons | exact .nil)) rfl ?_
        repeat (first | refine seq_ ?_ | refine region_ ?_ | refine nil_ ?_ | refine stepY (y_move rfl) rfl ?_ | refine stepY (y_assign rfl) rfl ?_ | refine stepY (y_loadA rfl rfl rfl) rfl ?_ | refine stepY (y_extract rfl rfl) rfl ?_ | refine stepE (e_alloc rfl rfl rfl) ?_ | refine stepE (e_store rfl rfl rfl rfl rfl rfl rfl) ?_)
        refine call_ Try.func20 rfl rfl (c1) rfl (by repeat (first | exact .refl _ | exact .tag _ _ | apply Le.ag | apply Les.cons | exact .nil)) rfl ?_
        repeat (first | refine seq_ ?_ | refine region_ ?_ | refine nil_ ?_ | refine skip_ ?_ | refine cond_t rfl ?_ | refine cond_f rfl ?_ | refine guard_t rfl rfl rfl ?_ | refine guard_f rfl rfl rfl rfl ?_ | refine stepY (y_move rfl) rfl ?_ | refine stepY (y_assign rfl) rfl ?_ | refine stepY (y_extract rfl rfl) rfl ?_ | refine stepY (y_not rfl) rfl ?_ | (first | refine stepY (y_pick_t rfl rfl) rfl ?_ | refine stepY (y_pick_f rfl rfl) rfl ?_) | (first | refine stepY (y_cmpF rfl rfl rfl (by omega)) rfl ?_ | refine stepY (y_neb rfl rfl) rfl ?_) | refine stepY (y_cmpF rfl rfl rfl (by omega)) rfl ?_ | refine stepY (y_cmpT rfl rfl rfl (by omega)) rfl ?_)
        refine call_ Try.func18 rfl rfl (p3) rfl (by repeat (first | exact .refl _ | apply Les.cons | exact .nil)) rfl ?_
        repeat (refine stepY (y_move rfl) rfl ?_)
        refine call_ Try.func18 rfl rfl (p4) rfl (by repeat (first | exact .refl _ | apply Les.cons | exact .nil)) rfl ?_
        skip
        refine call_ Try.func19 rfl rfl (m2) rfl (by repeat (first | exact .refl _ | exact .tag _ _ | apply Le.ag | apply Les.cons | exact .nil)) rfl ?_
        repeat (first | refine seq_ ?_ | refine region_ ?_ | refine nil_ ?_ | refine skip_ ?_ | refine cond_f rfl ?_ | refine stepY (y_move rfl) rfl ?_ | refine stepY (y_assign rfl) rfl ?_ | refine stepY (y_extract rfl rfl) rfl ?_ | refine stepY (y_binn rfl rfl rfl (by simp only [InK, loK, hiK]; omega)) rfl ?_ | refine stepY (y_cmpF rfl rfl rfl (by omega)) rfl ?_ | refine stepE (e_alloc rfl rfl rfl) ?_ | refine stepE (e_store rfl rfl rfl rfl rfl rfl rfl) ?_)
        refine draw_ [(0, true), (1, true), (2, true), (3, true), (4, true), (5, true), (6, true), (7, false), (8, false), (9, true), (10, true), (11, true), (12, true), (13, true), (14, true), (15, true), (16, true), (17, true), (18, true), (19, false), (20, false), (21, true), (22, true), (23, false), (24, true), (25, true)] 1000 [11, 15] mixed (by kernel_rfl) rfl ?_
        ((refine dY rfl (y_move rfl) rfl rfl rfl rfl ?_); refine dY rfl (y_cmpT rfl rfl rfl (by omega)) rfl rfl rfl rfl ?_; refine dY rfl (y_move rfl) rfl rfl rfl rfl ?_; refine dY rfl (y_loadA rfl rfl rfl) rfl rfl rfl rfl ?_; refine dY rfl (y_move rfl) rfl rfl rfl rfl ?_; refine dY rfl (y_move rfl) rfl rfl rfl rfl ?_; refine dY rfl (y_binn rfl rfl rfl (by simp only [InK, loK, hiK]; omega)) rfl rfl rfl rfl ?_)
        refine dC rfl Try.func18 rfl rfl (p5) rfl (by repeat (first | exact .refl _ | apply Les.cons | exact .nil)) rfl rfl ?_
        skip
        refine dC rfl Try.func21 rfl rfl (e5) rfl (by repeat (first | exact .refl _ | exact .tag _ _ | apply Le.ag | apply Les.cons | exact .nil)) rfl rfl ?_
        ((refine dY rfl (y_pick_t rfl rfl) rfl rfl rfl rfl ?_); refine dY rfl (y_move rfl) rfl rfl rfl rfl ?_; refine dY rfl (y_move rfl) rfl rfl rfl rfl ?_; refine dY rfl (y_cmpT rfl rfl rfl (by omega)) rfl rfl rfl rfl ?_; refine dY rfl (y_pick_t rfl rfl) rfl rfl rfl rfl ?_; refine dY rfl (y_move rfl) rfl rfl rfl rfl ?_; refine dY rfl (y_loadA rfl rfl rfl) rfl rfl rfl rfl ?_; refine dY rfl (y_move rfl) rfl rfl rfl rfl ?_; refine dY rfl (y_move rfl) rfl rfl rfl rfl ?_; refine dY rfl (y_binn rfl rfl rfl (by simp only [InK, loK, hiK]; omega)) rfl rfl rfl rfl ?_)
        refine dC rfl Try.func18 rfl rfl (p6) rfl (by repeat (first | exact .refl _ | apply Les.cons | exact .nil)) rfl rfl ?_
        skip
        refine dC rfl Try.func21 rfl rfl (e6) rfl (by repeat (first | exact .refl _ | exact .tag _ _ | apply Le.ag | apply Les.cons | exact .nil)) rfl rfl ?_
        ((refine dY rfl (y_pick_t rfl rfl) rfl rfl rfl rfl ?_); refine dY rfl (y_move rfl) rfl rfl rfl rfl ?_)
        refine dC rfl Try.func10 rfl rfl (exampleHolds_c) rfl (by repeat (exact .nil)) rfl rfl ?_
        ((refine dY rfl (y_pick_t rfl rfl) rfl rfl rfl rfl ?_); refine dY rfl (y_assign rfl) rfl rfl rfl rfl ?_; refine dEnd ?_)
        repeat (refine ret_ ?_)
        ((apply fin_r); (repeat (first | exact .nil | exact .tmp rfl | apply ResL.cons)); (repeat (exact .refl _)))
    · rw [resQ_no (fun h => hl ((okQ_pw _ _).1 h))] at m1 m2
      rcases hc with ⟨h, rfl⟩ | ⟨h, rfl⟩ | ⟨h, rfl⟩
      · refine con_of Try.func4 rfl rfl rfl rfl rfl ?_
        repeat (first | refine seq_ ?_ | refine region_ ?_ | refine nil_ ?_ | refine stepY (y_move rfl) rfl ?_ | refine stepY (y_assign rfl) rfl ?_ | refine stepY (y_convn rfl (by simp only [InK, loK, hiK]; omega)) rfl ?_ | refine stepY (y_remp rfl rfl (by omega) (by omega)) rfl ?_)
        rw [hi, hk]
        refine call_ Try.func18 rfl rfl (p1) rfl (by repeat (first | exact .refl _ | apply Les.cons | exact .nil)) rfl ?_
        repeat (refine stepY (y_move rfl) rfl ?_)
        refine call_ Try.func18 rfl rfl (p2) rfl (by repeat (first | exact .refl _ | apply Les.cons | exact .nil)) rfl ?_
        repeat (first | refine seq_ ?_ | refine region_ ?_ | refine nil_ ?_ | refine stepY (y_loadA rfl rfl rfl) rfl ?_ | refine stepE (e_alloc rfl rfl rfl) ?_ | refine stepE (e_store rfl rfl rfl rfl rfl rfl rfl) ?_)
        refine call_ Try.func19 rfl rfl (m1) rfl (by repeat (first | exact .refl _ | exact .tag _ _ | apply Le.ag | apply Les.cons | exact .nil)) rfl ?_
        repeat (first | refine seq_ ?_ | refine region_ ?_ | refine nil_ ?_ | refine stepY (y_move rfl) rfl ?_ | refine stepY (y_assign rfl) rfl ?_ | refine stepY (y_loadA rfl rfl rfl) rfl ?_ | refine stepY (y_extract rfl rfl) rfl ?_ | refine stepE (e_alloc rfl rfl rfl) ?_ | refine stepE (e_store rfl rfl rfl rfl rfl rfl rfl) ?_)
        refine call_ Try.func20 rfl rfl (c1) rfl (by repeat (first | exact .refl _ | exact .tag _ _ | apply Le.ag | apply Les.cons | exact .nil)) rfl ?_
        repeat (first | refine seq_ ?_ | refine region_ ?_ | refine nil_ ?_ | refine skip_ ?_ | refine cond_t rfl ?_ | refine cond_f rfl ?_ | refine guard_t rfl rfl rfl ?_ | refine guard_f rfl rfl rfl rfl ?_ | refine stepY (y_move rfl) rfl ?_ | refine stepY (y_assign rfl) rfl ?_ | refine stepY (y_extract rfl rfl) rfl ?_ | refine stepY (y_not rfl) rfl ?_ | (first | refine stepY (y_pick_t rfl rfl) rfl ?_ | refine stepY (y_pick_f rfl rfl) rfl ?_) | (first | refine stepY (y_cmpF rfl rfl rfl (by omega)) rfl ?_ | refine stepY (y_neb rfl rfl) rfl ?_) | refine stepY (y_cmpT rfl rfl rfl (by omega)) rfl ?_ | refine stepY (y_cmpF rfl rfl rfl (by omega)) rfl ?_)
        refine call_ Try.func18 rfl rfl (p3) rfl (by repeat (first | exact .refl _ | apply Les.cons | exact .nil)) rfl ?_
        repeat (refine stepY (y_move rfl) rfl ?_)
        refine call_ Try.func18 rfl rfl (p4) rfl (by repeat (first | exact .refl _ | apply Les.cons | exact .nil)) rfl ?_
        skip
        refine call_ Try.func19 rfl rfl (m2) rfl (by repeat (first | exact .refl _ | exact .tag _ _ | apply Le.ag | apply Les.cons | exact .nil)) rfl ?_
        repeat (first | refine seq_ ?_ | refine region_ ?_ | refine nil_ ?_ | refine cond_t rfl ?_ | refine guard_t rfl rfl rfl ?_ | refine stepY (y_move rfl) rfl ?_ | refine stepY (y_assign rfl) rfl ?_ | refine stepY (y_loadA rfl rfl rfl) rfl ?_ | refine stepY (y_extract rfl rfl) rfl ?_ | refine stepY (y_build rfl rfl rfl) rfl ?_ | refine stepY (y_binn rfl rfl rfl (by simp only [InK, loK, hiK]; omega)) rfl ?_ | refine stepY (y_cmpT rfl rfl rfl (by omega)) rfl ?_ | refine stepY (y_cmpT rfl rfl rfl (by omega)) rfl ?_ | refine stepE (e_alloc rfl rfl rfl) ?_ | refine stepE (e_store rfl rfl rfl rfl rfl rfl rfl) ?_)
        refine call_ Try.func21 rfl rfl (z0) rfl (by repeat (first | exact .refl _ | exact .tag _ _ | exact .nil _ _ | apply Le.ag | apply Les.cons | exact .nil)) rfl ?_
        repeat (first | refine guard_t rfl rfl rfl ?_ | refine stepY (y_move rfl) rfl ?_ | refine stepY (y_loadA rfl rfl rfl) rfl ?_ | refine stepY (y_pick_t rfl rfl) rfl ?_ | refine stepY (y_build rfl rfl rfl) rfl ?_ | refine stepY (y_cmpT rfl rfl rfl (by omega)) rfl ?_)
        refine call_ Try.func21 rfl rfl (z0) rfl (by repeat (first | exact .refl _ | exact .tag _ _ | exact .nil _ _ | apply Le.ag | apply Les.cons | exact .nil)) rfl ?_
        repeat (first | refine guard_t rfl rfl rfl ?_ | refine stepY (y_move rfl) rfl ?_ | refine stepY (y_pick_t rfl rfl) rfl ?_)
        refine call_ Try.func10 rfl rfl (exampleHolds_c) rfl (by repeat (exact .nil)) rfl ?_
        repeat (first | refine nil_ ?_ | refine ret_ ?_ | refine stepY (y_assign rfl) rfl ?_ | refine stepY (y_pick_t rfl rfl) rfl ?_)
        ((apply fin_r); (repeat (first | exact .nil | exact .tmp rfl | apply ResL.cons)); (repeat (exact .refl _)))
      · refine con_of Try.func4 rfl rfl rfl rfl rfl ?_
        repeat (first | refine seq_ ?_ | refine region_ ?_ | refine nil_ ?_ | refine stepY (y_move rfl) rfl ?_ | refine stepY (y_assign rfl) rfl ?_ | refine stepY (y_convn rfl (by simp only [InK, loK, hiK]; omega)) rfl ?_ | refine stepY (y_remp rfl rfl (by omega) (by omega)) rfl ?_)
        rw [hi, hk]
        refine call_ Try.func18 rfl rfl (p1) rfl (by repeat (first | exact .refl _ | apply Les.cons | exact .nil)) rfl ?_
        repeat (refine stepY (y_move rfl) rfl ?_)
        refine call_ Try.func18 rfl rfl (p2) rfl (by repeat (first | exact .refl _ | apply Les.cons | exact .nil)) rfl ?_
        repeat (first | refine seq_ ?_ | refine region_ ?_ | refine nil_ ?_ | refine stepY (y_loadA rfl rfl rfl) rfl ?_ | refine stepE (e_alloc rfl rfl rfl) ?_ | refine stepE (e_store rfl rfl rfl rfl rfl rfl rfl) ?_)
        refine call_ Try.func19 rfl rfl (m1) rfl (by repeat (first | exact .refl _ | exact .tag _ _ | apply Le.ag | apply Les.cons | exact .nil)) rfl ?_
        repeat (first | refine seq_ ?_ | refine region_ ?_ | refine nil_ ?_ | refine stepY (y_move rfl) rfl ?_ | refine stepY (y_assign rfl) rfl ?_ | refine stepY (y_loadA rfl rfl rfl) rfl ?_ | refine stepY (y_extract rfl rfl) rfl ?_ | refine stepE (e_alloc rfl rfl rfl) ?_ | refine stepE (e_store rfl rfl rfl rfl rfl rfl rfl) ?_)
        refine call_ Try.func20 rfl rfl (c1) rfl (by repeat (first | exact .refl _ | exact .tag _ _ | apply Le.ag | apply Les.cons | exact .nil)) rfl ?_
        repeat (first | refine seq_ ?_ | refine region_ ?_ | refine nil_ ?_ | refine skip_ ?_ | refine cond_t rfl ?_ | refine cond_f rfl ?_ | refine guard_t rfl rfl rfl ?_ | refine guard_f rfl rfl rfl rfl ?_ | refine stepY (y_move rfl) rfl ?_ | refine stepY (y_assign rfl) rfl ?_ | refine stepY (y_extract rfl rfl) rfl ?_ | refine stepY (y_not rfl) rfl ?_ | (first | refine stepY (y_pick_t rfl rfl) rfl ?_ | refine stepY (y_pick_f rfl rfl) rfl ?_) | (first | refine stepY (y_cmpF rfl rfl rfl (by omega)) rfl ?_ | refine stepY (y_neb rfl rfl) rfl ?_) | refine stepY (y_cmpF rfl rfl rfl (by omega)) rfl ?_ | refine stepY (y_cmpF rfl rfl rfl (by omega)) rfl ?_)
        refine call_ Try.func18 rfl rfl (p3) rfl (by repeat (first | exact .refl _ | apply Les.cons | exact .nil)) rfl ?_
        repeat (refine stepY (y_move rfl) rfl ?_)
        refine call_ Try.func18 rfl rfl (p4) rfl (by repeat (first | exact .refl _ | apply Les.cons | exact .nil)) rfl ?_
        skip
        refine call_ Try.func19 rfl rfl (m2) rfl (by repeat (first | exact .refl _ | exact .tag _ _ | apply Le.ag | apply Les.cons | exact .nil)) rfl ?_
        repeat (first | refine seq_ ?_ | refine region_ ?_ | refine nil_ ?_ | refine cond_t rfl ?_ | refine guard_t rfl rfl rfl ?_ | refine stepY (y_move rfl) rfl ?_ | refine stepY (y_assign rfl) rfl ?_ | refine stepY (y_loadA rfl rfl rfl) rfl ?_ | refine stepY (y_extract rfl rfl) rfl ?_ | refine stepY (y_build rfl rfl rfl) rfl ?_ | refine stepY (y_binn rfl rfl rfl (by simp only [InK, loK, hiK]; omega)) rfl ?_ | refine stepY (y_cmpT rfl rfl rfl (by omega)) rfl ?_ | refine stepY (y_cmpT rfl rfl rfl (by omega)) rfl ?_ | refine stepE (e_alloc rfl rfl rfl) ?_ | refine stepE (e_store rfl rfl rfl rfl rfl rfl rfl) ?_)
        refine call_ Try.func21 rfl rfl (z0) rfl (by repeat (first | exact .refl _ | exact .tag _ _ | exact .nil _ _ | apply Le.ag | apply Les.cons | exact .nil)) rfl ?_
        repeat (first | refine guard_t rfl rfl rfl ?_ | refine stepY (y_move rfl) rfl ?_ | refine stepY (y_loadA rfl rfl rfl) rfl ?_ | refine stepY (y_pick_t rfl rfl) rfl ?_ | refine stepY (y_build rfl rfl rfl) rfl ?_ | refine stepY (y_cmpT rfl rfl rfl (by omega)) rfl ?_)
        refine call_ Try.func21 rfl rfl (z0) rfl (by repeat (first | exact .refl _ | exact .tag _ _ | exact .nil _ _ | apply Le.ag | apply Les.cons | exact .nil)) rfl ?_
        repeat (first | refine guard_t rfl rfl rfl ?_ | refine stepY (y_move rfl) rfl ?_ | refine stepY (y_pick_t rfl rfl) rfl ?_)
        refine call_ Try.func10 rfl rfl (exampleHolds_c) rfl (by repeat (exact .nil)) rfl ?_
        repeat (first | refine nil_ ?_ | refine ret_ ?_ | refine stepY (y_assign rfl) rfl ?_ | refine stepY (y_pick_t rfl rfl) rfl ?_)
        ((apply fin_r); (repeat (first | exact .nil | exact .tmp rfl | apply ResL.cons)); (repeat (exact .refl _)))
      · refine con_of Try.func4 rfl rfl rfl rfl rfl ?_
        repeat (first | refine seq_ ?_ | refine region_ ?_ | refine nil_ ?_ | refine stepY (y_move rfl) rfl ?_ | refine stepY (y_assign rfl) rfl ?_ | refine stepY (y_convn rfl (by simp only [InK, loK, hiK]; omega)) rfl ?_ | refine stepY (y_remp rfl rfl (by omega) (by omega)) rfl ?_)
        rw [hi, hk]
        refine call_ Try.func18 rfl rfl (p1) rfl (by repeat (first | exact .refl _ | apply Les.cons | exact .nil)) rfl ?_
        repeat (refine stepY (y_move rfl) rfl ?_)
        refine call_ Try.func18 rfl rfl (p2) rfl (by repeat (first | exact .refl _ | apply Les.cons | exact .nil)) rfl ?_
        repeat (first | refine seq_ ?_ | refine region_ ?_ | refine nil_ ?_ | refine stepY (y_loadA rfl rfl rfl) rfl ?_ | refine stepE (e_alloc rfl rfl rfl) ?_ | refine stepE (e_store rfl rfl rfl rfl rfl rfl rfl) ?_)
        refine call_ Try.func19 rfl rfl (m1) rfl (by repeat (first | exact .refl _ | exact .tag _ _ | apply Le.ag | apply Les.cons | exact .nil)) rfl ?_
        repeat (first | refine seq_ ?_ | refine region_ ?_ | refine nil_ ?_ | refine stepY (y_move rfl) rfl ?_ | refine stepY (y_assign rfl) rfl ?_ | refine stepY (y_loadA rfl rfl rfl) rfl ?_ | refine stepY (y_extract rfl rfl) rfl ?_ | refine stepE (e_alloc rfl rfl rfl) ?_ | refine stepE (e_store rfl rfl rfl rfl rfl rfl rfl) ?_)
        refine call_ Try.func20 rfl rfl (c1) rfl (by repeat (first | exact .refl _ | exact .tag _ _ | apply Le.ag | apply Les.cons | exact .nil)) rfl ?_
        repeat (first | refine seq_ ?_ | refine region_ ?_ | refine nil_ ?_ | refine skip_ ?_ | refine cond_t rfl ?_ | refine cond_f rfl ?_ | refine guard_t rfl rfl rfl ?_ | refine guard_f rfl rfl rfl rfl ?_ | refine stepY (y_move rfl) rfl ?_ | refine stepY (y_assign rfl) rfl ?_ | refine stepY (y_extract rfl rfl) rfl ?_ | refine stepY (y_not rfl) rfl ?_ | (first | refine stepY (y_pick_t rfl rfl) rfl ?_ | refine stepY (y_pick_f rfl rfl) rfl ?_) | (first | refine stepY (y_cmpF rfl rfl rfl (by omega)) rfl ?_ | refine stepY (y_neb rfl rfl) rfl ?_) | refine stepY (y_cmpF rfl rfl rfl (by omega)) rfl ?_ | refine stepY (y_cmpT rfl rfl rfl (by omega)) rfl ?_)
        refine call_ Try.func18 rfl rfl (p3) rfl (by repeat (first | exact .refl _ | apply Les.cons | exact .nil)) rfl ?_
        repeat (refine stepY (y_move rfl) rfl ?_)
        refine call_ Try.func18 rfl rfl (p4) rfl (by repeat (first | exact .refl _ | apply Les.cons | exact .nil)) rfl ?_
        skip
        refine call_ Try.func19 rfl rfl (m2) rfl (by repeat (first | exact .refl _ | exact .tag _ _ | apply Le.ag | apply Les.cons | exact .nil)) rfl ?_
        repeat (first | refine seq_ ?_ | refine region_ ?_ | refine nil_ ?_ | refine cond_t rfl ?_ | refine guard_t rfl rfl rfl ?_ | refine stepY (y_move rfl) rfl ?_ | refine stepY (y_assign rfl) rfl ?_ | refine stepY (y_loadA rfl rfl rfl) rfl ?_ | refine stepY (y_extract rfl rfl) rfl ?_ | refine stepY (y_build rfl rfl rfl) rfl ?_ | refine stepY (y_binn rfl rfl rfl (by simp only [InK, loK, hiK]; omega)) rfl ?_ | refine stepY (y_cmpT rfl rfl rfl (by omega)) rfl ?_ | refine stepY (y_cmpT rfl rfl rfl (by omega)) rfl ?_ | refine stepE (e_alloc rfl rfl rfl) ?_ | refine stepE (e_store rfl rfl rfl rfl rfl rfl rfl) ?_)
        refine call_ Try.func21 rfl rfl (z0) rfl (by repeat (first | exact .refl _ | exact .tag _ _ | exact .nil _ _ | apply Le.ag | apply Les.cons | exact .nil)) rfl ?_
        repeat (first | refine guard_t rfl rfl rfl ?_ | refine stepY (y_move rfl) rfl ?_ | refine stepY (y_loadA rfl rfl rfl) rfl ?_ | refine stepY (y_pick_t rfl rfl) rfl ?_ | refine stepY (y_build rfl rfl rfl) rfl ?_ | refine stepY (y_cmpT rfl rfl rfl (by omega)) rfl ?_)
        refine call_ Try.func21 rfl rfl (z0) rfl (by repeat (first | exact .refl _ | exact .tag _ _ | exact .nil _ _ | apply Le.ag | apply Les.cons | exact .nil)) rfl ?_
        repeat (first | refine guard_t rfl rfl rfl ?_ | refine stepY (y_move rfl) rfl ?_ | refine stepY (y_pick_t rfl rfl) rfl ?_)
        refine call_ Try.func10 rfl rfl (exampleHolds_c) rfl (by repeat (exact .nil)) rfl ?_
        repeat (first | refine nil_ ?_ | refine ret_ ?_ | refine stepY (y_assign rfl) rfl ?_ | refine stepY (y_pick_t rfl rfl) rfl ?_)
        ((apply fin_r); (repeat (first | exact .nil | exact .tmp rfl | apply ResL.cons)); (repeat (exact .refl _)))
  | true =>
    have p2 := power_t k (by omega)
    have o2 := (okQ_pw k true).2 (by omega)
    have m1 := FMul_q _ _ o1 o2
    have c1 := FCmp_q _ _ o1 o2
    have hc : (0 < i + k ∧ qcmp (pw i false) (pw k true) = 1) ∨ (i + k = 0 ∧ qcmp (pw i false) (pw k true) = 0) := by
      rcases Nat.eq_zero_or_pos (i + k) with h | h
      · obtain rfl : i = 0 := by omega
        obtain rfl : k = 0 := by omega
        exact .inr ⟨rfl, by decide +kernel⟩
      · exact .inl ⟨h, pw_cmp2 i k h⟩
    generalize qcmp (pw i false) (pw k true) = c at *
    rw [pw_quo] at m1
    by_cases hl : k ≤ i
    · rw [if_pos hl, resQ_ok ((okQ_pw _ _).2 (by omega))] at m1
      have p5 := power_f (i - k) (by omega)
      have e5 := sameQ (pw (i - k) false)
      rw [Int.natCast_sub hl] at p5
      rcases hc with ⟨h, rfl⟩ | ⟨h, rfl⟩
      · refine con_of Try.func4 rfl rfl rfl rfl rfl ?_
        repeat (first | refine seq_ ?_ | refine region_ ?_ | refine nil_ ?_ | refine stepY (y_move rfl) rfl ?_ | refine stepY (y_assign rfl) rfl ?_ | refine stepY (y_convn rfl (by simp only [InK, loK, hiK]; omega)) rfl ?_ | refine stepY (y_remp rfl rfl (by omega) (by omega)) rfl ?_)
        rw [hi, hk]
        refine call_ Try.func18 rfl rfl (p1) rfl (by repeat (first | exact .refl _ | apply Les.cons | exact .nil)) rfl ?_
        repeat (refine stepY (y_move rfl) rfl ?_)
        refine call_ Try.func18 rfl rfl (p2) rfl (by repeat (first | exact .refl _ | apply Les.cons | exact .nil)) rfl ?_
        repeat (first | refine seq_ ?_ | refine region_ ?_ | refine nil_ ?_ | refine stepY (y_loadA rfl rfl rfl) rfl ?_ | refine stepE (e_alloc rfl rfl rfl) ?_ | refine stepE (e_store rfl rfl rfl rfl rfl rfl rfl) ?_)
        refine call_ Try.func19 rfl rfl (m1) rfl (by repeat (first | exact .refl _ | exact .tag _ _ | apply Le.ag | apply Les.cons | exact .nil)) rfl ?_
        repeat (first | refine seq_ ?_ | refine region_ ?_ | refine nil_ ?_ | refine stepY (y_move rfl) rfl ?_ | refine stepY (y_assign rfl) rfl ?_ | refine stepY (y_loadA rfl rfl rfl) rfl ?_ | refine stepY (y_extract rfl rfl) rfl ?_ | refine stepE (e_alloc rfl rfl rfl) ?_ | refine stepE (e_store rfl rfl rfl rfl rfl rfl rfl) ?_)
        refine call_ Try.func20 rfl rfl (c1) rfl (by repeat (first | exact .refl _ | exact .tag _ _ | apply Le.ag | apply Les.cons | exact .nil)) rfl ?_
        repeat (first | refine seq_ ?_ | refine region_ ?_ | refine nil_ ?_ | refine skip_ ?_ | refine cond_t rfl ?_ | refine cond_f rfl ?_ | refine guard_t rfl rfl rfl ?_ | refine guard_f rfl rfl rfl rfl ?_ | refine stepY (y_move rfl) rfl ?_ | refine stepY (y_assign rfl) rfl ?_ | refine stepY (y_extract rfl rfl) rfl ?_ | refine stepY (y_not rfl) rfl ?_ | (first | refine stepY (y_pick_t rfl rfl) rfl ?_ | refine stepY (y_pick_f rfl rfl) rfl ?_) | refine stepY (y_cmpF rfl rfl rfl (by omega)) rfl ?_ | refine stepY (y_cmpT rfl rfl rfl (by omega)) rfl ?_)
        refine draw_ [(0, true), (1, true), (2, true), (3, true), (4, true), (5, true), (6, true), (7, false), (8, false), (9, true), (10, true), (11, false), (12, true), (13, true)] 1000 [11] mixed (by kernel_rfl) rfl ?_
        ((refine dY rfl (y_move rfl) rfl rfl rfl rfl ?_); refine dY rfl (y_cmpT rfl rfl rfl (by omega)) rfl rfl rfl rfl ?_; refine dY rfl (y_move rfl) rfl rfl rfl rfl ?_; refine dY rfl (y_loadA rfl rfl rfl) rfl rfl rfl rfl ?_; refine dY rfl (y_move rfl) rfl rfl rfl rfl ?_; refine dY rfl (y_move rfl) rfl rfl rfl rfl ?_; refine dY rfl (y_binn rfl rfl rfl (by simp only [InK, loK, hiK]; omega)) rfl rfl rfl rfl ?_)
        refine dC rfl Try.func18 rfl rfl (p5) rfl (by repeat (first | exact .refl _ | apply Les.cons | exact .nil)) rfl rfl ?_
        skip
        refine dC rfl Try.func21 rfl rfl (e5) rfl (by repeat (first | exact .refl _ | exact .tag _ _ | apply Le.ag | apply Les.cons | exact .nil)) rfl rfl ?_
        ((refine dY rfl (y_pick_t rfl rfl) rfl rfl rfl rfl ?_); refine dY rfl (y_move rfl) rfl rfl rfl rfl ?_)
        refine dC rfl Try.func10 rfl rfl (exampleHolds_c) rfl (by repeat (exact .nil)) rfl rfl ?_
        ((refine dY rfl (y_pick_t rfl rfl) rfl rfl rfl rfl ?_); refine dY rfl (y_assign rfl) rfl rfl rfl rfl ?_; refine dEnd ?_)
        repeat (refine ret_ ?_)
        ((apply fin_r); (repeat (first | exact .nil | exact .tmp rfl | apply ResL.cons)); (repeat (exact .refl _)))
      · refine con_of Try.func4 rfl rfl rfl rfl rfl ?_
        repeat (first | refine seq_ ?_ | refine region_ ?_ | refine nil_ ?_ | refine stepY (y_move rfl) rfl ?_ | refine stepY (y_assign rfl) rfl ?_ | refine stepY (y_convn rfl (by simp only [InK, loK, hiK]; omega)) rfl ?_ | refine stepY (y_remp rfl rfl (by omega) (by omega)) rfl ?_)
        rw [hi, hk]
        refine call_ Try.func18 rfl rfl (p1) rfl (by repeat (first | exact .refl _ | apply Les.cons | exact .nil)) rfl ?_
        repeat (refine stepY (y_move rfl) rfl ?_)
        refine call_ Try.func18 rfl rfl (p2) rfl (by repeat (first | exact .refl _ | apply Les.cons | exact .nil)) rfl ?_
        repeat (first | refine seq_ ?_ | refine region_ ?_ | refine nil_ ?_ | refine stepY (y_loadA rfl rfl rfl) rfl ?_ | refine stepE (e_alloc rfl rfl rfl) ?_ | refine stepE (e_store rfl rfl rfl rfl rfl rfl rfl) ?_)
        refine call_ Try.func19 rfl rfl (m1) rfl (by repeat (first | exact .refl _ | exact .tag _ _ | apply Le.ag | apply Les.cons | exact .nil)) rfl ?_
        repeat (first | refine seq_ ?_ | refine region_ ?_ | refine nil_ ?_ | refine stepY (y_move rfl) rfl ?_ | refine stepY (y_assign rfl) rfl ?_ | refine stepY (y_loadA rfl rfl rfl) rfl ?_ | refine stepY (y_extract rfl rfl) rfl ?_ | refine stepE (e_alloc rfl rfl rfl) ?_ | refine stepE (e_store rfl rfl rfl rfl rfl rfl rfl) ?_)
        refine call_ Try.func20 rfl rfl (c1) rfl (by repeat (first | exact .refl _ | exact .tag _ _ | apply Le.ag | apply Les.cons | exact .nil)) rfl ?_
        repeat (first | refine seq_ ?_ | refine region_ ?_ | refine nil_ ?_ | refine skip_ ?_ | refine cond_t rfl ?_ | refine cond_f rfl ?_ | refine guard_t rfl rfl rfl ?_ | refine guard_f rfl rfl rfl rfl ?_ | refine stepY (y_move rfl) rfl ?_ | refine stepY (y_assign rfl) rfl ?_ | refine stepY (y_extract rfl rfl) rfl ?_ | refine stepY (y_not rfl) rfl ?_ | (first | refine stepY (y_pick_t rfl rfl) rfl ?_ | refine stepY (y_pick_f rfl rfl) rfl ?_) | refine stepY (y_binn rfl rfl rfl (by simp only [InK, loK, hiK]; omega)) rfl ?_ | (first | refine stepY (y_cmpT rfl rfl rfl (by omega)) rfl ?_ | refine stepY (y_cmpF rfl rfl rfl (by omega)) rfl ?_) | refine stepY (y_cmpF rfl rfl rfl (by omega)) rfl ?_ | refine stepY (y_cmpT rfl rfl rfl (by omega)) rfl ?_)
        refine draw_ [(0, true), (1, true), (2, true), (3, true), (4, true), (5, true), (6, true), (7, false), (8, false), (9, true), (10, true), (11, false), (12, true), (13, true)] 1000 [11] mixed (by kernel_rfl) rfl ?_
        ((refine dY rfl (y_move rfl) rfl rfl rfl rfl ?_); refine dY rfl (y_cmpT rfl rfl rfl (by omega)) rfl rfl rfl rfl ?_; refine dY rfl (y_move rfl) rfl rfl rfl rfl ?_; refine dY rfl (y_loadA rfl rfl rfl) rfl rfl rfl rfl ?_; refine dY rfl (y_move rfl) rfl rfl rfl rfl ?_; refine dY rfl (y_move rfl) rfl rfl rfl rfl ?_; refine dY rfl (y_binn rfl rfl rfl (by simp only [InK, loK, hiK]; omega)) rfl rfl rfl rfl ?_)
        refine dC rfl Try.func18 rfl rfl (p5) rfl (by repeat (first | exact .refl _ | apply Les.cons | exact .nil)) rfl rfl ?_
        skip
        refine dC rfl Try.func21 rfl rfl (e5) rfl (by repeat (first | exact .refl _ | exact .tag _ _ | apply Le.ag | apply Les.cons | exact .nil)) rfl rfl ?_
        ((refine dY rfl (y_pick_t rfl rfl) rfl rfl rfl rfl ?_); refine dY rfl (y_move rfl) rfl rfl rfl rfl ?_)
        refine dC rfl Try.func10 rfl rfl (exampleHolds_c) rfl (by repeat (exact .nil)) rfl rfl ?_
        ((refine dY rfl (y_pick_t rfl rfl) rfl rfl rfl rfl ?_); refine dY rfl (y_assign rfl) rfl rfl rfl rfl ?_; refine dEnd ?_)
        repeat (refine ret_ ?_)
        ((apply fin_r); (repeat (first | exact .nil | exact .tmp rfl | apply ResL.cons)); (repeat (exact .refl _)))
    · rw [if_neg hl, resQ_ok ((okQ_pw _ _).2 (by omega))] at m1
      have p5 := power_t (k - i) (by omega)
      have e5 := sameQ (pw (k - i) true)
      rw [Int.natCast_sub (by omega)] at p5
      have h : 0 < i + k := by omega
      obtain rfl : c = 1 := by rcases hc with ⟨_, h2⟩ | ⟨h2, _⟩; exact h2; omega
      refine con_of Try.func4 rfl rfl rfl rfl rfl ?_
      repeat (first | refine seq_ ?_ | refine region_ ?_ | refine nil_ ?_ | refine stepY (y_move rfl) rfl ?_ | refine stepY (y_assign rfl) rfl ?_ | refine stepY (y_convn rfl (by simp only [InK, loK, hiK]; omega)) rfl ?_ | refine stepY (y_remp rfl rfl (by omega) (by omega)) rfl ?_)
      rw [hi, hk]
      refine call_ Try.func18 rfl rfl (p1) rfl (by repeat (first | exact .refl _ | apply Les.cons | exact .nil)) rfl ?_
      repeat (refine stepY (y_move rfl) rfl ?_)
      refine call_ Try.func18 rfl rfl (p2) rfl (by repeat (first | exact .refl _ | apply Les.cons | exact .nil)) rfl ?_
      repeat (first | refine seq_ ?_ | refine region_ ?_ | refine nil_ ?_ | refine stepY (y_loadA rfl rfl rfl) rfl ?_ | refine stepE (e_alloc rfl rfl rfl) ?_ | refine stepE (e_store rfl rfl rfl rfl rfl rfl rfl) ?_)
      refine call_ Try.func19 rfl rfl (m1) rfl (by repeat (first | exact .refl _ | exact .tag _ _ | apply Le.ag | apply Les.cons | exact .nil)) rfl ?_
      repeat (first | refine seq_ ?_ | refine region_ ?_ | refine nil_ ?_ | refine stepY (y_move rfl) rfl ?_ | refine stepY (y_assign rfl) rfl ?_ | refine stepY (y_loadA rfl rfl rfl) rfl ?_ | refine stepY (y_extract rfl rfl) rfl ?_ | refine stepE (e_alloc rfl rfl rfl) ?_ | refine stepE (e_store rfl rfl rfl rfl rfl rfl rfl) ?_)
      refine call_ Try.func20 rfl rfl (c1) rfl (by repeat (first | exact .refl _ | exact .tag _ _ | apply Le.ag | apply Les.cons | exact .nil)) rfl ?_
      repeat (first | refine seq_ ?_ | refine region_ ?_ | refine nil_ ?_ | refine skip_ ?_ | refine cond_f rfl ?_ | refine guard_t rfl rfl rfl ?_ | refine guard_f rfl rfl rfl rfl ?_ | refine stepY (y_move rfl) rfl ?_ | refine stepY (y_assign rfl) rfl ?_ | refine stepY (y_extract rfl rfl) rfl ?_ | refine stepY (y_not rfl) rfl ?_ | (first | refine stepY (y_pick_t rfl rfl) rfl ?_ | refine stepY (y_pick_f rfl rfl) rfl ?_) | refine stepY (y_cmpF rfl rfl rfl (by omega)) rfl ?_ | refine stepY (y_cmpF rfl rfl rfl (by omega)) rfl ?_)
      refine draw_ [(0, true), (1, true), (2, true), (3, true), (4, true), (5, true), (6, true), (7, false), (8, false), (9, true), (10, true), (11, false), (12, true), (13, true)] 1000 [11] mixed (by kernel_rfl) rfl ?_
      ((refine dY rfl (y_move rfl) rfl rfl rfl rfl ?_); refine dY rfl (y_cmpT rfl rfl rfl (by omega)) rfl rfl rfl rfl ?_; refine dY rfl (y_move rfl) rfl rfl rfl rfl ?_; refine dY rfl (y_loadA rfl rfl rfl) rfl rfl rfl rfl ?_; refine dY rfl (y_move rfl) rfl rfl rfl rfl ?_; refine dY rfl (y_move rfl) rfl rfl rfl rfl ?_; refine dY rfl (y_binn rfl rfl rfl (by simp only [InK, loK, hiK]; omega)) rfl rfl rfl rfl ?_)
      refine dC rfl Try.func18 rfl rfl (p5) rfl (by repeat (first | exact .refl _ | apply Les.cons | exact .nil)) rfl rfl ?_
      skip
      refine dC rfl Try.func21 rfl rfl (e5) rfl (by repeat (first | exact .refl _ | exact .tag _ _ | apply Le.ag | apply Les.cons | exact .nil)) rfl rfl ?_
      ((refine dY rfl (y_pick_t rfl rfl) rfl rfl rfl rfl ?_); refine dY rfl (y_move rfl) rfl rfl rfl rfl ?_)
      refine dC rfl Try.func10 rfl rfl (exampleHolds_c) rfl (by repeat (exact .nil)) rfl rfl ?_
      ((refine dY rfl (y_pick_t rfl rfl) rfl rfl rfl rfl ?_); refine dY rfl (y_assign rfl) rfl rfl rfl rfl ?_; refine dEnd ?_)
      repeat (refine ret_ ?_)
      ((apply fin_r); (repeat (first | exact .nil | exact .tmp rfl | apply ResL.cons)); (repeat (exact .refl _)))
end Go.Av

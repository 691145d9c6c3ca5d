/- Contracts of functions that the laws on fractions reach, and the plain arithmetic behind them: no conditions beyond those in each statement. -/
import Derived.Test.YtnkkkeohhgbhnaaJ3
import Derived.Test.YtnkkkeohhgbhnaaJ1
import Derived.Test.YtnkkkeohhgbhnaaJ2
set_option maxHeartbeats 8000000
set_option exponentiation.threshold 100000
set_option maxRecDepth 100000
set_option linter.unusedVariables false
set_option linter.unusedSimpArgs false
namespace Go.Av
open Go Go.Proofs
/-! fractions: normal form -/
abbrev QV (x : Rat) : PV := .ag [Bo (decide (x.num < 0)), M x.num.natAbs, Bo false, M x.den]
abbrev FQ (x : Rat) : PV := .ag [Bo (decide (x.num < 0)), FM x.num.natAbs, Bo false, FM x.den]
abbrev ZF : PV := .ag [Bo false, FM 0, Bo false, FM 0]
def okQ (x : Rat) : Prop := ln x.num.natAbs ≤ 512 ∧ ln x.den ≤ 512
instance (x : Rat) : Decidable (okQ x) := by unfold okQ; infer_instance
def resQ (x : Rat) : PV := if okQ x then .tp [FQ x, E_ 0] else .tp [ZF, E_ 4]
theorem mkQ (z : Int) {d : Nat} (hd : 0 < d) : (mkRat z d).num = z / (Nat.gcd z.natAbs d : Nat) ∧ (mkRat z d).den = d / Nat.gcd z.natAbs d := by
  rw [← Rat.normalize_eq_mkRat (Nat.ne_of_gt hd), Rat.normalize_eq]
  exact ⟨rfl, rfl⟩
theorem gcd_pos' {n d : Nat} (hd : 0 < d) : 0 < Nat.gcd n d := Nat.gcd_pos_of_pos_right _ hd
theorem mkQ_num (p : Bool) (n : Nat) {d : Nat} (hd : 0 < d) : (mkRat (sgn p n) d).num = sgn p (n / Nat.gcd n d) := by
  rw [(mkQ _ hd).1, sgn_abs]
  unfold sgn
  cases p
  · simp
  · simp only [if_true]
    rw [Int.neg_ediv_of_dvd (Int.natCast_dvd_natCast.2 (Nat.gcd_dvd_left n d))]
    simp
theorem mkQ_den (p : Bool) (n : Nat) {d : Nat} (hd : 0 < d) : (mkRat (sgn p n) d).den = d / Nat.gcd n d := by
  rw [(mkQ _ hd).2, sgn_abs]
theorem resQ_ok {x : Rat} (h : okQ x) : resQ x = .tp [FQ x, E_ 0] := by unfold resQ; rw [if_pos h]
theorem resQ_no {x : Rat} (h : ¬ okQ x) : resQ x = .tp [ZF, E_ 4] := by unfold resQ; rw [if_neg h]
theorem resQ_eq (s : Bool) (n : Nat) {d : Nat} (hd : 0 < d) : resQ (mkRat (sgn s n) d) = if ln (n / Nat.gcd n d) ≤ 512 ∧ ln (d / Nat.gcd n d) ≤ 512 then .tp [.ag [Bo (s && decide (0 < n / Nat.gcd n d)), FM (n / Nat.gcd n d), Bo false, FM (d / Nat.gcd n d)], E_ 0] else .tp [ZF, E_ 4] := by
  have hnm := mkQ_num s n hd
  have hdn := mkQ_den s n hd
  have hna : (mkRat (sgn s n) d).num.natAbs = n / Nat.gcd n d := by rw [hnm, sgn_abs]
  have hsg : decide ((mkRat (sgn s n) d).num < 0) = (s && decide (0 < n / Nat.gcd n d)) := by rw [hnm, sgn_neg]
  by_cases h : okQ (mkRat (sgn s n) d)
  · rw [resQ_ok h]
    unfold okQ at h
    rw [hna, hdn] at h
    rw [if_pos h]
    simp only [FQ]
    rw [hsg, hna, hdn]
  · rw [resQ_no h]
    unfold okQ at h
    rw [hna, hdn] at h
    rw [if_neg h]
theorem reduced_c (p q : Bool) (n d : Nat) (hd : 0 < d) (hn : ln n ≤ 20000) (hld : ln d ≤ 20000) : Con Try.prog 64 [SV p n, SV q d] (resQ (mkRat (sgn (p != q) n) d)) := by
  rw [resQ_eq _ _ hd]
  have hg := gcd_pos' (n := n) hd
  have hc := fcommon_c n d hn hld
  have hD1 := Division_c n (Nat.gcd n d) hg (by omega)
  have hD2 := Division_c d (Nat.gcd n d) hg (by omega)
  generalize n / Nat.gcd n d = a at *
  generalize d / Nat.gcd n d = b at *
  have hb : decide (p ≠ q) = (p != q) := by cases p <;> cases q <;> rfl
  refine con_of Try.func64 rfl rfl rfl rfl rfl ?_
  have hla : ((limbs a).length : Int) = ln a := by rw [limbs_length]
  have hlb : ((limbs b).length : Int) = ln b := by rw [limbs_length]
  repeat (first | refine seq_ ?_ | refine region_ ?_ | refine nil_ ?_ | refine stepY (y_assign rfl) rfl ?_ | refine stepY (y_load1 rfl rfl rfl) rfl ?_ | refine stepY (y_fieldAddr rfl) rfl ?_ | refine stepE (e_box rfl rfl rfl rfl rfl rfl) ?_ | refine stepE (e_alloc rfl rfl rfl) ?_)
  refine call_ Try.func80 rfl rfl hc rfl (by repeat (first | exact .refl _ | apply Les.cons | exact .nil)) rfl ?_
  repeat (first | refine seq_ ?_ | refine region_ ?_ | refine nil_ ?_ | refine stepY (y_move rfl) rfl ?_ | refine stepY (y_assign rfl) rfl ?_ | refine stepY (y_load1 rfl rfl rfl) rfl ?_ | refine stepY (y_fieldAddr rfl) rfl ?_)
  refine call_ Try.func81 rfl rfl hD1 rfl (by repeat (first | exact .refl _ | apply Les.cons | exact .nil)) rfl ?_
  repeat (first | refine seq_ ?_ | refine region_ ?_ | refine nil_ ?_ | refine stepY (y_move rfl) rfl ?_ | refine stepY (y_assign rfl) rfl ?_ | refine stepY (y_load1 rfl rfl rfl) rfl ?_ | refine stepY (y_fieldAddr rfl) rfl ?_ | refine stepY (y_extract rfl rfl) rfl ?_)
  refine call_ Try.func81 rfl rfl hD2 rfl (by repeat (first | exact .refl _ | apply Les.cons | exact .nil)) rfl ?_
  by_cases h1 : ln a ≤ 512
  · by_cases h2 : ln b ≤ 512
    · rw [if_pos ⟨h1, h2⟩]
      have hC1 := Clone_c (limbs a) (by rw [limbs_length]; omega)
      have hC2 := Clone_c (limbs b) (by rw [limbs_length]; omega)
      repeat (first | refine seq_ ?_ | refine region_ ?_ | refine nil_ ?_ | refine skip_ ?_ | refine cond_f rfl ?_ | refine guard_t rfl rfl rfl ?_ | refine stepY (y_move rfl) rfl ?_ | refine stepY (y_assign rfl) rfl ?_ | refine stepY (y_load1 rfl rfl rfl) rfl ?_ | refine stepY (y_fieldAddr rfl) rfl ?_ | refine stepY (y_extract rfl rfl) rfl ?_ | refine stepY (y_len_si rfl) rfl ?_ | refine stepY (y_pick_f rfl rfl) rfl ?_ | refine stepY (y_neb rfl rfl) rfl ?_ | refine stepY (y_cmpF rfl rfl rfl (by omega)) rfl ?_)
      rw [hb]
      by_cases h3 : (p != q) = true
      · rw [h3] at *
        by_cases h4 : 0 < a
        · have := ln_pos.2 h4
          rw [decide_eq_true h4]
          repeat (first | refine seq_ ?_ | refine region_ ?_ | refine nil_ ?_ | refine guard_t rfl rfl rfl ?_ | refine stepY (y_move rfl) rfl ?_ | refine stepY (y_assign rfl) rfl ?_ | refine stepY (y_len_si rfl) rfl ?_ | refine stepY (y_pick_t rfl rfl) rfl ?_ | refine stepY (y_cmpT rfl rfl rfl (by omega)) rfl ?_)
          refine call_ Try.func82 rfl rfl hC1 rfl (by repeat (first | exact .refl _ | apply Les.cons | exact .nil)) rfl ?_
          repeat (first | refine stepY (y_move rfl) rfl ?_ | refine stepY (y_build rfl rfl rfl) rfl ?_)
          refine call_ Try.func82 rfl rfl hC2 rfl (by repeat (first | exact .refl _ | apply Les.cons | exact .nil)) rfl ?_
          repeat (first | refine nil_ ?_ | refine ret_ ?_ | refine stepY (y_assign rfl) rfl ?_ | refine stepY (y_build rfl rfl rfl) rfl ?_ | refine stepE (e_store rfl rfl rfl rfl rfl rfl rfl) ?_)
          ((apply fin_r); (repeat (first | exact .nil | exact .tmp rfl | exact .agg rfl rfl rfl | apply ResL.cons)); (repeat (exact .refl _)))
        · have : ¬ 0 < ln a := fun h => h4 (ln_pos.1 h)
          rw [decide_eq_false h4]
          repeat (first | refine seq_ ?_ | refine region_ ?_ | refine nil_ ?_ | refine guard_t rfl rfl rfl ?_ | refine stepY (y_move rfl) rfl ?_ | refine stepY (y_assign rfl) rfl ?_ | refine stepY (y_len_si rfl) rfl ?_ | refine stepY (y_pick_t rfl rfl) rfl ?_ | refine stepY (y_cmpF rfl rfl rfl (by omega)) rfl ?_)
          refine call_ Try.func82 rfl rfl hC1 rfl (by repeat (first | exact .refl _ | apply Les.cons | exact .nil)) rfl ?_
          repeat (first | refine stepY (y_move rfl) rfl ?_ | refine stepY (y_build rfl rfl rfl) rfl ?_)
          refine call_ Try.func82 rfl rfl hC2 rfl (by repeat (first | exact .refl _ | apply Les.cons | exact .nil)) rfl ?_
          repeat (first | refine nil_ ?_ | refine ret_ ?_ | refine stepY (y_assign rfl) rfl ?_ | refine stepY (y_build rfl rfl rfl) rfl ?_ | refine stepE (e_store rfl rfl rfl rfl rfl rfl rfl) ?_)
          ((apply fin_r); (repeat (first | exact .nil | exact .tmp rfl | exact .agg rfl rfl rfl | apply ResL.cons)); (repeat (exact .refl _)))
      · rw [show (p != q) = false from Bool.eq_false_iff.2 h3] at *
        repeat (first | refine seq_ ?_ | refine region_ ?_ | refine nil_ ?_ | refine guard_f rfl rfl rfl rfl ?_ | refine stepY (y_move rfl) rfl ?_ | refine stepY (y_assign rfl) rfl ?_ | refine stepY (y_pick_f rfl rfl) rfl ?_)
        refine call_ Try.func82 rfl rfl hC1 rfl (by repeat (first | exact .refl _ | apply Les.cons | exact .nil)) rfl ?_
        repeat (first | refine stepY (y_move rfl) rfl ?_ | refine stepY (y_build rfl rfl rfl) rfl ?_)
        refine call_ Try.func82 rfl rfl hC2 rfl (by repeat (first | exact .refl _ | apply Les.cons | exact .nil)) rfl ?_
        repeat (first | refine nil_ ?_ | refine ret_ ?_ | refine stepY (y_assign rfl) rfl ?_ | refine stepY (y_build rfl rfl rfl) rfl ?_ | refine stepE (e_store rfl rfl rfl rfl rfl rfl rfl) ?_)
        ((apply fin_r); (repeat (first | exact .nil | exact .tmp rfl | exact .agg rfl rfl rfl | apply ResL.cons)); (repeat (exact .refl _)))
    · rw [if_neg (fun h => h2 h.2)]
      repeat (first | refine seq_ ?_ | refine region_ ?_ | refine nil_ ?_ | refine ret_ ?_ | refine cond_t rfl ?_ | refine guard_t rfl rfl rfl ?_ | refine stepY (y_move rfl) rfl ?_ | refine stepY (y_assign rfl) rfl ?_ | refine stepY (y_extract rfl rfl) rfl ?_ | refine stepY (y_len_si rfl) rfl ?_ | refine stepY (y_pick_f rfl rfl) rfl ?_ | refine stepY (y_build rfl rfl rfl) rfl ?_ | (first | refine stepY (y_cmpT rfl rfl rfl (by omega)) rfl ?_ | refine stepY (y_cmpF rfl rfl rfl (by omega)) rfl ?_) | refine stepE (e_store rfl rfl rfl rfl rfl rfl rfl) ?_)
      ((apply fin_r); (repeat (first | exact .nil | exact .tmp rfl | exact .agg rfl rfl rfl | apply ResL.cons)); (repeat (first | exact .refl _ | exact .nil _ _ | apply Le.ag | apply Le.tp | apply Les.cons | exact .nil)))
  · rw [if_neg (fun h => h1 h.1)]
    repeat (first | refine seq_ ?_ | refine region_ ?_ | refine nil_ ?_ | refine ret_ ?_ | refine cond_t rfl ?_ | refine guard_f rfl rfl rfl rfl ?_ | refine stepY (y_move rfl) rfl ?_ | refine stepY (y_assign rfl) rfl ?_ | refine stepY (y_extract rfl rfl) rfl ?_ | refine stepY (y_len_si rfl) rfl ?_ | refine stepY (y_pick_t rfl rfl) rfl ?_ | refine stepY (y_build rfl rfl rfl) rfl ?_ | refine stepY (y_cmpT rfl rfl rfl (by omega)) rfl ?_ | refine stepE (e_store rfl rfl rfl rfl rfl rfl rfl) ?_)
    ((apply fin_r); (repeat (first | exact .nil | exact .tmp rfl | exact .agg rfl rfl rfl | apply ResL.cons)); (repeat (first | exact .refl _ | exact .nil _ _ | apply Le.ag | apply Le.tp | apply Les.cons | exact .nil)))
/-- any four fields -/
abbrev AF (p : Bool) (l : List Int) (q : Bool) (k : List Int) : PV := .ag [Bo p, Li l, Bo q, Li k]
def vldF (p : Bool) (l : List Int) (q : Bool) (k : List Int) : Bool := vldB p l && vldB q k && !q && decide (0 < k.length) && (Nat.gcd (val l) (val k) == 1)
theorem vld_limbs {p : Bool} {l : List Int} (hw : wf l) (h : vldB p l = true) : l = limbs (val l) := by
  have h1 := (iv_vld hw h).1
  unfold AV IV at h1
  rw [sgn_abs] at h1
  injection h1 with h1
  injection h1 with _ h1
  injection h1 with h1 _
  injection h1
theorem vldF_q {p : Bool} {l : List Int} {q : Bool} {k : List Int} (hl : wf l) (hk : wf k) (h : vldF p l q k = true) : ∃ x : Rat, okQ x ∧ p = decide (x.num < 0) ∧ l = limbs x.num.natAbs ∧ q = false ∧ k = limbs x.den := by
  unfold vldF at h
  simp only [Bool.and_eq_true, decide_eq_true_eq, Bool.not_eq_true', beq_iff_eq] at h
  obtain ⟨⟨⟨⟨h1, h2⟩, h3⟩, h4⟩, h5⟩ := h
  have e1 := (iv_vld hl h1)
  have e2 := vld_limbs hl h1
  have e3 := vld_limbs hk h2
  have hkp : val k ≠ 0 := by intro h0; rw [h0] at e3; rw [e3] at h4; exact absurd h4 (by decide)
  have hz : (sgn p (val l)).natAbs = val l := sgn_abs _ _
  refine ⟨⟨sgn p (val l), val k, hkp, by unfold Nat.Coprime; rw [hz]; exact h5⟩, ⟨e1.2, ?_⟩, ?_, ?_, h3, e3⟩
  · rw [e3] at h2; exact vld_ln h2
  · have := e1.1
    injection this with h6
    injection h6 with h6 _
    injection h6 with h6
    injection h6
  · show l = limbs (sgn p (val l)).natAbs
    rw [hz]; exact e2
theorem vldF_t {x : Rat} (h : okQ x) : vldF (decide (x.num < 0)) (limbs x.num.natAbs) false (limbs x.den) = true := by
  unfold vldF
  have h1 := vld_iv h.1
  have h2 := vld_iv (z := (x.den : Int)) (by simpa using h.2)
  rw [show decide ((x.den : Int) < 0) = false by rw [decide_eq_false]; omega, Int.natAbs_natCast] at h2
  have h3 := ln_pos.2 (Nat.pos_of_ne_zero x.den_nz)
  rw [h1, h2, val_limbs, val_limbs, limbs_length, decide_eq_true h3]
  have := x.reduced
  unfold Nat.Coprime at this
  simp [this]
end Go.Av

/-! The digits of a number in a base. -/
namespace Go.Av
def dgs (b : Nat) : Nat → Nat → List Nat
  | 0, _ => []
  | f + 1, n => if n = 0 then [] else n % b :: dgs b f (n / b)
def ds (b n : Nat) : List Nat := dgs b (n.log2 + 1) n
theorem dgs_fuel {b : Nat} (hb : 2 ≤ b) : ∀ (f g n : Nat), n < 2 ^ f → n < 2 ^ g → dgs b f n = dgs b g n
  | 0, g, n, hf, _ => by
    obtain rfl : n = 0 := by simpa using hf
    cases g <;> simp [dgs]
  | f + 1, 0, n, _, hg => by
    obtain rfl : n = 0 := by simpa using hg
    simp [dgs]
  | f + 1, g + 1, n, hf, hg => by
    simp only [dgs]
    by_cases h : n = 0
    · simp [h]
    · rw [if_neg h, if_neg h]
      have h1 : n / b ≤ n / 2 := Nat.div_le_div_left hb (by decide)
      rw [Nat.pow_succ] at hf hg
      rw [dgs_fuel hb f g (n / b) (by omega) (by omega)]
theorem ds_zero (b : Nat) : ds b 0 = [] := by simp [ds, dgs]
theorem ds_pos {b n : Nat} (hb : 2 ≤ b) (h : 0 < n) : ds b n = n % b :: ds b (n / b) := by
  have h1 : n / b ≤ n / 2 := Nat.div_le_div_left hb (by decide)
  have h2 := Nat.lt_log2_self (n := n)
  have h3 := Nat.lt_log2_self (n := n / b)
  unfold ds
  rw [dgs, if_neg (by omega)]
  rw [Nat.pow_succ] at h2
  rw [dgs_fuel hb _ ((n / b).log2 + 1) (n / b) (by omega) h3]
theorem ds_len {b : Nat} (hb : 2 ≤ b) : ∀ (k n : Nat), n < 2 ^ k → (ds b n).length ≤ k
  | 0, n, h => by
    obtain rfl : n = 0 := by simpa using h
    simp [ds_zero]
  | k + 1, n, h => by
    rcases Nat.eq_zero_or_pos n with rfl | hp
    · simp [ds_zero]
    · rw [ds_pos hb hp]
      have h1 : n / b ≤ n / 2 := Nat.div_le_div_left hb (by decide)
      rw [Nat.pow_succ] at h
      have := ds_len hb k (n / b) (by omega)
      simp only [List.length_cons]
      omega
theorem ds_lt {b : Nat} (hb : 2 ≤ b) : ∀ (k n : Nat), n < 2 ^ k → ∀ d ∈ ds b n, d < b
  | 0, n, h, d, hd => by
    obtain rfl : n = 0 := by simpa using h
    simp [ds_zero] at hd
  | k + 1, n, h, d, hd => by
    rcases Nat.eq_zero_or_pos n with rfl | hp
    · simp [ds_zero] at hd
    · rw [ds_pos hb hp] at hd
      have h1 : n / b ≤ n / 2 := Nat.div_le_div_left hb (by decide)
      rw [Nat.pow_succ] at h
      rcases List.mem_cons.1 hd with rfl | hd
      · exact Nat.mod_lt _ (by omega)
      · exact ds_lt hb k (n / b) (by omega) d hd
theorem ds_lt' {b n : Nat} (hb : 2 ≤ b) : ∀ d ∈ ds b n, d < b := ds_lt hb (n.log2 + 1) n Nat.lt_log2_self
theorem ds_ne {b n : Nat} (hb : 2 ≤ b) (h : 0 < n) : 0 < (ds b n).length := by rw [ds_pos hb h]; simp
def dI (b n : Nat) : List Int := (ds b n).map fun (d : Nat) => (d : Int)
theorem dI_zero (b : Nat) : dI b 0 = [] := by simp [dI, ds_zero]
theorem dI_pos {b n : Nat} (hb : 2 ≤ b) (h : 0 < n) : dI b n = ((n % b : Nat) : Int) :: dI b (n / b) := by simp [dI, ds_pos hb h]
theorem dI_len {b n k : Nat} (hb : 2 ≤ b) (h : ln n ≤ k) : (dI b n).length ≤ 32 * k := by
  have := ln_le.1 h
  rw [B_pow] at this
  simpa [dI] using ds_len hb (32 * k) n this
theorem dI_bd {b n : Nat} (hb : 2 ≤ b) {d : Int} (h : d ∈ dI b n) : 0 ≤ d ∧ d < b := by
  simp only [dI, List.mem_map] at h
  obtain ⟨a, ha, rfl⟩ := h
  have := ds_lt' hb a ha
  omega
/-- The number with digits, the most significant first. -/
def hor (b : Nat) (l : List Nat) : Nat := l.foldl (fun m d => m * b + d) 0
theorem hor_snoc (b : Nat) (l : List Nat) (d : Nat) : hor b (l ++ [d]) = hor b l * b + d := by simp [hor]
theorem hor_ds {b : Nat} (hb : 2 ≤ b) : ∀ (k n : Nat), n < 2 ^ k → hor b (ds b n).reverse = n
  | 0, n, h => by
    obtain rfl : n = 0 := by simpa using h
    simp [ds_zero, hor]
  | k + 1, n, h => by
    rcases Nat.eq_zero_or_pos n with rfl | hp
    · simp [ds_zero, hor]
    · have h1 : n / b ≤ n / 2 := Nat.div_le_div_left hb (by decide)
      rw [Nat.pow_succ] at h
      rw [ds_pos hb hp, List.reverse_cons, hor_snoc, hor_ds hb k (n / b) (by omega)]
      rw [Nat.mul_comm]; exact Nat.div_add_mod n b
theorem hor_ds' {b n : Nat} (hb : 2 ≤ b) : hor b (ds b n).reverse = n := hor_ds hb (n.log2 + 1) n Nat.lt_log2_self
theorem ds_top {b : Nat} (hb : 2 ≤ b) : ∀ (k n : Nat), n < 2 ^ k → 0 < n → (ds b n).getLast? ≠ some 0
  | 0, n, h, hp => by
    obtain rfl : n = 0 := by simpa using h
    omega
  | k + 1, n, h, hp => by
    have h1 : n / b ≤ n / 2 := Nat.div_le_div_left hb (by decide)
    rw [Nat.pow_succ] at h
    rw [ds_pos hb hp]
    rcases Nat.eq_zero_or_pos (n / b) with h0 | h0
    · rw [h0, ds_zero]
      have : n < b := (Nat.div_eq_zero_iff_lt (by omega)).1 h0
      simp [Nat.mod_eq_of_lt this]
      omega
    · have := ds_top hb k (n / b) (by omega) h0
      have hl := ds_ne hb h0
      rw [List.getLast?_cons]
      cases hx : (ds b (n / b)).getLast? with
      | none => rw [List.getLast?_eq_none_iff] at hx; rw [hx] at hl; simp at hl
      | some v => rw [hx] at this; simpa using this
theorem ds_top' {b n : Nat} (hb : 2 ≤ b) (h : 0 < n) : (ds b n).getLast? ≠ some 0 := ds_top hb (n.log2 + 1) n Nat.lt_log2_self h

/-! A number times a small one plus another: limb by limb -/
def lc (n b c i : Nat) : Nat := (n % B ^ i * b + c) / B ^ i
theorem lc_zero (n b c : Nat) : lc n b c 0 = c := by simp [lc, Nat.mod_one]
theorem lc_lt {n b c i : Nat} (hb : b < B) (hc : c < B) : lc n b c i < B := by
  unfold lc
  rw [Nat.div_lt_iff_lt_mul (Bp_pos i)]
  have h1 := Nat.mod_lt n (Bp_pos i)
  have h2 : n % B ^ i * b ≤ (B ^ i - 1) * b := Nat.mul_le_mul_right b (by omega)
  have h3 : (B ^ i - 1) * b + b = B ^ i * b := by rw [← Nat.succ_mul]; congr 1; have := Bp_pos i; omega
  have h4 : B ^ i * b ≤ B ^ i * (B - 1) := Nat.mul_le_mul_left _ (by omega)
  have h5 : B ^ i * (B - 1) + B ^ i = B ^ i * B := by rw [← Nat.mul_succ]; congr 1
  have h6 : B ≤ B ^ i ∨ i = 0 := by
    rcases Nat.eq_zero_or_pos i with h | h
    · exact .inr h
    · exact .inl (by simpa using Nat.pow_le_pow_right B_pos h)
  rw [Nat.mul_comm B]
  rcases h6 with h6 | rfl
  · have hbb : b = 0 ∨ 0 < b := by omega
    by_cases hb0 : b = 0
    · subst hb0; simp only [Nat.mul_zero, Nat.zero_add]; exact Nat.lt_of_lt_of_le hc (Nat.le_trans h6 (Nat.le_mul_of_pos_right _ B_pos))
    · by_cases hcb : c < b
      · omega
      · omega
  · simp [Nat.mod_one]; exact hc
theorem lc_step (n b c i : Nat) : dg n i * b + lc n b c i = dg (n * b + c) i + B * lc n b c (i + 1) := by
  have hn := Nat.div_add_mod n (B ^ i)
  have h1 : n * b + c = B ^ i * (n / B ^ i * b) + (n % B ^ i * b + c) := by
    rw [← Nat.mul_assoc, ← Nat.add_assoc, ← Nat.add_mul, hn]
  have h2 : (n * b + c) / B ^ i = n / B ^ i * b + lc n b c i := by
    rw [h1, Nat.mul_add_div (Bp_pos i)]; rfl
  have h3 : n % B ^ (i + 1) * b + c = B ^ i * (dg n i * b) + (n % B ^ i * b + c) := by
    rw [mod_succ, Nat.add_mul, Nat.mul_assoc]; omega
  have h4 : lc n b c (i + 1) = (dg n i * b + lc n b c i) / B := by
    unfold lc
    rw [h3, Nat.pow_succ, ← Nat.div_div_eq_div_mul, Nat.mul_add_div (Bp_pos i)]
  have h5 : dg (n * b + c) i = (dg n i * b + lc n b c i) % B := by
    unfold dg
    rw [h2]
    have h6 : n / B ^ i = B * (n / B ^ i / B) + n / B ^ i % B := (Nat.div_add_mod _ _).symm
    have h7 : n / B ^ i * b + lc n b c i = (n / B ^ i % B * b + lc n b c i) + B * (n / B ^ i / B * b) := by
      conv => lhs; rw [h6]
      rw [Nat.add_mul, Nat.mul_assoc]; omega
    rw [h7, Nat.add_mul_mod_self_left]
  rw [h4, h5]
  exact (Nat.mod_add_div _ _).symm
theorem lc_top {n b c i : Nat} (h : n < B ^ i) (hb : b < B) (hc : c < B) : lc n b c i = dg (n * b + c) i := by
  have h1 := lc_lt (n := n) (i := i) hb hc
  have h2 : lc n b c i = (n * b + c) / B ^ i := by unfold lc; rw [Nat.mod_eq_of_lt h]
  unfold dg
  rw [← h2, Nat.mod_eq_of_lt h1]
theorem lc_fit {n b c i : Nat} (h : n < B ^ i) (hb : b < B) (hc : c < B) : n * b + c < B ^ (i + 1) := by
  have h1 := lc_lt (n := n) (i := i) hb hc
  unfold lc at h1
  rw [Nat.mod_eq_of_lt h] at h1
  rw [Nat.div_lt_iff_lt_mul (Bp_pos i)] at h1
  rw [Nat.pow_succ, Nat.mul_comm (B ^ i)]
  exact h1

/-! A list turned round, step by step -/
def rv (l : List Int) (i : Nat) : List Int := (List.range l.length).map fun p => if p < i ∨ l.length - i ≤ p then l.getD (l.length - 1 - p) 0 else l.getD p 0
theorem rv_length (l : List Int) (i : Nat) : (rv l i).length = l.length := by simp [rv]
theorem rv_get {l : List Int} {i p : Nat} (h : p < l.length) : (rv l i)[p]'(by rw [rv_length]; exact h) = if p < i ∨ l.length - i ≤ p then l.getD (l.length - 1 - p) 0 else l.getD p 0 := by simp [rv]
theorem rv_zero (l : List Int) : rv l 0 = l := by
  refine List.ext_getElem (rv_length _ _) fun p h1 h2 => ?_
  rw [rv_get h2, if_neg (by omega)]
  simp [List.getD, h2]
theorem rv_end {l : List Int} {i : Nat} (h : l.length ≤ 2 * i + 1) (hi : i ≤ l.length) : rv l i = l.reverse := by
  refine List.ext_getElem (by simp [rv_length]) fun p h1 h2 => ?_
  rw [rv_length] at h1
  rw [rv_get h1, List.getElem_reverse]
  have h3 : l.length - 1 - p < l.length := by omega
  by_cases hp : p < i ∨ l.length - i ≤ p
  · rw [if_pos hp]; simp [List.getD, h3]
  · rw [if_neg hp]
    have e : l.length - 1 - p = p := by omega
    simp [List.getD, h1, e]
theorem rv_set {l : List Int} {i : Nat} (h : 2 * i + 1 < l.length) : ((rv l i).set i (l.getD (l.length - 1 - i) 0)).set (l.length - 1 - i) (l.getD i 0) = rv l (i + 1) := by
  refine List.ext_getElem (by simp [rv_length]) fun p h1 h2 => ?_
  rw [rv_length] at h2
  rw [rv_get h2, List.getElem_set, List.getElem_set, rv_get h2]
  by_cases h3 : l.length - 1 - i = p
  · subst h3
    rw [if_pos rfl, if_pos (by omega)]
    congr 1
    omega
  · rw [if_neg h3]
    by_cases h4 : i = p
    · subst h4
      rw [if_pos rfl, if_pos (by omega)]
    · rw [if_neg h4]
      by_cases h5 : p < i ∨ l.length - i ≤ p
      · rw [if_pos h5, if_pos (by omega)]
      · rw [if_neg h5, if_neg (by omega)]
end Go.Av

set_option maxHeartbeats 8000000
set_option exponentiation.threshold 100000
set_option maxRecDepth 100000
set_option linter.unusedVariables false
set_option linter.unusedSimpArgs false
namespace Go.Av
open Go Go.Proofs
/-! FromInt -/
theorem val_two {a b : Int} (ha : 0 ≤ a) (hb : 0 ≤ b) : val [a, b] = a.toNat + B * b.toNat := by
  simp [val]
theorem wf_two {a b : Int} (ha : 0 ≤ a ∧ a < 4294967296) (hb : 0 ≤ b ∧ b < 4294967296) : wf [a, b] := by
  intro x hx
  simp only [List.mem_cons, List.not_mem_nil, or_false] at hx
  rcases hx with rfl | rfl
  · exact ha
  · exact hb
theorem int_neg {n : Int} (h : n < 0) : sgn true (val [(-n) % 4294967296, (-n) / 4294967296]) = n := by
  rw [val_two (by omega) (by omega)]
  unfold sgn B
  rw [if_pos rfl]
  omega
theorem int_pos {n : Int} (h : 0 ≤ n) : sgn false (val [n % 4294967296, n / 4294967296]) = n := by
  rw [val_two (by omega) (by omega)]
  unfold sgn B
  rw [if_neg (by simp)]
  omega
theorem FromInt_c (n : Int) (hn : -9223372036854775808 ≤ n ∧ n ≤ 9223372036854775807) : Con Try.prog 61 [I n] (FIV n) := by
  refine con_of Try.func61 rfl rfl rfl rfl rfl ?_
  by_cases h : n < 0
  · have e1 : IntKind.wrap .u64 n = n + 18446744073709551616 := by rw [wrap_u64]; omega
    have e2 : IntKind.wrap .u64 (-IntKind.wrap .u64 n) = -n := by rw [e1, wrap_u64]; omega
    have e3 : IntKind.wrap .u32 (IntKind.wrap .u64 (-IntKind.wrap .u64 n)) = (-n) % 4294967296 := by rw [e2, wrap_u32]
    have hm := made_c true [(-n) % 4294967296, (-n) / 4294967296] (wf_two (by omega) (by omega)) (by simp)
    rw [int_neg h] at hm
    repeat (first | refine seq_ ?_ | refine region_ ?_ | refine nil_ ?_ | refine cond_t rfl ?_ | refine stepY (y_move rfl) rfl ?_ | refine stepY (y_assign rfl) rfl ?_ | refine stepY (y_neg rfl) rfl ?_ | (first | refine stepY (y_convn rfl (by simp only [InK, loK, hiK]; omega)) rfl ?_ | refine stepY (y_conv rfl) rfl ?_) | refine stepY (y_build_arr rfl rfl rfl rfl) rfl ?_ | refine stepY (y_slice_bx rfl) rfl ?_ | refine stepY (y_shr32 rfl rfl (by decide)) rfl ?_ | refine stepY (y_cmpT rfl rfl rfl (by omega)) rfl ?_ | refine stepE (e_alloc rfl rfl rfl) ?_ | refine stepE (e_store rfl rfl rfl rfl rfl rfl rfl) ?_)
    rw [e3, e2]
    refine sealb_L (i := 19) [(-n) % 4294967296, (-n) / 4294967296] rfl rfl rfl rfl rfl rfl ?_
    refine call_ Try.func77 rfl rfl hm rfl (by repeat (first | exact .refl _ | exact .tag _ _ | apply Les.cons | exact .nil)) rfl ?_
    repeat (first | refine nil_ ?_ | refine ret_ ?_ | refine stepE (e_store rfl rfl rfl rfl rfl rfl rfl) ?_)
    ((apply fin_r); (repeat (first | exact .nil | exact .agg rfl rfl rfl | apply ResL.cons)); (repeat (exact .refl _)))
  · have e3 : IntKind.wrap .u32 n = n % 4294967296 := by rw [wrap_u32]
    have hm := made_c false [n % 4294967296, n / 4294967296] (wf_two (by omega) (by omega)) (by simp)
    rw [int_pos (by omega)] at hm
    repeat (first | refine seq_ ?_ | refine region_ ?_ | refine nil_ ?_ | refine skip_ ?_ | refine cond_f rfl ?_ | refine stepY (y_move rfl) rfl ?_ | refine stepY (y_assign rfl) rfl ?_ | (first | refine stepY (y_convn rfl (by simp only [InK, loK, hiK]; omega)) rfl ?_ | refine stepY (y_conv rfl) rfl ?_) | refine stepY (y_build_arr rfl rfl rfl rfl) rfl ?_ | refine stepY (y_slice_bx rfl) rfl ?_ | refine stepY (y_shr32 rfl rfl (by decide)) rfl ?_ | refine stepY (y_cmpF rfl rfl rfl (by omega)) rfl ?_ | refine stepE (e_alloc rfl rfl rfl) ?_ | refine stepE (e_store rfl rfl rfl rfl rfl rfl rfl) ?_)
    rw [e3]
    refine sealb_L (i := 19) [n % 4294967296, n / 4294967296] rfl rfl rfl rfl rfl rfl ?_
    refine call_ Try.func77 rfl rfl hm rfl (by repeat (first | exact .refl _ | exact .tag _ _ | apply Les.cons | exact .nil)) rfl ?_
    repeat (first | refine nil_ ?_ | refine ret_ ?_ | refine stepE (e_store rfl rfl rfl rfl rfl rfl rfl) ?_)
    ((apply fin_r); (repeat (first | exact .nil | exact .agg rfl rfl rfl | apply ResL.cons)); (repeat (exact .refl _)))
theorem RFromInt_c (n : Int) (hn : -9223372036854775808 ≤ n ∧ n ≤ 9223372036854775807) : Con Try.prog 49 [I n] (FIV n) := by
  refine con_of Try.func49 rfl rfl rfl rfl rfl ?_
  by_cases h : n < 0
  · have hm := signed_c true [(-n) % 4294967296, (-n) / 4294967296] (wf_two (by omega) (by omega)) (by simp)
    rw [int_neg h] at hm
    repeat (first | refine seq_ ?_ | refine region_ ?_ | refine nil_ ?_ | refine cond_t rfl ?_ | refine stepY (y_move rfl) rfl ?_ | refine stepY (y_assign rfl) rfl ?_ | refine stepY (y_negn rfl (by simp only [InK, loK, hiK]; omega)) rfl ?_ | (first | refine stepY (y_convn rfl (by simp only [InK, loK, hiK]; omega)) rfl ?_ | refine stepY (y_conv rfl) rfl ?_) | refine stepY (y_binn rfl rfl rfl (by simp only [InK, loK, hiK]; omega)) rfl ?_ | refine stepY (y_quop rfl rfl (by omega) (by omega) (by simp only [InK, loK, hiK]; omega)) rfl ?_ | refine stepY (y_remp rfl rfl (by omega) (by omega)) rfl ?_ | refine stepY (y_cmpT rfl rfl rfl (by omega)) rfl ?_ | refine stepE (e_alloc rfl rfl rfl) ?_ | refine stepE (e_bs_vi (k := .u32) rfl rfl rfl rfl rfl) ?_)
    rw [show -(n + 1) + 1 = -n by omega]
    refine seal_L (i := 21) (h := 21) rfl rfl rfl rfl ?_
    refine call_ Try.func68 rfl rfl hm rfl (by repeat (first | exact .refl _ | exact .tag _ _ | apply Les.cons | exact .nil)) rfl ?_
    repeat (first | refine nil_ ?_ | refine ret_ ?_ | refine stepE (e_store rfl rfl rfl rfl rfl rfl rfl) ?_)
    ((apply fin_r); (repeat (first | exact .nil | exact .agg rfl rfl rfl | apply ResL.cons)); (repeat (exact .refl _)))
  · have hm := signed_c false [n % 4294967296, n / 4294967296] (wf_two (by omega) (by omega)) (by simp)
    rw [int_pos (by omega)] at hm
    repeat (first | refine seq_ ?_ | refine region_ ?_ | refine nil_ ?_ | refine skip_ ?_ | refine cond_f rfl ?_ | refine stepY (y_move rfl) rfl ?_ | refine stepY (y_assign rfl) rfl ?_ | refine stepY (y_convn rfl (by simp only [InK, loK, hiK]; omega)) rfl ?_ | refine stepY (y_quop rfl rfl (by omega) (by omega) (by simp only [InK, loK, hiK]; omega)) rfl ?_ | refine stepY (y_remp rfl rfl (by omega) (by omega)) rfl ?_ | refine stepY (y_cmpF rfl rfl rfl (by omega)) rfl ?_ | refine stepE (e_alloc rfl rfl rfl) ?_ | refine stepE (e_bs_vi (k := .u32) rfl rfl rfl rfl rfl) ?_)
    refine seal_L (i := 21) (h := 21) rfl rfl rfl rfl ?_
    refine call_ Try.func68 rfl rfl hm rfl (by repeat (first | exact .refl _ | exact .tag _ _ | apply Les.cons | exact .nil)) rfl ?_
    repeat (first | refine nil_ ?_ | refine ret_ ?_ | refine stepE (e_store rfl rfl rfl rfl rfl rfl rfl) ?_)
    ((apply fin_r); (repeat (first | exact .nil | exact .agg rfl rfl rfl | apply ResL.cons)); (repeat (exact .refl _)))

/-! extended -/
theorem one_wf {d : Nat} (h : d < 4294967296) : wf [(d : Int)] := by
  intro x hx
  simp only [List.mem_cons, List.not_mem_nil, or_false] at hx
  subst hx; omega
theorem one_val (d : Nat) : val [(d : Int)] = d := by simp [val]
/-! longer, short -/
end Go.Av

set_option maxHeartbeats 8000000
set_option exponentiation.threshold 100000
set_option maxRecDepth 100000
set_option linter.unusedVariables false
set_option linter.unusedSimpArgs false
namespace Go.Av
open Go Go.Proofs
/-! fractions: validity -/
abbrev Fn (n : Nat) : PV := .v (.func (.func n) #[] #[])
end Go.Av

set_option maxHeartbeats 8000000
set_option exponentiation.threshold 100000
set_option maxRecDepth 100000
set_option linter.unusedVariables false
set_option linter.unusedSimpArgs false
namespace Go.Av
open Go Go.Proofs
/-! fractions: New, Of, the four operations -/
abbrev GF (p : Bool) (m d : Nat) : PV := .ag [Bo p, M m, Bo false, M d]
def vG (p : Bool) (m d : Nat) : Prop := vldF p (limbs m) false (limbs d) = true
theorem vG_bd {p : Bool} {m d : Nat} (h : vG p m d) : ln m ≤ 512 ∧ ln d ≤ 512 ∧ 0 < d ∧ Nat.gcd m d = 1 ∧ vldB p (limbs m) = true ∧ vldB false (limbs d) = true := by
  unfold vG vldF at h
  simp only [Bool.and_eq_true, decide_eq_true_eq, Bool.not_eq_true', beq_iff_eq, val_limbs, limbs_length] at h
  obtain ⟨⟨⟨⟨h1, h2⟩, h3⟩, h4⟩, h5⟩ := h
  exact ⟨vld_ln h1, vld_ln h2, ln_pos.1 h4, h5, h1, h2⟩
theorem vG_q {x : Rat} (h : okQ x) : vG (decide (x.num < 0)) x.num.natAbs x.den := vldF_t h
theorem mk_self (x : Rat) : mkRat (sgn (decide (x.num < 0)) x.num.natAbs) x.den = x := by
  rw [sgn_self, Rat.mkRat_self]
theorem sgn_mulr (p : Bool) (m n : Nat) : sgn p (m * n) = sgn p m * (n : Int) := by cases p <;> simp [sgn, Int.neg_mul]
theorem New_e (p q : Bool) (l k : List Int) (h : (vldB p l && vldB q k) = false) : Con Try.prog 47 [AV p l, AV q k] (.tp [ZF, E_ 1]) := by
  refine con_of Try.func47 rfl rfl rfl rfl rfl ?_
  have hv1 := Valid_c p l
  have hv2 := Valid_c q k
  cases h1 : vldB p l with
  | false =>
    rw [h1] at hv1
    repeat (first | refine seq_ ?_ | refine region_ ?_ | refine nil_ ?_ | refine block_ ?_ | refine stepY (y_assign rfl) rfl ?_ | refine stepY (y_loadA rfl rfl rfl) rfl ?_ | refine stepE (e_box rfl rfl rfl rfl rfl rfl) ?_ | refine stepE (e_alloc rfl rfl rfl) ?_)
    refine call_ Try.func63 rfl rfl (hv1) rfl (by repeat (first | exact .refl _ | apply Les.cons | exact .nil)) rfl ?_
    repeat (first | refine seq_ ?_ | refine region_ ?_ | refine nil_ ?_ | refine ret_ ?_ | refine cond_t rfl ?_ | refine guard_f rfl rfl rfl rfl ?_ | refine stepY (y_move rfl) rfl ?_ | refine stepY (y_assign rfl) rfl ?_ | refine stepY (y_not rfl) rfl ?_ | refine stepY (y_pick_t rfl rfl) rfl ?_ | refine stepY (y_build rfl rfl rfl) rfl ?_ | refine stepE (e_store rfl rfl rfl rfl rfl rfl rfl) ?_)
    ((apply fin_r); (repeat (first | exact .nil | exact .tmp rfl | exact .agg rfl rfl rfl | apply ResL.cons)); (repeat (first | exact .refl _ | exact .nil _ _ | apply Le.ag | apply Le.tp | apply Les.cons | exact .nil)))
  | true =>
    rw [h1, Bool.true_and] at h
    rw [h1] at hv1
    rw [h] at hv2
    repeat (first | refine seq_ ?_ | refine region_ ?_ | refine nil_ ?_ | refine block_ ?_ | refine stepY (y_assign rfl) rfl ?_ | refine stepY (y_loadA rfl rfl rfl) rfl ?_ | refine stepE (e_box rfl rfl rfl rfl rfl rfl) ?_ | refine stepE (e_alloc rfl rfl rfl) ?_)
    refine call_ Try.func63 rfl rfl (hv1) rfl (by repeat (first | exact .refl _ | apply Les.cons | exact .nil)) rfl ?_
    repeat (first | refine guard_t rfl rfl rfl ?_ | refine stepY (y_move rfl) rfl ?_ | refine stepY (y_loadA rfl rfl rfl) rfl ?_ | refine stepY (y_not rfl) rfl ?_)
    refine call_ Try.func63 rfl rfl (hv2) rfl (by repeat (first | exact .refl _ | apply Les.cons | exact .nil)) rfl ?_
    repeat (first | refine seq_ ?_ | refine region_ ?_ | refine nil_ ?_ | refine ret_ ?_ | refine cond_t rfl ?_ | refine guard_t rfl rfl rfl ?_ | refine stepY (y_assign rfl) rfl ?_ | refine stepY (y_not rfl) rfl ?_ | refine stepY (y_pick_f rfl rfl) rfl ?_ | refine stepY (y_build rfl rfl rfl) rfl ?_ | refine stepE (e_store rfl rfl rfl rfl rfl rfl rfl) ?_)
    ((apply fin_r); (repeat (first | exact .nil | exact .tmp rfl | exact .agg rfl rfl rfl | apply ResL.cons)); (repeat (first | exact .refl _ | exact .nil _ _ | apply Le.ag | apply Le.tp | apply Les.cons | exact .nil)))
theorem New_z (p q : Bool) (l : List Int) (h1 : vldB p l = true) (h2 : vldB q [] = true) : Con Try.prog 47 [AV p l, AV q []] (.tp [ZF, E_ 12]) := by
  refine con_of Try.func47 rfl rfl rfl rfl rfl ?_
  have hv1 := Valid_c p l
  have hv2 := Valid_c q []
  rw [h1] at hv1
  rw [h2] at hv2
  repeat (first | refine seq_ ?_ | refine region_ ?_ | refine nil_ ?_ | refine block_ ?_ | refine stepY (y_assign rfl) rfl ?_ | refine stepY (y_loadA rfl rfl rfl) rfl ?_ | refine stepE (e_box rfl rfl rfl rfl rfl rfl) ?_ | refine stepE (e_alloc rfl rfl rfl) ?_)
  refine call_ Try.func63 rfl rfl (hv1) rfl (by repeat (first | exact .refl _ | apply Les.cons | exact .nil)) rfl ?_
  repeat (first | refine guard_t rfl rfl rfl ?_ | refine stepY (y_move rfl) rfl ?_ | refine stepY (y_loadA rfl rfl rfl) rfl ?_ | refine stepY (y_not rfl) rfl ?_)
  refine call_ Try.func63 rfl rfl (hv2) rfl (by repeat (first | exact .refl _ | apply Les.cons | exact .nil)) rfl ?_
  repeat (first | refine seq_ ?_ | refine region_ ?_ | refine nil_ ?_ | refine ret_ ?_ | refine cond_t rfl ?_ | refine cond_f rfl ?_ | refine guard_t rfl rfl rfl ?_ | refine stepY (y_assign rfl) rfl ?_ | refine stepY (y_load1 rfl rfl rfl) rfl ?_ | refine stepY (y_fieldAddr rfl) rfl ?_ | refine stepY (y_len_si rfl) rfl ?_ | refine stepY (y_not rfl) rfl ?_ | refine stepY (y_pick_f rfl rfl) rfl ?_ | refine stepY (y_build rfl rfl rfl) rfl ?_ | refine stepY (y_bin rfl rfl rfl) rfl ?_ | refine stepE (e_store rfl rfl rfl rfl rfl rfl rfl) ?_)
  ((apply fin_r); (repeat (first | exact .nil | exact .tmp rfl | exact .agg rfl rfl rfl | apply ResL.cons)); (repeat (first | exact .refl _ | exact .nil _ _ | apply Le.ag | apply Le.tp | apply Les.cons | exact .nil)))
theorem New_s (p q : Bool) (m n : Nat) (h1 : vldB p (limbs m) = true) (h2 : vldB q (limbs n) = true) (hn : 0 < n) : Con Try.prog 47 [SV p m, SV q n] (resQ (mkRat (sgn (p != q) m) n)) := by
  have hv1 := Valid_c p (limbs m)
  have hv2 := Valid_c q (limbs n)
  rw [h1] at hv1
  rw [h2] at hv2
  have hb1 := vld_ln h1
  have hb2 := vld_ln h2
  have hr := reduced_c p q m n hn (by omega) (by omega)
  have hln : ((limbs n).length : Int) = ln n := by rw [limbs_length]
  have hpn := ln_pos.2 hn
  generalize mkRat (sgn (p != q) m) n = x at *
  by_cases hok : okQ x
  · rw [resQ_ok hok] at *
    refine con_of Try.func47 rfl rfl rfl rfl rfl ?_
    repeat (first | refine seq_ ?_ | refine region_ ?_ | refine nil_ ?_ | refine block_ ?_ | refine stepY (y_assign rfl) rfl ?_ | refine stepY (y_loadA rfl rfl rfl) rfl ?_ | refine stepE (e_box rfl rfl rfl rfl rfl rfl) ?_ | refine stepE (e_alloc rfl rfl rfl) ?_)
    refine call_ Try.func63 rfl rfl (hv1) rfl (by repeat (first | exact .refl _ | apply Les.cons | exact .nil)) rfl ?_
    repeat (first | refine guard_t rfl rfl rfl ?_ | refine stepY (y_move rfl) rfl ?_ | refine stepY (y_loadA rfl rfl rfl) rfl ?_ | refine stepY (y_not rfl) rfl ?_)
    refine call_ Try.func63 rfl rfl (hv2) rfl (by repeat (first | exact .refl _ | apply Les.cons | exact .nil)) rfl ?_
    repeat (first | refine seq_ ?_ | refine region_ ?_ | refine nil_ ?_ | refine skip_ ?_ | refine cond_f rfl ?_ | refine guard_t rfl rfl rfl ?_ | refine stepY (y_assign rfl) rfl ?_ | refine stepY (y_load1 rfl rfl rfl) rfl ?_ | refine stepY (y_fieldAddr rfl) rfl ?_ | refine stepY (y_len_si rfl) rfl ?_ | refine stepY (y_not rfl) rfl ?_ | refine stepY (y_pick_f rfl rfl) rfl ?_ | refine stepY (y_cmpF rfl rfl rfl (by omega)) rfl ?_)
    refine draw_ [(0, true), (2, true), (1, false), (3, false), (4, false), (5, true), (6, true), (7, false), (8, true)] 1000 [2, 3] mixed (by kernel_rfl) rfl ?_
    ((refine dY rfl (y_loadA rfl rfl rfl) rfl rfl rfl rfl ?_); refine dY rfl (y_loadA rfl rfl rfl) rfl rfl rfl rfl ?_)
    refine dC rfl Try.func65 rfl rfl (wideOf_c p m) rfl (by repeat (first | exact .refl _ | apply Les.cons | exact .nil)) rfl rfl ?_
    skip
    refine dC rfl Try.func65 rfl rfl (wideOf_c q n) rfl (by repeat (first | exact .refl _ | apply Les.cons | exact .nil)) rfl rfl ?_
    skip
    refine dC rfl Try.func64 rfl rfl (hr) rfl (by repeat (first | exact .refl _ | apply Les.cons | exact .nil)) rfl rfl ?_
    ((refine dY rfl (y_extract rfl rfl) rfl rfl rfl rfl ?_); refine dY rfl (y_extract rfl rfl) rfl rfl rfl rfl ?_; (refine dE rfl (e_store rfl rfl rfl rfl rfl rfl rfl) rfl rfl ?_); refine dY rfl (y_assign rfl) rfl rfl rfl rfl ?_; refine dEnd ?_)
    repeat (refine ret_ ?_)
    ((apply fin_r); (repeat (first | exact .nil | exact .tmp rfl | exact .agg rfl rfl rfl | apply ResL.cons)); (repeat (exact .refl _)))
  · rw [resQ_no hok] at *
    refine con_of Try.func47 rfl rfl rfl rfl rfl ?_
    repeat (first | refine seq_ ?_ | refine region_ ?_ | refine nil_ ?_ | refine block_ ?_ | refine stepY (y_assign rfl) rfl ?_ | refine stepY (y_loadA rfl rfl rfl) rfl ?_ | refine stepE (e_box rfl rfl rfl rfl rfl rfl) ?_ | refine stepE (e_alloc rfl rfl rfl) ?_)
    refine call_ Try.func63 rfl rfl (hv1) rfl (by repeat (first | exact .refl _ | apply Les.cons | exact .nil)) rfl ?_
    repeat (first | refine guard_t rfl rfl rfl ?_ | refine stepY (y_move rfl) rfl ?_ | refine stepY (y_loadA rfl rfl rfl) rfl ?_ | refine stepY (y_not rfl) rfl ?_)
    refine call_ Try.func63 rfl rfl (hv2) rfl (by repeat (first | exact .refl _ | apply Les.cons | exact .nil)) rfl ?_
    repeat (first | refine seq_ ?_ | refine region_ ?_ | refine nil_ ?_ | refine skip_ ?_ | refine cond_f rfl ?_ | refine guard_t rfl rfl rfl ?_ | refine stepY (y_assign rfl) rfl ?_ | refine stepY (y_load1 rfl rfl rfl) rfl ?_ | refine stepY (y_fieldAddr rfl) rfl ?_ | refine stepY (y_len_si rfl) rfl ?_ | refine stepY (y_not rfl) rfl ?_ | refine stepY (y_pick_f rfl rfl) rfl ?_ | refine stepY (y_cmpF rfl rfl rfl (by omega)) rfl ?_)
    refine draw_ [(0, true), (2, true), (1, false), (3, false), (4, false), (5, true), (6, true), (7, false), (8, true)] 1000 [2, 3] mixed (by kernel_rfl) rfl ?_
    ((refine dY rfl (y_loadA rfl rfl rfl) rfl rfl rfl rfl ?_); refine dY rfl (y_loadA rfl rfl rfl) rfl rfl rfl rfl ?_)
    refine dC rfl Try.func65 rfl rfl (wideOf_c p m) rfl (by repeat (first | exact .refl _ | apply Les.cons | exact .nil)) rfl rfl ?_
    skip
    refine dC rfl Try.func65 rfl rfl (wideOf_c q n) rfl (by repeat (first | exact .refl _ | apply Les.cons | exact .nil)) rfl rfl ?_
    skip
    refine dC rfl Try.func64 rfl rfl (hr) rfl (by repeat (first | exact .refl _ | apply Les.cons | exact .nil)) rfl rfl ?_
    ((refine dY rfl (y_extract rfl rfl) rfl rfl rfl rfl ?_); refine dY rfl (y_extract rfl rfl) rfl rfl rfl rfl ?_; (refine dE rfl (e_store rfl rfl rfl rfl rfl rfl rfl) rfl rfl ?_); refine dY rfl (y_assign rfl) rfl rfl rfl rfl ?_; refine dEnd ?_)
    repeat (refine ret_ ?_)
    ((apply fin_r); (repeat (first | exact .nil | exact .tmp rfl | exact .agg rfl rfl rfl | apply ResL.cons)); (repeat (exact .refl _)))
theorem ln_int {n : Int} (hn : -9223372036854775808 ≤ n ∧ n ≤ 9223372036854775807) : ln n.natAbs ≤ 2 := by
  rw [ln_le]
  have : B ^ 2 = 18446744073709551616 := by decide
  omega
/-- what Of answers -/
def ofR (n d : Int) : PV := if d = 0 then .tp [ZF, E_ 12] else resQ (Rat.divInt n d)
theorem divInt_sgn (n d : Int) (hd : d ≠ 0) : mkRat (sgn (decide (n < 0) != decide (d < 0)) n.natAbs) d.natAbs = Rat.divInt n d := by
  cases d with
  | ofNat d =>
    show mkRat (sgn (decide (n < 0) != decide ((d : Int) < 0)) n.natAbs) d = mkRat n d
    rw [show decide ((d : Int) < 0) = false by rw [decide_eq_false]; omega, Bool.bne_false, sgn_self]
  | negSucc d =>
    show mkRat (sgn (decide (n < 0) != decide (Int.negSucc d < 0)) n.natAbs) (d + 1) = Rat.normalize (-n) (d + 1) (by omega)
    rw [show decide (Int.negSucc d < 0) = true by rw [decide_eq_true]; omega, Bool.bne_true, sgn_not, sgn_self, Rat.normalize_eq_mkRat]
theorem New_i (n d : Int) (l1 : ln n.natAbs ≤ 512) (l2 : ln d.natAbs ≤ 512) : Con Try.prog 47 [IV n, IV d] (ofR n d) := by
  unfold ofR
  split
  · next h0 =>
    have hN := New_z (decide (n < 0)) (decide (d < 0)) (limbs n.natAbs) (vld_iv l1) (by rw [h0]; rfl)
    subst h0
    exact hN
  · next h0 =>
    have hN := New_s (decide (n < 0)) (decide (d < 0)) n.natAbs d.natAbs (vld_iv l1) (vld_iv l2) (by omega)
    rwa [divInt_sgn n d h0] at hN
/-- the three forms of an answer -/
theorem ofR_cases (n d : Int) {P : PV → Prop} (h1 : P (.tp [ZF, E_ 12])) (h2 : ∀ x, P (.tp [FQ x, E_ 0])) (h3 : P (.tp [ZF, E_ 4])) : P (ofR n d) := by
  unfold ofR resQ
  split
  · exact h1
  · split
    · exact h2 _
    · exact h3
end Go.Av

set_option maxHeartbeats 8000000
set_option exponentiation.threshold 100000
set_option maxRecDepth 100000
set_option linter.unusedVariables false
set_option linter.unusedSimpArgs false
namespace Go.Av
open Go Go.Proofs

open Go.RowKit
/-! The point of two lines -/
theorem gsgn (x : Int) : sgn (decide (x < 0)) x.natAbs = x := by
  unfold sgn
  by_cases h : x < 0
  · simp only [h, decide_true, if_true]; omega
  · simp only [h, decide_false, Bool.false_eq_true, if_false]; omega
theorem gSub (x y : Int) (hx : ln x.natAbs ≤ 512) (hy : ln y.natAbs ≤ 512) : Con Try.prog 62 [IV x, IV y] (resI (x - y)) := by
  have := Sub_s (decide (x < 0)) (decide (y < 0)) x.natAbs y.natAbs (vld_iv hx) (vld_iv hy)
  rwa [gsgn, gsgn] at this
theorem gMul (x y : Int) (hx : ln x.natAbs ≤ 512) (hy : ln y.natAbs ≤ 512) : Con Try.prog 60 [IV x, IV y] (resI (x * y)) := by
  have := Mul_s (decide (x < 0)) (decide (y < 0)) x.natAbs y.natAbs (vld_iv hx) (vld_iv hy)
  rwa [gsgn, gsgn] at this
abbrev i6 (x : Int) : Prop := -9223372036854775808 ≤ x ∧ x ≤ 9223372036854775807
theorem prod_bd {x y : Int} (hx : i6 x) (hy : i6 y) : (x * y).natAbs ≤ 85070591730234615865843651857942052864 := by
  have h1 : x.natAbs ≤ 9223372036854775808 := by omega
  have h2 : y.natAbs ≤ 9223372036854775808 := by omega
  have h3 : x.natAbs * y.natAbs ≤ 9223372036854775808 * 9223372036854775808 := Nat.mul_le_mul h1 h2
  rw [Int.natAbs_mul]
  omega
theorem ln4 {n : Nat} (h : n ≤ 170141183460469231731687303715884105728) : ln n ≤ 4 := by
  rw [ln_le]
  have : B ^ 4 = 340282366920938463463374607431768211456 := by decide
  omega
def det (a b c d : Int) : Int := a * d - b * c
theorem det_ln {a b c d : Int} (ha : i6 a) (hb : i6 b) (hc : i6 c) (hd : i6 d) : ln (det a b c d).natAbs ≤ 4 := by
  have h1 := prod_bd ha hd
  have h2 := prod_bd hb hc
  refine ln4 ?_
  unfold det
  omega
theorem minor_c (a b c d : Int) (ha : i6 a) (hb : i6 b) (hc : i6 c) (hd : i6 d) : Con Try.prog 46 [I a, I b, I c, I d] (FIV (det a b c d)) := by
  have fa := FromInt_c a ha
  have fb := FromInt_c b hb
  have fc := FromInt_c c hc
  have fd := FromInt_c d hd
  have la := ln_int ha
  have lb := ln_int hb
  have lc := ln_int hc
  have ld := ln_int hd
  have p1 := ln4 (Nat.le_trans (prod_bd ha hd) (by omega))
  have p2 := ln4 (Nat.le_trans (prod_bd hb hc) (by omega))
  have p3 := det_ln ha hb hc hd
  have m1 := gMul a d (by omega) (by omega)
  have m2 := gMul b c (by omega) (by omega)
  have hs := gSub (a * d) (b * c) (by omega) (by omega)
  unfold det at *
  rw [resI_ok (by omega)] at m1 m2 hs
  generalize a * d = x at *
  generalize b * c = y at *
  generalize x - y = z at *
  refine con_of Try.func46 rfl rfl rfl rfl rfl ?_
  repeat (first | refine seq_ ?_ | refine region_ ?_ | refine nil_ ?_ | refine stepY (y_move rfl) rfl ?_ | refine stepE (e_alloc rfl rfl rfl) ?_)
  refine call_ Try.func61 rfl rfl (fa) rfl (by repeat (first | exact .refl _ | apply Les.cons | exact .nil)) rfl ?_
  repeat (refine stepY (y_move rfl) rfl ?_)
  refine call_ Try.func61 rfl rfl (fd) rfl (by repeat (first | exact .refl _ | apply Les.cons | exact .nil)) rfl ?_
  skip
  refine call_ Try.func60 rfl rfl (m1) rfl (by repeat (first | exact .refl _ | exact .tag _ _ | apply Le.ag | apply Les.cons | exact .nil)) rfl ?_
  repeat (first | refine seq_ ?_ | refine region_ ?_ | refine nil_ ?_ | refine stepY (y_move rfl) rfl ?_ | refine stepY (y_assign rfl) rfl ?_ | refine stepY (y_extract rfl rfl) rfl ?_ | refine stepE (e_alloc rfl rfl rfl) ?_ | refine stepE (e_store rfl rfl rfl rfl rfl rfl rfl) ?_)
  refine call_ Try.func61 rfl rfl (fb) rfl (by repeat (first | exact .refl _ | apply Les.cons | exact .nil)) rfl ?_
  repeat (refine stepY (y_move rfl) rfl ?_)
  refine call_ Try.func61 rfl rfl (fc) rfl (by repeat (first | exact .refl _ | apply Les.cons | exact .nil)) rfl ?_
  skip
  refine call_ Try.func60 rfl rfl (m2) rfl (by repeat (first | exact .refl _ | exact .tag _ _ | apply Le.ag | apply Les.cons | exact .nil)) rfl ?_
  repeat (first | refine seq_ ?_ | refine region_ ?_ | refine nil_ ?_ | refine stepY (y_move rfl) rfl ?_ | refine stepY (y_assign rfl) rfl ?_ | refine stepY (y_loadA rfl rfl rfl) rfl ?_ | refine stepY (y_extract rfl rfl) rfl ?_ | refine stepE (e_alloc rfl rfl rfl) ?_ | refine stepE (e_store rfl rfl rfl rfl rfl rfl rfl) ?_)
  refine call_ Try.func62 rfl rfl (hs) rfl (by repeat (first | exact .refl _ | exact .tag _ _ | apply Le.ag | apply Les.cons | exact .nil)) rfl ?_
  repeat (first | refine seq_ ?_ | refine region_ ?_ | refine nil_ ?_ | refine ret_ ?_ | refine stepY (y_move rfl) rfl ?_ | refine stepY (y_assign rfl) rfl ?_ | refine stepY (y_loadA rfl rfl rfl) rfl ?_ | refine stepY (y_extract rfl rfl) rfl ?_ | refine stepE (e_alloc rfl rfl rfl) ?_ | refine stepE (e_store rfl rfl rfl rfl rfl rfl rfl) ?_)
  ((apply fin_r); (repeat (first | exact .nil | exact .agg rfl rfl rfl | apply ResL.cons)); (repeat (exact .refl _)))
end Go.Av

set_option maxHeartbeats 8000000
set_option exponentiation.threshold 100000
set_option maxRecDepth 100000
set_option linter.unusedVariables false
set_option linter.unusedSimpArgs false
namespace Go.Av
open Go Go.Proofs

open Go.RowKit
abbrev Ln := Int × Int × Int
abbrev lnOk (a : Ln) : Prop := i6 a.1 ∧ i6 a.2.1 ∧ i6 a.2.2
abbrev NL : PV := .v (.slice none 0 0)
abbrev cQ (x : Rat) : List PV := [Bo (decide (x.num < 0)), FM x.num.natAbs, Bo false, FM x.den]
abbrev fpQ (x y : Rat) : PV := .ag [Bo (decide (x.num < 0)), FM x.num.natAbs, Bo false, FM x.den, Bo (decide (y.num < 0)), FM y.num.natAbs, Bo false, FM y.den]
abbrev fpZ : PV := .ag [Bo false, NL, Bo false, NL, Bo false, NL, Bo false, NL]
def detD (a b : Ln) : Int := det a.1 a.2.1 b.1 b.2.1
def detX (a b : Ln) : Int := det a.2.2 a.2.1 b.2.2 b.2.1
def detY (a b : Ln) : Int := det a.1 a.2.2 b.1 b.2.2
def badL (a b : Ln) : Prop := a.1 = 0 ∧ a.2.1 = 0 ∨ b.1 = 0 ∧ b.2.1 = 0
instance (a b : Ln) : Decidable (badL a b) := by unfold badL; infer_instance
def meetR (a b : Ln) : PV := if badL a b then .tp [fpZ, E_ 1] else if detD a b = 0 then .tp [fpZ, E_ 24] else .tp [fpQ (Rat.divInt (detX a b) (detD a b)) (Rat.divInt (detY a b) (detD a b)), E_ 0]
theorem okQ_divB (n d : Int) (hn : ln n.natAbs ≤ 512) (hd : ln d.natAbs ≤ 512) (h0 : d ≠ 0) : okQ (Rat.divInt n d) := by
  rw [← divInt_sgn n d h0]
  have hp : 0 < d.natAbs := by omega
  have h1 := mkQ_num (decide (n < 0) != decide (d < 0)) n.natAbs hp
  have h2 := mkQ_den (decide (n < 0) != decide (d < 0)) n.natAbs hp
  refine ⟨?_, ?_⟩
  · rw [h1, sgn_abs]
    exact Nat.le_trans (ln_mono (Nat.div_le_self _ _)) hn
  · rw [h2]
    exact Nat.le_trans (ln_mono (Nat.div_le_self _ _)) hd
theorem New_q (n d : Int) (hn : ln n.natAbs ≤ 4) (hd : ln d.natAbs ≤ 4) (h0 : d ≠ 0) : Con Try.prog 47 [IV n, IV d] (.tp [FQ (Rat.divInt n d), E_ 0]) := by
  have h := New_i n d (by omega) (by omega)
  unfold ofR at h
  rwa [if_neg h0, resQ_ok (okQ_divB n d (by omega) (by omega) h0)] at h
theorem Meet_c (a b : Ln) (ha : lnOk a) (hbo : lnOk b) : Con Try.prog 22 [lnP a, lnP b] (meetR a b) := by
  obtain ⟨a1, a2, a3⟩ := ha
  obtain ⟨b1, b2, b3⟩ := hbo
  unfold meetR
  by_cases hb : badL a b
  · rw [if_pos hb]
    refine con_of Try.func22 rfl rfl rfl rfl rfl ?_
    by_cases c1 : a.1 = 0 ∧ a.2.1 = 0
    · obtain ⟨c1, c2⟩ := c1
      repeat (first | refine seq_ ?_ | refine region_ ?_ | refine nil_ ?_ | refine ret_ ?_ | refine cond_t rfl ?_ | refine guard_t rfl rfl rfl ?_ | refine guard_f rfl rfl rfl rfl ?_ | refine guard_u rfl rfl rfl ?_ | refine stepY (y_move rfl) rfl ?_ | refine stepY (y_assign rfl) rfl ?_ | refine stepY (y_load1 rfl rfl rfl) rfl ?_ | refine stepY (y_fieldAddr rfl) rfl ?_ | refine stepY (y_pick_t rfl rfl) rfl ?_ | refine stepY (y_build rfl rfl rfl) rfl ?_ | refine stepY (y_cmpT rfl rfl rfl (by omega)) rfl ?_ | refine stepE (e_box rfl rfl rfl rfl rfl rfl) ?_ | refine stepE (e_alloc rfl rfl rfl) ?_ | refine stepE (e_store rfl rfl rfl rfl rfl rfl rfl) ?_)
      ((apply fin_r); (repeat (first | exact .nil | exact .tmp rfl | exact .agg rfl rfl rfl | apply ResL.cons)); (repeat (exact .refl _)))
    · obtain ⟨c3, c4⟩ := hb.resolve_left c1
      by_cases c2 : a.1 = 0
      · have c5 : ¬ a.2.1 = 0 := fun e => c1 ⟨c2, e⟩
        repeat (first | refine seq_ ?_ | refine region_ ?_ | refine nil_ ?_ | refine ret_ ?_ | refine cond_t rfl ?_ | refine guard_t rfl rfl rfl ?_ | refine stepY (y_move rfl) rfl ?_ | refine stepY (y_assign rfl) rfl ?_ | refine stepY (y_load1 rfl rfl rfl) rfl ?_ | refine stepY (y_fieldAddr rfl) rfl ?_ | (first | refine stepY (y_pick_t rfl rfl) rfl ?_ | refine stepY (y_pick_f rfl rfl) rfl ?_) | refine stepY (y_build rfl rfl rfl) rfl ?_ | (first | refine stepY (y_cmpT rfl rfl rfl (by omega)) rfl ?_ | refine stepY (y_cmpF rfl rfl rfl (by omega)) rfl ?_) | refine stepE (e_box rfl rfl rfl rfl rfl rfl) ?_ | refine stepE (e_alloc rfl rfl rfl) ?_ | refine stepE (e_store rfl rfl rfl rfl rfl rfl rfl) ?_)
        ((apply fin_r); (repeat (first | exact .nil | exact .tmp rfl | exact .agg rfl rfl rfl | apply ResL.cons)); (repeat (exact .refl _)))
      · repeat (first | refine seq_ ?_ | refine region_ ?_ | refine nil_ ?_ | refine ret_ ?_ | refine cond_t rfl ?_ | refine guard_t rfl rfl rfl ?_ | refine guard_f rfl rfl rfl rfl ?_ | refine stepY (y_move rfl) rfl ?_ | refine stepY (y_assign rfl) rfl ?_ | refine stepY (y_load1 rfl rfl rfl) rfl ?_ | refine stepY (y_fieldAddr rfl) rfl ?_ | (first | refine stepY (y_pick_t rfl rfl) rfl ?_ | refine stepY (y_pick_f rfl rfl) rfl ?_) | refine stepY (y_build rfl rfl rfl) rfl ?_ | (first | refine stepY (y_cmpT rfl rfl rfl (by omega)) rfl ?_ | refine stepY (y_cmpF rfl rfl rfl (by omega)) rfl ?_) | refine stepE (e_box rfl rfl rfl rfl rfl rfl) ?_ | refine stepE (e_alloc rfl rfl rfl) ?_ | refine stepE (e_store rfl rfl rfl rfl rfl rfl rfl) ?_)
        ((apply fin_r); (repeat (first | exact .nil | exact .tmp rfl | exact .agg rfl rfl rfl | apply ResL.cons)); (repeat (exact .refl _)))
  · rw [if_neg hb]
    have m0 := minor_c a.1 a.2.1 b.1 b.2.1 a1 a2 b1 b2
    have l0 := det_ln a1 a2 b1 b2
    rw [show det a.1 a.2.1 b.1 b.2.1 = detD a b from rfl] at m0 l0
    by_cases h0 : detD a b = 0
    · rw [if_pos h0]
      rw [h0] at m0
      refine con_of Try.func22 rfl rfl rfl rfl rfl ?_
      by_cases c1 : a.1 = 0
      · have c2 : ¬ a.2.1 = 0 := fun e => hb (.inl ⟨c1, e⟩)
        by_cases c3 : b.1 = 0
        · have c4 : ¬ b.2.1 = 0 := fun e => hb (.inr ⟨c3, e⟩)
          repeat (first | refine seq_ ?_ | refine region_ ?_ | refine nil_ ?_ | refine skip_ ?_ | refine cond_f rfl ?_ | refine guard_t rfl rfl rfl ?_ | refine stepY (y_move rfl) rfl ?_ | refine stepY (y_assign rfl) rfl ?_ | refine stepY (y_load1 rfl rfl rfl) rfl ?_ | refine stepY (y_fieldAddr rfl) rfl ?_ | (first | refine stepY (y_pick_t rfl rfl) rfl ?_ | refine stepY (y_pick_f rfl rfl) rfl ?_) | (first | refine stepY (y_cmpT rfl rfl rfl (by omega)) rfl ?_ | refine stepY (y_cmpF rfl rfl rfl (by omega)) rfl ?_) | refine stepE (e_box rfl rfl rfl rfl rfl rfl) ?_ | refine stepE (e_alloc rfl rfl rfl) ?_)
          refine call_ Try.func46 rfl rfl (m0) rfl (by repeat (first | exact .refl _ | apply Les.cons | exact .nil)) rfl ?_
          repeat (first | refine seq_ ?_ | refine region_ ?_ | refine nil_ ?_ | refine ret_ ?_ | refine cond_t rfl ?_ | refine stepY (y_assign rfl) rfl ?_ | refine stepY (y_load1 rfl rfl rfl) rfl ?_ | refine stepY (y_fieldAddr rfl) rfl ?_ | refine stepY (y_len_si rfl) rfl ?_ | refine stepY (y_build rfl rfl rfl) rfl ?_ | refine stepY (y_bin rfl rfl rfl) rfl ?_ | refine stepE (e_alloc rfl rfl rfl) ?_ | refine stepE (e_store rfl rfl rfl rfl rfl rfl rfl) ?_)
          ((apply fin_r); (repeat (first | exact .nil | exact .tmp rfl | exact .agg rfl rfl rfl | apply ResL.cons)); (repeat (exact .refl _)))
        · repeat (first | refine seq_ ?_ | refine region_ ?_ | refine nil_ ?_ | refine skip_ ?_ | refine cond_f rfl ?_ | refine guard_t rfl rfl rfl ?_ | refine guard_f rfl rfl rfl rfl ?_ | refine stepY (y_move rfl) rfl ?_ | refine stepY (y_assign rfl) rfl ?_ | refine stepY (y_load1 rfl rfl rfl) rfl ?_ | refine stepY (y_fieldAddr rfl) rfl ?_ | (first | refine stepY (y_pick_t rfl rfl) rfl ?_ | refine stepY (y_pick_f rfl rfl) rfl ?_) | (first | refine stepY (y_cmpT rfl rfl rfl (by omega)) rfl ?_ | refine stepY (y_cmpF rfl rfl rfl (by omega)) rfl ?_) | refine stepE (e_box rfl rfl rfl rfl rfl rfl) ?_ | refine stepE (e_alloc rfl rfl rfl) ?_)
          refine call_ Try.func46 rfl rfl (m0) rfl (by repeat (first | exact .refl _ | apply Les.cons | exact .nil)) rfl ?_
          repeat (first | refine seq_ ?_ | refine region_ ?_ | refine nil_ ?_ | refine ret_ ?_ | refine cond_t rfl ?_ | refine stepY (y_assign rfl) rfl ?_ | refine stepY (y_load1 rfl rfl rfl) rfl ?_ | refine stepY (y_fieldAddr rfl) rfl ?_ | refine stepY (y_len_si rfl) rfl ?_ | refine stepY (y_build rfl rfl rfl) rfl ?_ | refine stepY (y_bin rfl rfl rfl) rfl ?_ | refine stepE (e_alloc rfl rfl rfl) ?_ | refine stepE (e_store rfl rfl rfl rfl rfl rfl rfl) ?_)
          ((apply fin_r); (repeat (first | exact .nil | exact .tmp rfl | exact .agg rfl rfl rfl | apply ResL.cons)); (repeat (exact .refl _)))
      · by_cases c3 : b.1 = 0
        · have c4 : ¬ b.2.1 = 0 := fun e => hb (.inr ⟨c3, e⟩)
          repeat (first | refine seq_ ?_ | refine region_ ?_ | refine nil_ ?_ | refine skip_ ?_ | refine cond_f rfl ?_ | refine guard_t rfl rfl rfl ?_ | refine guard_f rfl rfl rfl rfl ?_ | refine stepY (y_move rfl) rfl ?_ | refine stepY (y_assign rfl) rfl ?_ | refine stepY (y_load1 rfl rfl rfl) rfl ?_ | refine stepY (y_fieldAddr rfl) rfl ?_ | (first | refine stepY (y_pick_t rfl rfl) rfl ?_ | refine stepY (y_pick_f rfl rfl) rfl ?_) | (first | refine stepY (y_cmpT rfl rfl rfl (by omega)) rfl ?_ | refine stepY (y_cmpF rfl rfl rfl (by omega)) rfl ?_) | refine stepE (e_box rfl rfl rfl rfl rfl rfl) ?_ | refine stepE (e_alloc rfl rfl rfl) ?_)
          refine call_ Try.func46 rfl rfl (m0) rfl (by repeat (first | exact .refl _ | apply Les.cons | exact .nil)) rfl ?_
          repeat (first | refine seq_ ?_ | refine region_ ?_ | refine nil_ ?_ | refine ret_ ?_ | refine cond_t rfl ?_ | refine stepY (y_assign rfl) rfl ?_ | refine stepY (y_load1 rfl rfl rfl) rfl ?_ | refine stepY (y_fieldAddr rfl) rfl ?_ | refine stepY (y_len_si rfl) rfl ?_ | refine stepY (y_build rfl rfl rfl) rfl ?_ | refine stepY (y_bin rfl rfl rfl) rfl ?_ | refine stepE (e_alloc rfl rfl rfl) ?_ | refine stepE (e_store rfl rfl rfl rfl rfl rfl rfl) ?_)
          ((apply fin_r); (repeat (first | exact .nil | exact .tmp rfl | exact .agg rfl rfl rfl | apply ResL.cons)); (repeat (exact .refl _)))
        · repeat (first | refine seq_ ?_ | refine region_ ?_ | refine nil_ ?_ | refine skip_ ?_ | refine cond_f rfl ?_ | refine guard_t rfl rfl rfl ?_ | refine guard_f rfl rfl rfl rfl ?_ | refine stepY (y_move rfl) rfl ?_ | refine stepY (y_assign rfl) rfl ?_ | refine stepY (y_load1 rfl rfl rfl) rfl ?_ | refine stepY (y_fieldAddr rfl) rfl ?_ | refine stepY (y_pick_f rfl rfl) rfl ?_ | refine stepY (y_cmpF rfl rfl rfl (by omega)) rfl ?_ | refine stepE (e_box rfl rfl rfl rfl rfl rfl) ?_ | refine stepE (e_alloc rfl rfl rfl) ?_)
          refine call_ Try.func46 rfl rfl (m0) rfl (by repeat (first | exact .refl _ | apply Les.cons | exact .nil)) rfl ?_
          repeat (first | refine seq_ ?_ | refine region_ ?_ | refine nil_ ?_ | refine ret_ ?_ | refine cond_t rfl ?_ | refine stepY (y_assign rfl) rfl ?_ | refine stepY (y_load1 rfl rfl rfl) rfl ?_ | refine stepY (y_fieldAddr rfl) rfl ?_ | refine stepY (y_len_si rfl) rfl ?_ | refine stepY (y_build rfl rfl rfl) rfl ?_ | refine stepY (y_bin rfl rfl rfl) rfl ?_ | refine stepE (e_alloc rfl rfl rfl) ?_ | refine stepE (e_store rfl rfl rfl rfl rfl rfl rfl) ?_)
          ((apply fin_r); (repeat (first | exact .nil | exact .tmp rfl | exact .agg rfl rfl rfl | apply ResL.cons)); (repeat (exact .refl _)))
    · rw [if_neg h0]
      have hl : 0 < ((limbs (detD a b).natAbs).length : Int) := by rw [limbs_length]; have := ln_pos.2 (show 0 < (detD a b).natAbs by omega); omega
      have m1 := minor_c a.2.2 a.2.1 b.2.2 b.2.1 a3 a2 b3 b2
      have l1 := det_ln a3 a2 b3 b2
      have m2 := minor_c a.1 a.2.2 b.1 b.2.2 a1 a3 b1 b3
      have l2 := det_ln a1 a3 b1 b3
      rw [show det a.2.2 a.2.1 b.2.2 b.2.1 = detX a b from rfl] at m1 l1
      rw [show det a.1 a.2.2 b.1 b.2.2 = detY a b from rfl] at m2 l2
      have n1 := New_q _ _ l1 l0 h0
      have n2 := New_q _ _ l2 l0 h0
      generalize Rat.divInt (detX a b) (detD a b) = x at *
      generalize Rat.divInt (detY a b) (detD a b) = y at *
      refine con_of Try.func22 rfl rfl rfl rfl rfl ?_
      by_cases c1 : a.1 = 0
      · have c2 : ¬ a.2.1 = 0 := fun e => hb (.inl ⟨c1, e⟩)
        by_cases c3 : b.1 = 0
        · have c4 : ¬ b.2.1 = 0 := fun e => hb (.inr ⟨c3, e⟩)
          repeat (first | refine seq_ ?_ | refine region_ ?_ | refine nil_ ?_ | refine skip_ ?_ | refine cond_f rfl ?_ | refine guard_t rfl rfl rfl ?_ | refine stepY (y_move rfl) rfl ?_ | refine stepY (y_assign rfl) rfl ?_ | refine stepY (y_load1 rfl rfl rfl) rfl ?_ | refine stepY (y_fieldAddr rfl) rfl ?_ | (first | refine stepY (y_pick_t rfl rfl) rfl ?_ | refine stepY (y_pick_f rfl rfl) rfl ?_) | (first | refine stepY (y_cmpT rfl rfl rfl (by omega)) rfl ?_ | refine stepY (y_cmpF rfl rfl rfl (by omega)) rfl ?_) | refine stepE (e_box rfl rfl rfl rfl rfl rfl) ?_ | refine stepE (e_alloc rfl rfl rfl) ?_)
          refine call_ Try.func46 rfl rfl (m0) rfl (by repeat (first | exact .refl _ | apply Les.cons | exact .nil)) rfl ?_
          repeat (first | refine seq_ ?_ | refine region_ ?_ | refine nil_ ?_ | refine skip_ ?_ | refine cond_f rfl ?_ | refine stepY (y_load1 rfl rfl rfl) rfl ?_ | refine stepY (y_fieldAddr rfl) rfl ?_ | refine stepY (y_len_si rfl) rfl ?_ | refine stepY (y_cmpF rfl rfl rfl (by omega)) rfl ?_ | refine stepE (e_alloc rfl rfl rfl) ?_ | refine stepE (e_store rfl rfl rfl rfl rfl rfl rfl) ?_)
          refine cut_ [(2, .ptr 2 0), (3, .ptr 3 0), (4, .ptr 4 0), (5, .p (E_ 0)), (6, .ptr 6 0), (7, .ptr 7 0), (8, .p (E_ 0))] [(2, .bx [I a.1, I a.2.1, I a.2.2]), (3, .bx [I b.1, I b.2.1, I b.2.2]), (4, .bx [Bo false, NL, Bo false, NL, Bo false, NL, Bo false, NL]), (6, .bx [Bo (decide (detD a b < 0)), FM (detD a b).natAbs]), (7, .bx (cQ x))] ?_ ?_
          · refine xDraw 1000 [2, 3, 4, 6] mixed ?_
            refine xY (i := 0) (op := .fieldAddr _ _ _) rfl (by (exact y_fieldAddr rfl)) rfl rfl rfl rfl (by kernel_rfl) ?_
            refine xY (i := 1) (op := .load _ _) rfl (by (exact y_load1 rfl rfl rfl)) rfl rfl rfl rfl (by kernel_rfl) ?_
            refine xY (i := 2) (op := .fieldAddr _ _ _) rfl (by (exact y_fieldAddr rfl)) rfl rfl rfl rfl (by kernel_rfl) ?_
            refine xY (i := 3) (op := .load _ _) rfl (by (exact y_load1 rfl rfl rfl)) rfl rfl rfl rfl (by kernel_rfl) ?_
            refine xY (i := 4) (op := .fieldAddr _ _ _) rfl (by (exact y_fieldAddr rfl)) rfl rfl rfl rfl (by kernel_rfl) ?_
            refine xY (i := 5) (op := .load _ _) rfl (by (exact y_load1 rfl rfl rfl)) rfl rfl rfl rfl (by kernel_rfl) ?_
            refine xY (i := 6) (op := .fieldAddr _ _ _) rfl (by (exact y_fieldAddr rfl)) rfl rfl rfl rfl (by kernel_rfl) ?_
            refine xY (i := 7) (op := .load _ _) rfl (by (exact y_load1 rfl rfl rfl)) rfl rfl rfl rfl (by kernel_rfl) ?_
            refine xY (i := 9) (op := .load _ _) rfl (by (exact y_loadA rfl rfl rfl)) rfl rfl rfl rfl (by kernel_rfl) ?_
            refine xAll (rs := [8, 14]) (by kernel_rfl) rfl ⟨?_, ?_, trivial⟩
            · (refine iC rfl Try.func46 rfl rfl (m1) rfl (by repeat (first | exact .refl _ | apply Les.cons | exact .nil)) rfl rfl ?_)
              refine xAll (rs := [10, 14]) (by kernel_rfl) rfl ⟨?_, ?_, trivial⟩
              · (refine iC rfl Try.func47 rfl rfl (n1) rfl (by repeat (first | exact .refl _ | exact .tag _ _ | apply Le.ag | apply Les.cons | exact .nil)) rfl rfl ?_)
                refine xY (i := 11) (op := .move _) rfl (by (exact y_move rfl)) rfl rfl rfl rfl (by kernel_rfl) ?_
                refine xY (i := 12) (op := .extract _ _) rfl (by (exact y_extract rfl rfl)) rfl rfl rfl rfl (by kernel_rfl) ?_
                refine xY (i := 13) (op := .extract _ _) rfl (by (exact y_extract rfl rfl)) rfl rfl rfl rfl (by kernel_rfl) ?_
                refine xAll (rs := [14]) (by kernel_rfl) rfl ⟨?_, trivial⟩
                · (refine iE rfl (e_alloc rfl rfl rfl) rfl rfl ?_)
                  refine xAll (rs := [15]) (by kernel_rfl) rfl ⟨?_, trivial⟩
                  · (refine iE rfl (e_store rfl rfl rfl rfl rfl rfl rfl) rfl rfl ?_)
                    refine xY (i := 16) (op := .assign _) rfl (by (exact y_assign rfl)) rfl rfl rfl rfl (by kernel_rfl) ?_
                    exact xEnd (by kernel_rfl) ⟨rfl, by (repeat (first | exact sub_nil | refine sub_cons rfl ?_)), by (repeat (first | exact subH_nil | refine subH_cons rfl ?_))⟩
              · (refine iE rfl (e_alloc rfl rfl rfl) rfl rfl ?_)
                refine xAll (rs := [10]) (by kernel_rfl) rfl ⟨?_, trivial⟩
                · (refine iC rfl Try.func47 rfl rfl (n1) rfl (by repeat (first | exact .refl _ | exact .tag _ _ | apply Le.ag | apply Les.cons | exact .nil)) rfl rfl ?_)
                  refine xY (i := 11) (op := .move _) rfl (by (exact y_move rfl)) rfl rfl rfl rfl (by kernel_rfl) ?_
                  refine xY (i := 12) (op := .extract _ _) rfl (by (exact y_extract rfl rfl)) rfl rfl rfl rfl (by kernel_rfl) ?_
                  refine xY (i := 13) (op := .extract _ _) rfl (by (exact y_extract rfl rfl)) rfl rfl rfl rfl (by kernel_rfl) ?_
                  refine xAll (rs := [15]) (by kernel_rfl) rfl ⟨?_, trivial⟩
                  · (refine iE rfl (e_store rfl rfl rfl rfl rfl rfl rfl) rfl rfl ?_)
                    refine xY (i := 16) (op := .assign _) rfl (by (exact y_assign rfl)) rfl rfl rfl rfl (by kernel_rfl) ?_
                    exact xEnd (by kernel_rfl) ⟨rfl, by (repeat (first | exact sub_nil | refine sub_cons rfl ?_)), by (repeat (first | exact subH_nil | refine subH_cons rfl ?_))⟩
            · (refine iE rfl (e_alloc rfl rfl rfl) rfl rfl ?_)
              refine xAll (rs := [8]) (by kernel_rfl) rfl ⟨?_, trivial⟩
              · (refine iC rfl Try.func46 rfl rfl (m1) rfl (by repeat (first | exact .refl _ | apply Les.cons | exact .nil)) rfl rfl ?_)
                refine xAll (rs := [10]) (by kernel_rfl) rfl ⟨?_, trivial⟩
                · (refine iC rfl Try.func47 rfl rfl (n1) rfl (by repeat (first | exact .refl _ | exact .tag _ _ | apply Le.ag | apply Les.cons | exact .nil)) rfl rfl ?_)
                  refine xY (i := 11) (op := .move _) rfl (by (exact y_move rfl)) rfl rfl rfl rfl (by kernel_rfl) ?_
                  refine xY (i := 12) (op := .extract _ _) rfl (by (exact y_extract rfl rfl)) rfl rfl rfl rfl (by kernel_rfl) ?_
                  refine xY (i := 13) (op := .extract _ _) rfl (by (exact y_extract rfl rfl)) rfl rfl rfl rfl (by kernel_rfl) ?_
                  refine xAll (rs := [15]) (by kernel_rfl) rfl ⟨?_, trivial⟩
                  · (refine iE rfl (e_store rfl rfl rfl rfl rfl rfl rfl) rfl rfl ?_)
                    refine xY (i := 16) (op := .assign _) rfl (by (exact y_assign rfl)) rfl rfl rfl rfl (by kernel_rfl) ?_
                    exact xEnd (by kernel_rfl) ⟨rfl, by (repeat (first | exact sub_nil | refine sub_cons rfl ?_)), by (repeat (first | exact subH_nil | refine subH_cons rfl ?_))⟩
          repeat (first | refine seq_ ?_ | refine region_ ?_ | refine nil_ ?_ | refine skip_ ?_ | refine cond_f rfl ?_ | refine stepY (y_move rfl) rfl ?_ | refine stepY (y_cmpF rfl rfl rfl (by omega)) rfl ?_)
          refine cut_ [(4, .ptr 4 0), (5, .p (E_ 0)), (7, .ptr 7 0), (8, .p (E_ 0)), (9, .ptr 9 0)] [(4, .bx [Bo false, NL, Bo false, NL, Bo false, NL, Bo false, NL]), (7, .bx (cQ x)), (9, .bx (cQ y))] ?_ ?_
          · refine xDraw 1000 [2, 3, 4, 6, 7] mixed ?_
            refine xY (i := 0) (op := .fieldAddr _ _ _) rfl (by (exact y_fieldAddr rfl)) rfl rfl rfl rfl (by kernel_rfl) ?_
            refine xY (i := 1) (op := .load _ _) rfl (by (exact y_load1 rfl rfl rfl)) rfl rfl rfl rfl (by kernel_rfl) ?_
            refine xY (i := 2) (op := .fieldAddr _ _ _) rfl (by (exact y_fieldAddr rfl)) rfl rfl rfl rfl (by kernel_rfl) ?_
            refine xY (i := 3) (op := .load _ _) rfl (by (exact y_load1 rfl rfl rfl)) rfl rfl rfl rfl (by kernel_rfl) ?_
            refine xY (i := 4) (op := .fieldAddr _ _ _) rfl (by (exact y_fieldAddr rfl)) rfl rfl rfl rfl (by kernel_rfl) ?_
            refine xY (i := 5) (op := .load _ _) rfl (by (exact y_load1 rfl rfl rfl)) rfl rfl rfl rfl (by kernel_rfl) ?_
            refine xY (i := 6) (op := .fieldAddr _ _ _) rfl (by (exact y_fieldAddr rfl)) rfl rfl rfl rfl (by kernel_rfl) ?_
            refine xY (i := 7) (op := .load _ _) rfl (by (exact y_load1 rfl rfl rfl)) rfl rfl rfl rfl (by kernel_rfl) ?_
            refine xY (i := 9) (op := .load _ _) rfl (by (exact y_loadA rfl rfl rfl)) rfl rfl rfl rfl (by kernel_rfl) ?_
            refine xAll (rs := [8, 14]) (by kernel_rfl) rfl ⟨?_, ?_, trivial⟩
            · (refine iC rfl Try.func46 rfl rfl (m2) rfl (by repeat (first | exact .refl _ | apply Les.cons | exact .nil)) rfl rfl ?_)
              refine xAll (rs := [10, 14]) (by kernel_rfl) rfl ⟨?_, ?_, trivial⟩
              · (refine iC rfl Try.func47 rfl rfl (n2) rfl (by repeat (first | exact .refl _ | exact .tag _ _ | apply Le.ag | apply Les.cons | exact .nil)) rfl rfl ?_)
                refine xY (i := 11) (op := .move _) rfl (by (exact y_move rfl)) rfl rfl rfl rfl (by kernel_rfl) ?_
                refine xY (i := 12) (op := .extract _ _) rfl (by (exact y_extract rfl rfl)) rfl rfl rfl rfl (by kernel_rfl) ?_
                refine xY (i := 13) (op := .extract _ _) rfl (by (exact y_extract rfl rfl)) rfl rfl rfl rfl (by kernel_rfl) ?_
                refine xAll (rs := [14]) (by kernel_rfl) rfl ⟨?_, trivial⟩
                · (refine iE rfl (e_alloc rfl rfl rfl) rfl rfl ?_)
                  refine xAll (rs := [15]) (by kernel_rfl) rfl ⟨?_, trivial⟩
                  · (refine iE rfl (e_store rfl rfl rfl rfl rfl rfl rfl) rfl rfl ?_)
                    refine xY (i := 16) (op := .assign _) rfl (by (exact y_assign rfl)) rfl rfl rfl rfl (by kernel_rfl) ?_
                    exact xEnd (by kernel_rfl) ⟨rfl, by (repeat (first | exact sub_nil | refine sub_cons rfl ?_)), by (repeat (first | exact subH_nil | refine subH_cons rfl ?_))⟩
              · (refine iE rfl (e_alloc rfl rfl rfl) rfl rfl ?_)
                refine xAll (rs := [10]) (by kernel_rfl) rfl ⟨?_, trivial⟩
                · (refine iC rfl Try.func47 rfl rfl (n2) rfl (by repeat (first | exact .refl _ | exact .tag _ _ | apply Le.ag | apply Les.cons | exact .nil)) rfl rfl ?_)
                  refine xY (i := 11) (op := .move _) rfl (by (exact y_move rfl)) rfl rfl rfl rfl (by kernel_rfl) ?_
                  refine xY (i := 12) (op := .extract _ _) rfl (by (exact y_extract rfl rfl)) rfl rfl rfl rfl (by kernel_rfl) ?_
                  refine xY (i := 13) (op := .extract _ _) rfl (by (exact y_extract rfl rfl)) rfl rfl rfl rfl (by kernel_rfl) ?_
                  refine xAll (rs := [15]) (by kernel_rfl) rfl ⟨?_, trivial⟩
                  · (refine iE rfl (e_store rfl rfl rfl rfl rfl rfl rfl) rfl rfl ?_)
                    refine xY (i := 16) (op := .assign _) rfl (by (exact y_assign rfl)) rfl rfl rfl rfl (by kernel_rfl) ?_
                    exact xEnd (by kernel_rfl) ⟨rfl, by (repeat (first | exact sub_nil | refine sub_cons rfl ?_)), by (repeat (first | exact subH_nil | refine subH_cons rfl ?_))⟩
            · (refine iE rfl (e_alloc rfl rfl rfl) rfl rfl ?_)
              refine xAll (rs := [8]) (by kernel_rfl) rfl ⟨?_, trivial⟩
              · (refine iC rfl Try.func46 rfl rfl (m2) rfl (by repeat (first | exact .refl _ | apply Les.cons | exact .nil)) rfl rfl ?_)
                refine xAll (rs := [10]) (by kernel_rfl) rfl ⟨?_, trivial⟩
                · (refine iC rfl Try.func47 rfl rfl (n2) rfl (by repeat (first | exact .refl _ | exact .tag _ _ | apply Le.ag | apply Les.cons | exact .nil)) rfl rfl ?_)
                  refine xY (i := 11) (op := .move _) rfl (by (exact y_move rfl)) rfl rfl rfl rfl (by kernel_rfl) ?_
                  refine xY (i := 12) (op := .extract _ _) rfl (by (exact y_extract rfl rfl)) rfl rfl rfl rfl (by kernel_rfl) ?_
                  refine xY (i := 13) (op := .extract _ _) rfl (by (exact y_extract rfl rfl)) rfl rfl rfl rfl (by kernel_rfl) ?_
                  refine xAll (rs := [15]) (by kernel_rfl) rfl ⟨?_, trivial⟩
                  · (refine iE rfl (e_store rfl rfl rfl rfl rfl rfl rfl) rfl rfl ?_)
                    refine xY (i := 16) (op := .assign _) rfl (by (exact y_assign rfl)) rfl rfl rfl rfl (by kernel_rfl) ?_
                    exact xEnd (by kernel_rfl) ⟨rfl, by (repeat (first | exact sub_nil | refine sub_cons rfl ?_)), by (repeat (first | exact subH_nil | refine subH_cons rfl ?_))⟩
          repeat (first | refine seq_ ?_ | refine region_ ?_ | refine nil_ ?_ | refine skip_ ?_ | refine ret_ ?_ | refine cond_f rfl ?_ | refine stepY (y_move rfl) rfl ?_ | refine stepY (y_assign rfl) rfl ?_ | refine stepY (y_loadA rfl rfl rfl) rfl ?_ | refine stepY (y_build rfl rfl rfl) rfl ?_ | refine stepY (y_cmpF rfl rfl rfl (by omega)) rfl ?_ | refine stepE (e_store rfl rfl rfl rfl rfl rfl rfl) ?_)
          ((apply fin_r); (repeat (first | exact .nil | exact .tmp rfl | exact .agg rfl rfl rfl | apply ResL.cons)); (repeat (exact .refl _)))
        · repeat (first | refine seq_ ?_ | refine region_ ?_ | refine nil_ ?_ | refine skip_ ?_ | refine cond_f rfl ?_ | refine guard_t rfl rfl rfl ?_ | refine guard_f rfl rfl rfl rfl ?_ | refine stepY (y_move rfl) rfl ?_ | refine stepY (y_assign rfl) rfl ?_ | refine stepY (y_load1 rfl rfl rfl) rfl ?_ | refine stepY (y_fieldAddr rfl) rfl ?_ | (first | refine stepY (y_pick_t rfl rfl) rfl ?_ | refine stepY (y_pick_f rfl rfl) rfl ?_) | (first | refine stepY (y_cmpT rfl rfl rfl (by omega)) rfl ?_ | refine stepY (y_cmpF rfl rfl rfl (by omega)) rfl ?_) | refine stepE (e_box rfl rfl rfl rfl rfl rfl) ?_ | refine stepE (e_alloc rfl rfl rfl) ?_)
          refine call_ Try.func46 rfl rfl (m0) rfl (by repeat (first | exact .refl _ | apply Les.cons | exact .nil)) rfl ?_
          repeat (first | refine seq_ ?_ | refine region_ ?_ | refine nil_ ?_ | refine skip_ ?_ | refine cond_f rfl ?_ | refine stepY (y_load1 rfl rfl rfl) rfl ?_ | refine stepY (y_fieldAddr rfl) rfl ?_ | refine stepY (y_len_si rfl) rfl ?_ | refine stepY (y_cmpF rfl rfl rfl (by omega)) rfl ?_ | refine stepE (e_alloc rfl rfl rfl) ?_ | refine stepE (e_store rfl rfl rfl rfl rfl rfl rfl) ?_)
          refine cut_ [(2, .ptr 2 0), (3, .ptr 3 0), (4, .ptr 4 0), (5, .p (E_ 0)), (6, .ptr 6 0), (7, .ptr 7 0), (8, .p (E_ 0))] [(2, .bx [I a.1, I a.2.1, I a.2.2]), (3, .bx [I b.1, I b.2.1, I b.2.2]), (4, .bx [Bo false, NL, Bo false, NL, Bo false, NL, Bo false, NL]), (6, .bx [Bo (decide (detD a b < 0)), FM (detD a b).natAbs]), (7, .bx (cQ x))] ?_ ?_
          · refine xDraw 1000 [2, 3, 4, 6] mixed ?_
            refine xY (i := 0) (op := .fieldAddr _ _ _) rfl (by (exact y_fieldAddr rfl)) rfl rfl rfl rfl (by kernel_rfl) ?_
            refine xY (i := 1) (op := .load _ _) rfl (by (exact y_load1 rfl rfl rfl)) rfl rfl rfl rfl (by kernel_rfl) ?_
            refine xY (i := 2) (op := .fieldAddr _ _ _) rfl (by (exact y_fieldAddr rfl)) rfl rfl rfl rfl (by kernel_rfl) ?_
            refine xY (i := 3) (op := .load _ _) rfl (by (exact y_load1 rfl rfl rfl)) rfl rfl rfl rfl (by kernel_rfl) ?_
            refine xY (i := 4) (op := .fieldAddr _ _ _) rfl (by (exact y_fieldAddr rfl)) rfl rfl rfl rfl (by kernel_rfl) ?_
            refine xY (i := 5) (op := .load _ _) rfl (by (exact y_load1 rfl rfl rfl)) rfl rfl rfl rfl (by kernel_rfl) ?_
            refine xY (i := 6) (op := .fieldAddr _ _ _) rfl (by (exact y_fieldAddr rfl)) rfl rfl rfl rfl (by kernel_rfl) ?_
            refine xY (i := 7) (op := .load _ _) rfl (by (exact y_load1 rfl rfl rfl)) rfl rfl rfl rfl (by kernel_rfl) ?_
            refine xY (i := 9) (op := .load _ _) rfl (by (exact y_loadA rfl rfl rfl)) rfl rfl rfl rfl (by kernel_rfl) ?_
            refine xAll (rs := [8, 14]) (by kernel_rfl) rfl ⟨?_, ?_, trivial⟩
            · (refine iC rfl Try.func46 rfl rfl (m1) rfl (by repeat (first | exact .refl _ | apply Les.cons | exact .nil)) rfl rfl ?_)
              refine xAll (rs := [10, 14]) (by kernel_rfl) rfl ⟨?_, ?_, trivial⟩
              · (refine iC rfl Try.func47 rfl rfl (n1) rfl (by repeat (first | exact .refl _ | exact .tag _ _ | apply Le.ag | apply Les.cons | exact .nil)) rfl rfl ?_)
                refine xY (i := 11) (op := .move _) rfl (by (exact y_move rfl)) rfl rfl rfl rfl (by kernel_rfl) ?_
                refine xY (i := 12) (op := .extract _ _) rfl (by (exact y_extract rfl rfl)) rfl rfl rfl rfl (by kernel_rfl) ?_
                refine xY (i := 13) (op := .extract _ _) rfl (by (exact y_extract rfl rfl)) rfl rfl rfl rfl (by kernel_rfl) ?_
                refine xAll (rs := [14]) (by kernel_rfl) rfl ⟨?_, trivial⟩
                · (refine iE rfl (e_alloc rfl rfl rfl) rfl rfl ?_)
                  refine xAll (rs := [15]) (by kernel_rfl) rfl ⟨?_, trivial⟩
                  · (refine iE rfl (e_store rfl rfl rfl rfl rfl rfl rfl) rfl rfl ?_)
                    refine xY (i := 16) (op := .assign _) rfl (by (exact y_assign rfl)) rfl rfl rfl rfl (by kernel_rfl) ?_
                    exact xEnd (by kernel_rfl) ⟨rfl, by (repeat (first | exact sub_nil | refine sub_cons rfl ?_)), by (repeat (first | exact subH_nil | refine subH_cons rfl ?_))⟩
              · (refine iE rfl (e_alloc rfl rfl rfl) rfl rfl ?_)
                refine xAll (rs := [10]) (by kernel_rfl) rfl ⟨?_, trivial⟩
                · (refine iC rfl Try.func47 rfl rfl (n1) rfl (by repeat (first | exact .refl _ | exact .tag _ _ | apply Le.ag | apply Les.cons | exact .nil)) rfl rfl ?_)
                  refine xY (i := 11) (op := .move _) rfl (by (exact y_move rfl)) rfl rfl rfl rfl (by kernel_rfl) ?_
                  refine xY (i := 12) (op := .extract _ _) rfl (by (exact y_extract rfl rfl)) rfl rfl rfl rfl (by kernel_rfl) ?_
                  refine xY (i := 13) (op := .extract _ _) rfl (by (exact y_extract rfl rfl)) rfl rfl rfl rfl (by kernel_rfl) ?_
                  refine xAll (rs := [15]) (by kernel_rfl) rfl ⟨?_, trivial⟩
                  · (refine iE rfl (e_store rfl rfl rfl rfl rfl rfl rfl) rfl rfl ?_)
                    refine xY (i := 16) (op := .assign _) rfl (by (exact y_assign rfl)) rfl rfl rfl rfl (by kernel_rfl) ?_
                    exact xEnd (by kernel_rfl) ⟨rfl, by (repeat (first | exact sub_nil | refine sub_cons rfl ?_)), by (repeat (first | exact subH_nil | refine subH_cons rfl ?_))⟩
            · (refine iE rfl (e_alloc rfl rfl rfl) rfl rfl ?_)
              refine xAll (rs := [8]) (by kernel_rfl) rfl ⟨?_, trivial⟩
              · (refine iC rfl Try.func46 rfl rfl (m1) rfl (by repeat (first | exact .refl _ | apply Les.cons | exact .nil)) rfl rfl ?_)
                refine xAll (rs := [10]) (by kernel_rfl) rfl ⟨?_, trivial⟩
                · (refine iC rfl Try.func47 rfl rfl (n1) rfl (by repeat (first | exact .refl _ | exact .tag _ _ | apply Le.ag | apply Les.cons | exact .nil)) rfl rfl ?_)
                  refine xY (i := 11) (op := .move _) rfl (by (exact y_move rfl)) rfl rfl rfl rfl (by kernel_rfl) ?_
                  refine xY (i := 12) (op := .extract _ _) rfl (by (exact y_extract rfl rfl)) rfl rfl rfl rfl (by kernel_rfl) ?_
                  refine xY (i := 13) (op := .extract _ _) rfl (by (exact y_extract rfl rfl)) rfl rfl rfl rfl (by kernel_rfl) ?_
                  refine xAll (rs := [15]) (by kernel_rfl) rfl ⟨?_, trivial⟩
                  · (refine iE rfl (e_store rfl rfl rfl rfl rfl rfl rfl) rfl rfl ?_)
                    refine xY (i := 16) (op := .assign _) rfl (by (exact y_assign rfl)) rfl rfl rfl rfl (by kernel_rfl) ?_
                    exact xEnd (by kernel_rfl) ⟨rfl, by (repeat (first | exact sub_nil | refine sub_cons rfl ?_)), by (repeat (first | exact subH_nil | refine subH_cons rfl ?_))⟩
          repeat (first | refine seq_ ?_ | refine region_ ?_ | refine nil_ ?_ | refine skip_ ?_ | refine cond_f rfl ?_ | refine stepY (y_move rfl) rfl ?_ | refine stepY (y_cmpF rfl rfl rfl (by omega)) rfl ?_)
          refine cut_ [(4, .ptr 4 0), (5, .p (E_ 0)), (7, .ptr 7 0), (8, .p (E_ 0)), (9, .ptr 9 0)] [(4, .bx [Bo false, NL, Bo false, NL, Bo false, NL, Bo false, NL]), (7, .bx (cQ x)), (9, .bx (cQ y))] ?_ ?_
          · refine xDraw 1000 [2, 3, 4, 6, 7] mixed ?_
            refine xY (i := 0) (op := .fieldAddr _ _ _) rfl (by (exact y_fieldAddr rfl)) rfl rfl rfl rfl (by kernel_rfl) ?_
            refine xY (i := 1) (op := .load _ _) rfl (by (exact y_load1 rfl rfl rfl)) rfl rfl rfl rfl (by kernel_rfl) ?_
            refine xY (i := 2) (op := .fieldAddr _ _ _) rfl (by (exact y_fieldAddr rfl)) rfl rfl rfl rfl (by kernel_rfl) ?_
            refine xY (i := 3) (op := .load _ _) rfl (by (exact y_load1 rfl rfl rfl)) rfl rfl rfl rfl (by kernel_rfl) ?_
            refine xY (i := 4) (op := .fieldAddr _ _ _) rfl (by (exact y_fieldAddr rfl)) rfl rfl rfl rfl (by kernel_rfl) ?_
            refine xY (i := 5) (op := .load _ _) rfl (by (exact y_load1 rfl rfl rfl)) rfl rfl rfl rfl (by kernel_rfl) ?_
            refine xY (i := 6) (op := .fieldAddr _ _ _) rfl (by (exact y_fieldAddr rfl)) rfl rfl rfl rfl (by kernel_rfl) ?_
            refine xY (i := 7) (op := .load _ _) rfl (by (exact y_load1 rfl rfl rfl)) rfl rfl rfl rfl (by kernel_rfl) ?_
            refine xY (i := 9) (op := .load _ _) rfl (by (exact y_loadA rfl rfl rfl)) rfl rfl rfl rfl (by kernel_rfl) ?_
            refine xAll (rs := [8, 14]) (by kernel_rfl) rfl ⟨?_, ?_, trivial⟩
            · (refine iC rfl Try.func46 rfl rfl (m2) rfl (by repeat (first | exact .refl _ | apply Les.cons | exact .nil)) rfl rfl ?_)
              refine xAll (rs := [10, 14]) (by kernel_rfl) rfl ⟨?_, ?_, trivial⟩
              · (refine iC rfl Try.func47 rfl rfl (n2) rfl (by repeat (first | exact .refl _ | exact .tag _ _ | apply Le.ag | apply Les.cons | exact .nil)) rfl rfl ?_)
                refine xY (i := 11) (op := .move _) rfl (by (exact y_move rfl)) rfl rfl rfl rfl (by kernel_rfl) ?_
                refine xY (i := 12) (op := .extract _ _) rfl (by (exact y_extract rfl rfl)) rfl rfl rfl rfl (by kernel_rfl) ?_
                refine xY (i := 13) (op := .extract _ _) rfl (by (exact y_extract rfl rfl)) rfl rfl rfl rfl (by kernel_rfl) ?_
                refine xAll (rs := [14]) (by kernel_rfl) rfl ⟨?_, trivial⟩
                · (refine iE rfl (e_alloc rfl rfl rfl) rfl rfl ?_)
                  refine xAll (rs := [15]) (by kernel_rfl) rfl ⟨?_, trivial⟩
                  · (refine iE rfl (e_store rfl rfl rfl rfl rfl rfl rfl) rfl rfl ?_)
                    refine xY (i := 16) (op := .assign _) rfl (by (exact y_assign rfl)) rfl rfl rfl rfl (by kernel_rfl) ?_
                    exact xEnd (by kernel_rfl) ⟨rfl, by (repeat (first | exact sub_nil | refine sub_cons rfl ?_)), by (repeat (first | exact subH_nil | refine subH_cons rfl ?_))⟩
              · (refine iE rfl (e_alloc rfl rfl rfl) rfl rfl ?_)
                refine xAll (rs := [10]) (by kernel_rfl) rfl ⟨?_, trivial⟩
                · (refine iC rfl Try.func47 rfl rfl (n2) rfl (by repeat (first | exact .refl _ | exact .tag _ _ | apply Le.ag | apply Les.cons | exact .nil)) rfl rfl ?_)
                  refine xY (i := 11) (op := .move _) rfl (by (exact y_move rfl)) rfl rfl rfl rfl (by kernel_rfl) ?_
                  refine xY (i := 12) (op := .extract _ _) rfl (by (exact y_extract rfl rfl)) rfl rfl rfl rfl (by kernel_rfl) ?_
                  refine xY (i := 13) (op := .extract _ _) rfl (by (exact y_extract rfl rfl)) rfl rfl rfl rfl (by kernel_rfl) ?_
                  refine xAll (rs := [15]) (by kernel_rfl) rfl ⟨?_, trivial⟩
                  · (refine iE rfl (e_store rfl rfl rfl rfl rfl rfl rfl) rfl rfl ?_)
                    refine xY (i := 16) (op := .assign _) rfl (by (exact y_assign rfl)) rfl rfl rfl rfl (by kernel_rfl) ?_
                    exact xEnd (by kernel_rfl) ⟨rfl, by (repeat (first | exact sub_nil | refine sub_cons rfl ?_)), by (repeat (first | exact subH_nil | refine subH_cons rfl ?_))⟩
            · (refine iE rfl (e_alloc rfl rfl rfl) rfl rfl ?_)
              refine xAll (rs := [8]) (by kernel_rfl) rfl ⟨?_, trivial⟩
              · (refine iC rfl Try.func46 rfl rfl (m2) rfl (by repeat (first | exact .refl _ | apply Les.cons | exact .nil)) rfl rfl ?_)
                refine xAll (rs := [10]) (by kernel_rfl) rfl ⟨?_, trivial⟩
                · (refine iC rfl Try.func47 rfl rfl (n2) rfl (by repeat (first | exact .refl _ | exact .tag _ _ | apply Le.ag | apply Les.cons | exact .nil)) rfl rfl ?_)
                  refine xY (i := 11) (op := .move _) rfl (by (exact y_move rfl)) rfl rfl rfl rfl (by kernel_rfl) ?_
                  refine xY (i := 12) (op := .extract _ _) rfl (by (exact y_extract rfl rfl)) rfl rfl rfl rfl (by kernel_rfl) ?_
                  refine xY (i := 13) (op := .extract _ _) rfl (by (exact y_extract rfl rfl)) rfl rfl rfl rfl (by kernel_rfl) ?_
                  refine xAll (rs := [15]) (by kernel_rfl) rfl ⟨?_, trivial⟩
                  · (refine iE rfl (e_store rfl rfl rfl rfl rfl rfl rfl) rfl rfl ?_)
                    refine xY (i := 16) (op := .assign _) rfl (by (exact y_assign rfl)) rfl rfl rfl rfl (by kernel_rfl) ?_
                    exact xEnd (by kernel_rfl) ⟨rfl, by (repeat (first | exact sub_nil | refine sub_cons rfl ?_)), by (repeat (first | exact subH_nil | refine subH_cons rfl ?_))⟩
          repeat (first | refine seq_ ?_ | refine region_ ?_ | refine nil_ ?_ | refine skip_ ?_ | refine ret_ ?_ | refine cond_f rfl ?_ | refine stepY (y_move rfl) rfl ?_ | refine stepY (y_assign rfl) rfl ?_ | refine stepY (y_loadA rfl rfl rfl) rfl ?_ | refine stepY (y_build rfl rfl rfl) rfl ?_ | refine stepY (y_cmpF rfl rfl rfl (by omega)) rfl ?_ | refine stepE (e_store rfl rfl rfl rfl rfl rfl rfl) ?_)
          ((apply fin_r); (repeat (first | exact .nil | exact .tmp rfl | exact .agg rfl rfl rfl | apply ResL.cons)); (repeat (exact .refl _)))
      · by_cases c3 : b.1 = 0
        · have c4 : ¬ b.2.1 = 0 := fun e => hb (.inr ⟨c3, e⟩)
          repeat (first | refine seq_ ?_ | refine region_ ?_ | refine nil_ ?_ | refine skip_ ?_ | refine cond_f rfl ?_ | refine guard_t rfl rfl rfl ?_ | refine guard_f rfl rfl rfl rfl ?_ | refine stepY (y_move rfl) rfl ?_ | refine stepY (y_assign rfl) rfl ?_ | refine stepY (y_load1 rfl rfl rfl) rfl ?_ | refine stepY (y_fieldAddr rfl) rfl ?_ | (first | refine stepY (y_pick_t rfl rfl) rfl ?_ | refine stepY (y_pick_f rfl rfl) rfl ?_) | (first | refine stepY (y_cmpT rfl rfl rfl (by omega)) rfl ?_ | refine stepY (y_cmpF rfl rfl rfl (by omega)) rfl ?_) | refine stepE (e_box rfl rfl rfl rfl rfl rfl) ?_ | refine stepE (e_alloc rfl rfl rfl) ?_)
          refine call_ Try.func46 rfl rfl (m0) rfl (by repeat (first | exact .refl _ | apply Les.cons | exact .nil)) rfl ?_
          repeat (first | refine seq_ ?_ | refine region_ ?_ | refine nil_ ?_ | refine skip_ ?_ | refine cond_f rfl ?_ | refine stepY (y_load1 rfl rfl rfl) rfl ?_ | refine stepY (y_fieldAddr rfl) rfl ?_ | refine stepY (y_len_si rfl) rfl ?_ | refine stepY (y_cmpF rfl rfl rfl (by omega)) rfl ?_ | refine stepE (e_alloc rfl rfl rfl) ?_ | refine stepE (e_store rfl rfl rfl rfl rfl rfl rfl) ?_)
          refine cut_ [(2, .ptr 2 0), (3, .ptr 3 0), (4, .ptr 4 0), (5, .p (E_ 0)), (6, .ptr 6 0), (7, .ptr 7 0), (8, .p (E_ 0))] [(2, .bx [I a.1, I a.2.1, I a.2.2]), (3, .bx [I b.1, I b.2.1, I b.2.2]), (4, .bx [Bo false, NL, Bo false, NL, Bo false, NL, Bo false, NL]), (6, .bx [Bo (decide (detD a b < 0)), FM (detD a b).natAbs]), (7, .bx (cQ x))] ?_ ?_
          · refine xDraw 1000 [2, 3, 4, 6] mixed ?_
            refine xY (i := 0) (op := .fieldAddr _ _ _) rfl (by (exact y_fieldAddr rfl)) rfl rfl rfl rfl (by kernel_rfl) ?_
            refine xY (i := 1) (op := .load _ _) rfl (by (exact y_load1 rfl rfl rfl)) rfl rfl rfl rfl (by kernel_rfl) ?_
            refine xY (i := 2) (op := .fieldAddr _ _ _) rfl (by (exact y_fieldAddr rfl)) rfl rfl rfl rfl (by kernel_rfl) ?_
            refine xY (i := 3) (op := .load _ _) rfl (by (exact y_load1 rfl rfl rfl)) rfl rfl rfl rfl (by kernel_rfl) ?_
            refine xY (i := 4) (op := .fieldAddr _ _ _) rfl (by (exact y_fieldAddr rfl)) rfl rfl rfl rfl (by kernel_rfl) ?_
            refine xY (i := 5) (op := .load _ _) rfl (by (exact y_load1 rfl rfl rfl)) rfl rfl rfl rfl (by kernel_rfl) ?_
            refine xY (i := 6) (op := .fieldAddr _ _ _) rfl (by (exact y_fieldAddr rfl)) rfl rfl rfl rfl (by kernel_rfl) ?_
            refine xY (i := 7) (op := .load _ _) rfl (by (exact y_load1 rfl rfl rfl)) rfl rfl rfl rfl (by kernel_rfl) ?_
            refine xY (i := 9) (op := .load _ _) rfl (by (exact y_loadA rfl rfl rfl)) rfl rfl rfl rfl (by kernel_rfl) ?_
            refine xAll (rs := [8, 14]) (by kernel_rfl) rfl ⟨?_, ?_, trivial⟩
            · (refine iC rfl Try.func46 rfl rfl (m1) rfl (by repeat (first | exact .refl _ | apply Les.cons | exact .nil)) rfl rfl ?_)
              refine xAll (rs := [10, 14]) (by kernel_rfl) rfl ⟨?_, ?_, trivial⟩
              · (refine iC rfl Try.func47 rfl rfl (n1) rfl (by repeat (first | exact .refl _ | exact .tag _ _ | apply Le.ag | apply Les.cons | exact .nil)) rfl rfl ?_)
                refine xY (i := 11) (op := .move _) rfl (by (exact y_move rfl)) rfl rfl rfl rfl (by kernel_rfl) ?_
                refine xY (i := 12) (op := .extract _ _) rfl (by (exact y_extract rfl rfl)) rfl rfl rfl rfl (by kernel_rfl) ?_
                refine xY (i := 13) (op := .extract _ _) rfl (by (exact y_extract rfl rfl)) rfl rfl rfl rfl (by kernel_rfl) ?_
                refine xAll (rs := [14]) (by kernel_rfl) rfl ⟨?_, trivial⟩
                · (refine iE rfl (e_alloc rfl rfl rfl) rfl rfl ?_)
                  refine xAll (rs := [15]) (by kernel_rfl) rfl ⟨?_, trivial⟩
                  · (refine iE rfl (e_store rfl rfl rfl rfl rfl rfl rfl) rfl rfl ?_)
                    refine xY (i := 16) (op := .assign _) rfl (by (exact y_assign rfl)) rfl rfl rfl rfl (by kernel_rfl) ?_
                    exact xEnd (by kernel_rfl) ⟨rfl, by (repeat (first | exact sub_nil | refine sub_cons rfl ?_)), by (repeat (first | exact subH_nil | refine subH_cons rfl ?_))⟩
              · (refine iE rfl (e_alloc rfl rfl rfl) rfl rfl ?_)
                refine xAll (rs := [10]) (by kernel_rfl) rfl ⟨?_, trivial⟩
                · (refine iC rfl Try.func47 rfl rfl (n1) rfl (by repeat (first | exact .refl _ | exact .tag _ _ | apply Le.ag | apply Les.cons | exact .nil)) rfl rfl ?_)
                  refine xY (i := 11) (op := .move _) rfl (by (exact y_move rfl)) rfl rfl rfl rfl (by kernel_rfl) ?_
                  refine xY (i := 12) (op := .extract _ _) rfl (by (exact y_extract rfl rfl)) rfl rfl rfl rfl (by kernel_rfl) ?_
                  refine xY (i := 13) (op := .extract _ _) rfl (by (exact y_extract rfl rfl)) rfl rfl rfl rfl (by kernel_rfl) ?_
                  refine xAll (rs := [15]) (by kernel_rfl) rfl ⟨?_, trivial⟩
                  · (refine iE rfl (e_store rfl rfl rfl rfl rfl rfl rfl) rfl rfl ?_)
                    refine xY (i := 16) (op := .assign _) rfl (by (exact y_assign rfl)) rfl rfl rfl rfl (by kernel_rfl) ?_
                    exact xEnd (by kernel_rfl) ⟨rfl, by (repeat (first | exact sub_nil | refine sub_cons rfl ?_)), by (repeat (first | exact subH_nil | refine subH_cons rfl ?_))⟩
            · (refine iE rfl (e_alloc rfl rfl rfl) rfl rfl ?_)
              refine xAll (rs := [8]) (by kernel_rfl) rfl ⟨?_, trivial⟩
              · (refine iC rfl Try.func46 rfl rfl (m1) rfl (by repeat (first | exact .refl _ | apply Les.cons | exact .nil)) rfl rfl ?_)
                refine xAll (rs := [10]) (by kernel_rfl) rfl ⟨?_, trivial⟩
                · (refine iC rfl Try.func47 rfl rfl (n1) rfl (by repeat (first | exact .refl _ | exact .tag _ _ | apply Le.ag | apply Les.cons | exact .nil)) rfl rfl ?_)
                  refine xY (i := 11) (op := .move _) rfl (by (exact y_move rfl)) rfl rfl rfl rfl (by kernel_rfl) ?_
                  refine xY (i := 12) (op := .extract _ _) rfl (by (exact y_extract rfl rfl)) rfl rfl rfl rfl (by kernel_rfl) ?_
                  refine xY (i := 13) (op := .extract _ _) rfl (by (exact y_extract rfl rfl)) rfl rfl rfl rfl (by kernel_rfl) ?_
                  refine xAll (rs := [15]) (by kernel_rfl) rfl ⟨?_, trivial⟩
                  · (refine iE rfl (e_store rfl rfl rfl rfl rfl rfl rfl) rfl rfl ?_)
                    refine xY (i := 16) (op := .assign _) rfl (by (exact y_assign rfl)) rfl rfl rfl rfl (by kernel_rfl) ?_
                    exact xEnd (by kernel_rfl) ⟨rfl, by (repeat (first | exact sub_nil | refine sub_cons rfl ?_)), by (repeat (first | exact subH_nil | refine subH_cons rfl ?_))⟩
          repeat (first | refine seq_ ?_ | refine region_ ?_ | refine nil_ ?_ | refine skip_ ?_ | refine cond_f rfl ?_ | refine stepY (y_move rfl) rfl ?_ | refine stepY (y_cmpF rfl rfl rfl (by omega)) rfl ?_)
          refine cut_ [(4, .ptr 4 0), (5, .p (E_ 0)), (7, .ptr 7 0), (8, .p (E_ 0)), (9, .ptr 9 0)] [(4, .bx [Bo false, NL, Bo false, NL, Bo false, NL, Bo false, NL]), (7, .bx (cQ x)), (9, .bx (cQ y))] ?_ ?_
          · refine xDraw 1000 [2, 3, 4, 6, 7] mixed ?_
            refine xY (i := 0) (op := .fieldAddr _ _ _) rfl (by (exact y_fieldAddr rfl)) rfl rfl rfl rfl (by kernel_rfl) ?_
            refine xY (i := 1) (op := .load _ _) rfl (by (exact y_load1 rfl rfl rfl)) rfl rfl rfl rfl (by kernel_rfl) ?_
            refine xY (i := 2) (op := .fieldAddr _ _ _) rfl (by (exact y_fieldAddr rfl)) rfl rfl rfl rfl (by kernel_rfl) ?_
            refine xY (i := 3) (op := .load _ _) rfl (by (exact y_load1 rfl rfl rfl)) rfl rfl rfl rfl (by kernel_rfl) ?_
            refine xY (i := 4) (op := .fieldAddr _ _ _) rfl (by (exact y_fieldAddr rfl)) rfl rfl rfl rfl (by kernel_rfl) ?_
            refine xY (i := 5) (op := .load _ _) rfl (by (exact y_load1 rfl rfl rfl)) rfl rfl rfl rfl (by kernel_rfl) ?_
            refine xY (i := 6) (op := .fieldAddr _ _ _) rfl (by (exact y_fieldAddr rfl)) rfl rfl rfl rfl (by kernel_rfl) ?_
            refine xY (i := 7) (op := .load _ _) rfl (by (exact y_load1 rfl rfl rfl)) rfl rfl rfl rfl (by kernel_rfl) ?_
            refine xY (i := 9) (op := .load _ _) rfl (by (exact y_loadA rfl rfl rfl)) rfl rfl rfl rfl (by kernel_rfl) ?_
            refine xAll (rs := [8, 14]) (by kernel_rfl) rfl ⟨?_, ?_, trivial⟩
            · (refine iC rfl Try.func46 rfl rfl (m2) rfl (by repeat (first | exact .refl _ | apply Les.cons | exact .nil)) rfl rfl ?_)
              refine xAll (rs := [10, 14]) (by kernel_rfl) rfl ⟨?_, ?_, trivial⟩
              · (refine iC rfl Try.func47 rfl rfl (n2) rfl (by repeat (first | exact .refl _ | exact .tag _ _ | apply Le.ag | apply Les.cons | exact .nil)) rfl rfl ?_)
                refine xY (i := 11) (op := .move _) rfl (by (exact y_move rfl)) rfl rfl rfl rfl (by kernel_rfl) ?_
                refine xY (i := 12) (op := .extract _ _) rfl (by (exact y_extract rfl rfl)) rfl rfl rfl rfl (by kernel_rfl) ?_
                refine xY (i := 13) (op := .extract _ _) rfl (by (exact y_extract rfl rfl)) rfl rfl rfl rfl (by kernel_rfl) ?_
                refine xAll (rs := [14]) (by kernel_rfl) rfl ⟨?_, trivial⟩
                · (refine iE rfl (e_alloc rfl rfl rfl) rfl rfl ?_)
                  refine xAll (rs := [15]) (by kernel_rfl) rfl ⟨?_, trivial⟩
                  · (refine iE rfl (e_store rfl rfl rfl rfl rfl rfl rfl) rfl rfl ?_)
                    refine xY (i := 16) (op := .assign _) rfl (by (exact y_assign rfl)) rfl rfl rfl rfl (by kernel_rfl) ?_
                    exact xEnd (by kernel_rfl) ⟨rfl, by (repeat (first | exact sub_nil | refine sub_cons rfl ?_)), by (repeat (first | exact subH_nil | refine subH_cons rfl ?_))⟩
              · (refine iE rfl (e_alloc rfl rfl rfl) rfl rfl ?_)
                refine xAll (rs := [10]) (by kernel_rfl) rfl ⟨?_, trivial⟩
                · (refine iC rfl Try.func47 rfl rfl (n2) rfl (by repeat (first | exact .refl _ | exact .tag _ _ | apply Le.ag | apply Les.cons | exact .nil)) rfl rfl ?_)
                  refine xY (i := 11) (op := .move _) rfl (by (exact y_move rfl)) rfl rfl rfl rfl (by kernel_rfl) ?_
                  refine xY (i := 12) (op := .extract _ _) rfl (by (exact y_extract rfl rfl)) rfl rfl rfl rfl (by kernel_rfl) ?_
                  refine xY (i := 13) (op := .extract _ _) rfl (by (exact y_extract rfl rfl)) rfl rfl rfl rfl (by kernel_rfl) ?_
                  refine xAll (rs := [15]) (by kernel_rfl) rfl ⟨?_, trivial⟩
                  · (refine iE rfl (e_store rfl rfl rfl rfl rfl rfl rfl) rfl rfl ?_)
                    refine xY (i := 16) (op := .assign _) rfl (by (exact y_assign rfl)) rfl rfl rfl rfl (by kernel_rfl) ?_
                    exact xEnd (by kernel_rfl) ⟨rfl, by (repeat (first | exact sub_nil | refine sub_cons rfl ?_)), by (repeat (first | exact subH_nil | refine subH_cons rfl ?_))⟩
            · (refine iE rfl (e_alloc rfl rfl rfl) rfl rfl ?_)
              refine xAll (rs := [8]) (by kernel_rfl) rfl ⟨?_, trivial⟩
              · (refine iC rfl Try.func46 rfl rfl (m2) rfl (by repeat (first | exact .refl _ | apply Les.cons | exact .nil)) rfl rfl ?_)
                refine xAll (rs := [10]) (by kernel_rfl) rfl ⟨?_, trivial⟩
                · (refine iC rfl Try.func47 rfl rfl (n2) rfl (by repeat (first | exact .refl _ | exact .tag _ _ | apply Le.ag | apply Les.cons | exact .nil)) rfl rfl ?_)
                  refine xY (i := 11) (op := .move _) rfl (by (exact y_move rfl)) rfl rfl rfl rfl (by kernel_rfl) ?_
                  refine xY (i := 12) (op := .extract _ _) rfl (by (exact y_extract rfl rfl)) rfl rfl rfl rfl (by kernel_rfl) ?_
                  refine xY (i := 13) (op := .extract _ _) rfl (by (exact y_extract rfl rfl)) rfl rfl rfl rfl (by kernel_rfl) ?_
                  refine xAll (rs := [15]) (by kernel_rfl) rfl ⟨?_, trivial⟩
                  · (refine iE rfl (e_store rfl rfl rfl rfl rfl rfl rfl) rfl rfl ?_)
                    refine xY (i := 16) (op := .assign _) rfl (by (exact y_assign rfl)) rfl rfl rfl rfl (by kernel_rfl) ?_
                    exact xEnd (by kernel_rfl) ⟨rfl, by (repeat (first | exact sub_nil | refine sub_cons rfl ?_)), by (repeat (first | exact subH_nil | refine subH_cons rfl ?_))⟩
          repeat (first | refine seq_ ?_ | refine region_ ?_ | refine nil_ ?_ | refine skip_ ?_ | refine ret_ ?_ | refine cond_f rfl ?_ | refine stepY (y_move rfl) rfl ?_ | refine stepY (y_assign rfl) rfl ?_ | refine stepY (y_loadA rfl rfl rfl) rfl ?_ | refine stepY (y_build rfl rfl rfl) rfl ?_ | refine stepY (y_cmpF rfl rfl rfl (by omega)) rfl ?_ | refine stepE (e_store rfl rfl rfl rfl rfl rfl rfl) ?_)
          ((apply fin_r); (repeat (first | exact .nil | exact .tmp rfl | exact .agg rfl rfl rfl | apply ResL.cons)); (repeat (exact .refl _)))
        · repeat (first | refine seq_ ?_ | refine region_ ?_ | refine nil_ ?_ | refine skip_ ?_ | refine cond_f rfl ?_ | refine guard_t rfl rfl rfl ?_ | refine guard_f rfl rfl rfl rfl ?_ | refine stepY (y_move rfl) rfl ?_ | refine stepY (y_assign rfl) rfl ?_ | refine stepY (y_load1 rfl rfl rfl) rfl ?_ | refine stepY (y_fieldAddr rfl) rfl ?_ | refine stepY (y_pick_f rfl rfl) rfl ?_ | refine stepY (y_cmpF rfl rfl rfl (by omega)) rfl ?_ | refine stepE (e_box rfl rfl rfl rfl rfl rfl) ?_ | refine stepE (e_alloc rfl rfl rfl) ?_)
          refine call_ Try.func46 rfl rfl (m0) rfl (by repeat (first | exact .refl _ | apply Les.cons | exact .nil)) rfl ?_
          repeat (first | refine seq_ ?_ | refine region_ ?_ | refine nil_ ?_ | refine skip_ ?_ | refine cond_f rfl ?_ | refine stepY (y_load1 rfl rfl rfl) rfl ?_ | refine stepY (y_fieldAddr rfl) rfl ?_ | refine stepY (y_len_si rfl) rfl ?_ | refine stepY (y_cmpF rfl rfl rfl (by omega)) rfl ?_ | refine stepE (e_alloc rfl rfl rfl) ?_ | refine stepE (e_store rfl rfl rfl rfl rfl rfl rfl) ?_)
          refine cut_ [(2, .ptr 2 0), (3, .ptr 3 0), (4, .ptr 4 0), (5, .p (E_ 0)), (6, .ptr 6 0), (7, .ptr 7 0), (8, .p (E_ 0))] [(2, .bx [I a.1, I a.2.1, I a.2.2]), (3, .bx [I b.1, I b.2.1, I b.2.2]), (4, .bx [Bo false, NL, Bo false, NL, Bo false, NL, Bo false, NL]), (6, .bx [Bo (decide (detD a b < 0)), FM (detD a b).natAbs]), (7, .bx (cQ x))] ?_ ?_
          · refine xDraw 1000 [2, 3, 4, 6] mixed ?_
            refine xY (i := 0) (op := .fieldAddr _ _ _) rfl (by (exact y_fieldAddr rfl)) rfl rfl rfl rfl (by kernel_rfl) ?_
            refine xY (i := 1) (op := .load _ _) rfl (by (exact y_load1 rfl rfl rfl)) rfl rfl rfl rfl (by kernel_rfl) ?_
            refine xY (i := 2) (op := .fieldAddr _ _ _) rfl (by (exact y_fieldAddr rfl)) rfl rfl rfl rfl (by kernel_rfl) ?_
            refine xY (i := 3) (op := .load _ _) rfl (by (exact y_load1 rfl rfl rfl)) rfl rfl rfl rfl (by kernel_rfl) ?_
            refine xY (i := 4) (op := .fieldAddr _ _ _) rfl (by (exact y_fieldAddr rfl)) rfl rfl rfl rfl (by kernel_rfl) ?_
            refine xY (i := 5) (op := .load _ _) rfl (by (exact y_load1 rfl rfl rfl)) rfl rfl rfl rfl (by kernel_rfl) ?_
            refine xY (i := 6) (op := .fieldAddr _ _ _) rfl (by (exact y_fieldAddr rfl)) rfl rfl rfl rfl (by kernel_rfl) ?_
            refine xY (i := 7) (op := .load _ _) rfl (by (exact y_load1 rfl rfl rfl)) rfl rfl rfl rfl (by kernel_rfl) ?_
            refine xY (i := 9) (op := .load _ _) rfl (by (exact y_loadA rfl rfl rfl)) rfl rfl rfl rfl (by kernel_rfl) ?_
            refine xAll (rs := [8, 14]) (by kernel_rfl) rfl ⟨?_, ?_, trivial⟩
            · (refine iC rfl Try.func46 rfl rfl (m1) rfl (by repeat (first | exact .refl _ | apply Les.cons | exact .nil)) rfl rfl ?_)
              refine xAll (rs := [10, 14]) (by kernel_rfl) rfl ⟨?_, ?_, trivial⟩
              · (refine iC rfl Try.func47 rfl rfl (n1) rfl (by repeat (first | exact .refl _ | exact .tag _ _ | apply Le.ag | apply Les.cons | exact .nil)) rfl rfl ?_)
                refine xY (i := 11) (op := .move _) rfl (by (exact y_move rfl)) rfl rfl rfl rfl (by kernel_rfl) ?_
                refine xY (i := 12) (op := .extract _ _) rfl (by (exact y_extract rfl rfl)) rfl rfl rfl rfl (by kernel_rfl) ?_
                refine xY (i := 13) (op := .extract _ _) rfl (by (exact y_extract rfl rfl)) rfl rfl rfl rfl (by kernel_rfl) ?_
                refine xAll (rs := [14]) (by kernel_rfl) rfl ⟨?_, trivial⟩
                · (refine iE rfl (e_alloc rfl rfl rfl) rfl rfl ?_)
                  refine xAll (rs := [15]) (by kernel_rfl) rfl ⟨?_, trivial⟩
                  · (refine iE rfl (e_store rfl rfl rfl rfl rfl rfl rfl) rfl rfl ?_)
                    refine xY (i := 16) (op := .assign _) rfl (by (exact y_assign rfl)) rfl rfl rfl rfl (by kernel_rfl) ?_
                    exact xEnd (by kernel_rfl) ⟨rfl, by (repeat (first | exact sub_nil | refine sub_cons rfl ?_)), by (repeat (first | exact subH_nil | refine subH_cons rfl ?_))⟩
              · (refine iE rfl (e_alloc rfl rfl rfl) rfl rfl ?_)
                refine xAll (rs := [10]) (by kernel_rfl) rfl ⟨?_, trivial⟩
                · (refine iC rfl Try.func47 rfl rfl (n1) rfl (by repeat (first | exact .refl _ | exact .tag _ _ | apply Le.ag | apply Les.cons | exact .nil)) rfl rfl ?_)
                  refine xY (i := 11) (op := .move _) rfl (by (exact y_move rfl)) rfl rfl rfl rfl (by kernel_rfl) ?_
                  refine xY (i := 12) (op := .extract _ _) rfl (by (exact y_extract rfl rfl)) rfl rfl rfl rfl (by kernel_rfl) ?_
                  refine xY (i := 13) (op := .extract _ _) rfl (by (exact y_extract rfl rfl)) rfl rfl rfl rfl (by kernel_rfl) ?_
                  refine xAll (rs := [15]) (by kernel_rfl) rfl ⟨?_, trivial⟩
                  · (refine iE rfl (e_store rfl rfl rfl rfl rfl rfl rfl) rfl rfl ?_)
                    refine xY (i := 16) (op := .assign _) rfl (by (exact y_assign rfl)) rfl rfl rfl rfl (by kernel_rfl) ?_
                    exact xEnd (by kernel_rfl) ⟨rfl, by (repeat (first | exact sub_nil | refine sub_cons rfl ?_)), by (repeat (first | exact subH_nil | refine subH_cons rfl ?_))⟩
            · (refine iE rfl (e_alloc rfl rfl rfl) rfl rfl ?_)
              refine xAll (rs := [8]) (by kernel_rfl) rfl ⟨?_, trivial⟩
              · (refine iC rfl Try.func46 rfl rfl (m1) rfl (by repeat (first | exact .refl _ | apply Les.cons | exact .nil)) rfl rfl ?_)
                refine xAll (rs := [10]) (by kernel_rfl) rfl ⟨?_, trivial⟩
                · (refine iC rfl Try.func47 rfl rfl (n1) rfl (by repeat (first | exact .refl _ | exact .tag _ _ | apply Le.ag | apply Les.cons | exact .nil)) rfl rfl ?_)
                  refine xY (i := 11) (op := .move _) rfl (by (exact y_move rfl)) rfl rfl rfl rfl (by kernel_rfl) ?_
                  refine xY (i := 12) (op := .extract _ _) rfl (by (exact y_extract rfl rfl)) rfl rfl rfl rfl (by kernel_rfl) ?_
                  refine xY (i := 13) (op := .extract _ _) rfl (by (exact y_extract rfl rfl)) rfl rfl rfl rfl (by kernel_rfl) ?_
                  refine xAll (rs := [15]) (by kernel_rfl) rfl ⟨?_, trivial⟩
                  · (refine iE rfl (e_store rfl rfl rfl rfl rfl rfl rfl) rfl rfl ?_)
                    refine xY (i := 16) (op := .assign _) rfl (by (exact y_assign rfl)) rfl rfl rfl rfl (by kernel_rfl) ?_
                    exact xEnd (by kernel_rfl) ⟨rfl, by (repeat (first | exact sub_nil | refine sub_cons rfl ?_)), by (repeat (first | exact subH_nil | refine subH_cons rfl ?_))⟩
          repeat (first | refine seq_ ?_ | refine region_ ?_ | refine nil_ ?_ | refine skip_ ?_ | refine cond_f rfl ?_ | refine stepY (y_move rfl) rfl ?_ | refine stepY (y_cmpF rfl rfl rfl (by omega)) rfl ?_)
          refine cut_ [(4, .ptr 4 0), (5, .p (E_ 0)), (7, .ptr 7 0), (8, .p (E_ 0)), (9, .ptr 9 0)] [(4, .bx [Bo false, NL, Bo false, NL, Bo false, NL, Bo false, NL]), (7, .bx (cQ x)), (9, .bx (cQ y))] ?_ ?_
          · refine xDraw 1000 [2, 3, 4, 6, 7] mixed ?_
            refine xY (i := 0) (op := .fieldAddr _ _ _) rfl (by (exact y_fieldAddr rfl)) rfl rfl rfl rfl (by kernel_rfl) ?_
            refine xY (i := 1) (op := .load _ _) rfl (by (exact y_load1 rfl rfl rfl)) rfl rfl rfl rfl (by kernel_rfl) ?_
            refine xY (i := 2) (op := .fieldAddr _ _ _) rfl (by (exact y_fieldAddr rfl)) rfl rfl rfl rfl (by kernel_rfl) ?_
            refine xY (i := 3) (op := .load _ _) rfl (by (exact y_load1 rfl rfl rfl)) rfl rfl rfl rfl (by kernel_rfl) ?_
            refine xY (i := 4) (op := .fieldAddr _ _ _) rfl (by (exact y_fieldAddr rfl)) rfl rfl rfl rfl (by kernel_rfl) ?_
            refine xY (i := 5) (op := .load _ _) rfl (by (exact y_load1 rfl rfl rfl)) rfl rfl rfl rfl (by kernel_rfl) ?_
            refine xY (i := 6) (op := .fieldAddr _ _ _) rfl (by (exact y_fieldAddr rfl)) rfl rfl rfl rfl (by kernel_rfl) ?_
            refine xY (i := 7) (op := .load _ _) rfl (by (exact y_load1 rfl rfl rfl)) rfl rfl rfl rfl (by kernel_rfl) ?_
            refine xY (i := 9) (op := .load _ _) rfl (by (exact y_loadA rfl rfl rfl)) rfl rfl rfl rfl (by kernel_rfl) ?_
            refine xAll (rs := [8, 14]) (by kernel_rfl) rfl ⟨?_, ?_, trivial⟩
            · (refine iC rfl Try.func46 rfl rfl (m2) rfl (by repeat (first | exact .refl _ | apply Les.cons | exact .nil)) rfl rfl ?_)
              refine xAll (rs := [10, 14]) (by kernel_rfl) rfl ⟨?_, ?_, trivial⟩
              · (refine iC rfl Try.func47 rfl rfl (n2) rfl (by repeat (first | exact .refl _ | exact .tag _ _ | apply Le.ag | apply Les.cons | exact .nil)) rfl rfl ?_)
                refine xY (i := 11) (op := .move _) rfl (by (exact y_move rfl)) rfl rfl rfl rfl (by kernel_rfl) ?_
                refine xY (i := 12) (op := .extract _ _) rfl (by (exact y_extract rfl rfl)) rfl rfl rfl rfl (by kernel_rfl) ?_
                refine xY (i := 13) (op := .extract _ _) rfl (by (exact y_extract rfl rfl)) rfl rfl rfl rfl (by kernel_rfl) ?_
                refine xAll (rs := [14]) (by kernel_rfl) rfl ⟨?_, trivial⟩
                · (refine iE rfl (e_alloc rfl rfl rfl) rfl rfl ?_)
                  refine xAll (rs := [15]) (by kernel_rfl) rfl ⟨?_, trivial⟩
                  · (refine iE rfl (e_store rfl rfl rfl rfl rfl rfl rfl) rfl rfl ?_)
                    refine xY (i := 16) (op := .assign _) rfl (by (exact y_assign rfl)) rfl rfl rfl rfl (by kernel_rfl) ?_
                    exact xEnd (by kernel_rfl) ⟨rfl, by (repeat (first | exact sub_nil | refine sub_cons rfl ?_)), by (repeat (first | exact subH_nil | refine subH_cons rfl ?_))⟩
              · (refine iE rfl (e_alloc rfl rfl rfl) rfl rfl ?_)
                refine xAll (rs := [10]) (by kernel_rfl) rfl ⟨?_, trivial⟩
                · (refine iC rfl Try.func47 rfl rfl (n2) rfl (by repeat (first | exact .refl _ | exact .tag _ _ | apply Le.ag | apply Les.cons | exact .nil)) rfl rfl ?_)
                  refine xY (i := 11) (op := .move _) rfl (by (exact y_move rfl)) rfl rfl rfl rfl (by kernel_rfl) ?_
                  refine xY (i := 12) (op := .extract _ _) rfl (by (exact y_extract rfl rfl)) rfl rfl rfl rfl (by kernel_rfl) ?_
                  refine xY (i := 13) (op := .extract _ _) rfl (by (exact y_extract rfl rfl)) rfl rfl rfl rfl (by kernel_rfl) ?_
                  refine xAll (rs := [15]) (by kernel_rfl) rfl ⟨?_, trivial⟩
                  · (refine iE rfl (e_store rfl rfl rfl rfl rfl rfl rfl) rfl rfl ?_)
                    refine xY (i := 16) (op := .assign _) rfl (by (exact y_assign rfl)) rfl rfl rfl rfl (by kernel_rfl) ?_
                    exact xEnd (by kernel_rfl) ⟨rfl, by (repeat (first | exact sub_nil | refine sub_cons rfl ?_)), by (repeat (first | exact subH_nil | refine subH_cons rfl ?_))⟩
            · (refine iE rfl (e_alloc rfl rfl rfl) rfl rfl ?_)
              refine xAll (rs := [8]) (by kernel_rfl) rfl ⟨?_, trivial⟩
              · (refine iC rfl Try.func46 rfl rfl (m2) rfl (by repeat (first | exact .refl _ | apply Les.cons | exact .nil)) rfl rfl ?_)
                refine xAll (rs := [10]) (by kernel_rfl) rfl ⟨?_, trivial⟩
                · (refine iC rfl Try.func47 rfl rfl (n2) rfl (by repeat (first | exact .refl _ | exact .tag _ _ | apply Le.ag | apply Les.cons | exact .nil)) rfl rfl ?_)
                  refine xY (i := 11) (op := .move _) rfl (by (exact y_move rfl)) rfl rfl rfl rfl (by kernel_rfl) ?_
                  refine xY (i := 12) (op := .extract _ _) rfl (by (exact y_extract rfl rfl)) rfl rfl rfl rfl (by kernel_rfl) ?_
                  refine xY (i := 13) (op := .extract _ _) rfl (by (exact y_extract rfl rfl)) rfl rfl rfl rfl (by kernel_rfl) ?_
                  refine xAll (rs := [15]) (by kernel_rfl) rfl ⟨?_, trivial⟩
                  · (refine iE rfl (e_store rfl rfl rfl rfl rfl rfl rfl) rfl rfl ?_)
                    refine xY (i := 16) (op := .assign _) rfl (by (exact y_assign rfl)) rfl rfl rfl rfl (by kernel_rfl) ?_
                    exact xEnd (by kernel_rfl) ⟨rfl, by (repeat (first | exact sub_nil | refine sub_cons rfl ?_)), by (repeat (first | exact subH_nil | refine subH_cons rfl ?_))⟩
          repeat (first | refine seq_ ?_ | refine region_ ?_ | refine nil_ ?_ | refine skip_ ?_ | refine ret_ ?_ | refine cond_f rfl ?_ | refine stepY (y_move rfl) rfl ?_ | refine stepY (y_assign rfl) rfl ?_ | refine stepY (y_loadA rfl rfl rfl) rfl ?_ | refine stepY (y_build rfl rfl rfl) rfl ?_ | refine stepY (y_cmpF rfl rfl rfl (by omega)) rfl ?_ | refine stepE (e_store rfl rfl rfl rfl rfl rfl rfl) ?_)
          ((apply fin_r); (repeat (first | exact .nil | exact .tmp rfl | exact .agg rfl rfl rfl | apply ResL.cons)); (repeat (exact .refl _)))
end Go.Av

set_option maxHeartbeats 8000000
set_option exponentiation.threshold 100000
set_option maxRecDepth 100000
set_option linter.unusedVariables false
set_option linter.unusedSimpArgs false
namespace Go.Av
open Go Go.Proofs

open Go.RowKit
/-! Boxes -/
abbrev b4 (x y w h : Int) : PV := .ag [I x, I y, I w, I h]
abbrev fitP (n : Int) : Prop := -1073741824 ≤ n ∧ n ≤ 1073741824
def emB (x y w h : Int) : Bool := !decide (fitP x ∧ fitP y ∧ fitP w ∧ fitP h ∧ 1 ≤ w ∧ 1 ≤ h)
theorem fits_c (n : Int) : Con Try.prog 53 [I n] (Bo (decide (fitP n))) := by
  refine con_of Try.func53 rfl rfl rfl rfl rfl ?_
  by_cases h1 : -1073741824 ≤ n
  · by_cases h2 : n ≤ 1073741824
    · rw [decide_eq_true ⟨h1, h2⟩]
      repeat (first | refine seq_ ?_ | refine region_ ?_ | refine nil_ ?_ | refine ret_ ?_ | refine guard_t rfl rfl rfl ?_ | refine stepY (y_move rfl) rfl ?_ | refine stepY (y_assign rfl) rfl ?_ | refine stepY (y_pick_t rfl rfl) rfl ?_ | refine stepY (y_cmpT rfl rfl rfl (by omega)) rfl ?_ | refine stepY (y_cmpT rfl rfl rfl (by omega)) rfl ?_)
      ((apply fin_r); (repeat (first | exact .nil | exact .tmp rfl | apply ResL.cons)); (repeat (exact .refl _)))
    · rw [decide_eq_false (fun h => h2 h.2)]
      repeat (first | refine seq_ ?_ | refine region_ ?_ | refine nil_ ?_ | refine ret_ ?_ | refine guard_t rfl rfl rfl ?_ | refine stepY (y_move rfl) rfl ?_ | refine stepY (y_assign rfl) rfl ?_ | refine stepY (y_pick_t rfl rfl) rfl ?_ | refine stepY (y_cmpF rfl rfl rfl (by omega)) rfl ?_ | refine stepY (y_cmpT rfl rfl rfl (by omega)) rfl ?_)
      ((apply fin_r); (repeat (first | exact .nil | exact .tmp rfl | apply ResL.cons)); (repeat (exact .refl _)))
  · rw [decide_eq_false (fun h => h1 h.1)]
    repeat (first | refine seq_ ?_ | refine region_ ?_ | refine nil_ ?_ | refine ret_ ?_ | refine guard_f rfl rfl rfl rfl ?_ | refine stepY (y_move rfl) rfl ?_ | refine stepY (y_assign rfl) rfl ?_ | refine stepY (y_pick_f rfl rfl) rfl ?_ | refine stepY (y_cmpF rfl rfl rfl (by omega)) rfl ?_)
    ((apply fin_r); (repeat (first | exact .nil | exact .tmp rfl | apply ResL.cons)); (repeat (exact .refl _)))
theorem Empty_c (x y w h : Int) : Con Try.prog 28 [b4 x y w h] (Bo (emB x y w h)) := by
  refine con_of Try.func28 rfl rfl rfl rfl rfl ?_
  have f1 := fits_c x
  have f2 := fits_c y
  have f3 := fits_c w
  have f4 := fits_c h
  unfold emB
  by_cases c1 : w < 1
  · rw [decide_eq_false (fun hh => by omega)]
    repeat (first | refine seq_ ?_ | refine region_ ?_ | refine nil_ ?_ | refine ret_ ?_ | refine guard_f rfl rfl rfl rfl ?_ | refine stepY (y_move rfl) rfl ?_ | refine stepY (y_assign rfl) rfl ?_ | refine stepY (y_load1 rfl rfl rfl) rfl ?_ | refine stepY (y_fieldAddr rfl) rfl ?_ | refine stepY (y_pick_t rfl rfl) rfl ?_ | refine stepY (y_cmpT rfl rfl rfl (by omega)) rfl ?_ | refine stepE (e_box rfl rfl rfl rfl rfl rfl) ?_)
    ((apply fin_r); (repeat (first | exact .nil | exact .tmp rfl | apply ResL.cons)); (repeat (exact .refl _)))
  by_cases c2 : h < 1
  · rw [decide_eq_false (fun hh => by omega)]
    repeat (first | refine seq_ ?_ | refine region_ ?_ | refine nil_ ?_ | refine ret_ ?_ | refine guard_t rfl rfl rfl ?_ | refine guard_f rfl rfl rfl rfl ?_ | refine stepY (y_move rfl) rfl ?_ | refine stepY (y_assign rfl) rfl ?_ | refine stepY (y_load1 rfl rfl rfl) rfl ?_ | refine stepY (y_fieldAddr rfl) rfl ?_ | (first | refine stepY (y_pick_t rfl rfl) rfl ?_ | refine stepY (y_pick_f rfl rfl) rfl ?_) | (first | refine stepY (y_cmpT rfl rfl rfl (by omega)) rfl ?_ | refine stepY (y_cmpF rfl rfl rfl (by omega)) rfl ?_) | refine stepE (e_box rfl rfl rfl rfl rfl rfl) ?_)
    ((apply fin_r); (repeat (first | exact .nil | exact .tmp rfl | apply ResL.cons)); (repeat (exact .refl _)))
  by_cases c3 : fitP x
  · rw [decide_eq_true c3] at f1
    by_cases c4 : fitP y
    · rw [decide_eq_true c4] at f2
      by_cases c5 : fitP w
      · rw [decide_eq_true c5] at f3
        by_cases c6 : fitP h
        · rw [decide_eq_true c6] at f4
          rw [decide_eq_true ⟨c3, c4, c5, c6, by omega, by omega⟩]
          repeat (first | refine seq_ ?_ | refine region_ ?_ | refine nil_ ?_ | refine guard_t rfl rfl rfl ?_ | refine stepY (y_move rfl) rfl ?_ | refine stepY (y_assign rfl) rfl ?_ | refine stepY (y_load1 rfl rfl rfl) rfl ?_ | refine stepY (y_fieldAddr rfl) rfl ?_ | refine stepY (y_pick_f rfl rfl) rfl ?_ | refine stepY (y_cmpF rfl rfl rfl (by omega)) rfl ?_ | refine stepE (e_box rfl rfl rfl rfl rfl rfl) ?_)
          refine call_ Try.func53 rfl rfl (f1) rfl (by repeat (first | exact .refl _ | apply Les.cons | exact .nil)) rfl ?_
          repeat (first | refine guard_t rfl rfl rfl ?_ | refine stepY (y_move rfl) rfl ?_ | refine stepY (y_load1 rfl rfl rfl) rfl ?_ | refine stepY (y_fieldAddr rfl) rfl ?_ | refine stepY (y_not rfl) rfl ?_ | refine stepY (y_pick_f rfl rfl) rfl ?_)
          refine call_ Try.func53 rfl rfl (f2) rfl (by repeat (first | exact .refl _ | apply Les.cons | exact .nil)) rfl ?_
          repeat (first | refine guard_t rfl rfl rfl ?_ | refine stepY (y_move rfl) rfl ?_ | refine stepY (y_load1 rfl rfl rfl) rfl ?_ | refine stepY (y_fieldAddr rfl) rfl ?_ | refine stepY (y_not rfl) rfl ?_ | refine stepY (y_pick_f rfl rfl) rfl ?_)
          refine call_ Try.func53 rfl rfl (f3) rfl (by repeat (first | exact .refl _ | apply Les.cons | exact .nil)) rfl ?_
          repeat (first | refine guard_t rfl rfl rfl ?_ | refine stepY (y_move rfl) rfl ?_ | refine stepY (y_load1 rfl rfl rfl) rfl ?_ | refine stepY (y_fieldAddr rfl) rfl ?_ | refine stepY (y_not rfl) rfl ?_ | refine stepY (y_pick_f rfl rfl) rfl ?_)
          refine call_ Try.func53 rfl rfl (f4) rfl (by repeat (first | exact .refl _ | apply Les.cons | exact .nil)) rfl ?_
          repeat (first | refine nil_ ?_ | refine ret_ ?_ | refine guard_t rfl rfl rfl ?_ | refine stepY (y_assign rfl) rfl ?_ | refine stepY (y_not rfl) rfl ?_ | refine stepY (y_pick_f rfl rfl) rfl ?_)
          ((apply fin_r); (repeat (first | exact .nil | exact .tmp rfl | apply ResL.cons)); (repeat (exact .refl _)))
        · rw [decide_eq_false c6] at f4
          rw [decide_eq_false (fun hh => c6 hh.2.2.2.1)]
          repeat (first | refine seq_ ?_ | refine region_ ?_ | refine nil_ ?_ | refine guard_t rfl rfl rfl ?_ | refine stepY (y_move rfl) rfl ?_ | refine stepY (y_assign rfl) rfl ?_ | refine stepY (y_load1 rfl rfl rfl) rfl ?_ | refine stepY (y_fieldAddr rfl) rfl ?_ | refine stepY (y_pick_f rfl rfl) rfl ?_ | refine stepY (y_cmpF rfl rfl rfl (by omega)) rfl ?_ | refine stepE (e_box rfl rfl rfl rfl rfl rfl) ?_)
          refine call_ Try.func53 rfl rfl (f1) rfl (by repeat (first | exact .refl _ | apply Les.cons | exact .nil)) rfl ?_
          repeat (first | refine guard_t rfl rfl rfl ?_ | refine stepY (y_move rfl) rfl ?_ | refine stepY (y_load1 rfl rfl rfl) rfl ?_ | refine stepY (y_fieldAddr rfl) rfl ?_ | refine stepY (y_not rfl) rfl ?_ | refine stepY (y_pick_f rfl rfl) rfl ?_)
          refine call_ Try.func53 rfl rfl (f2) rfl (by repeat (first | exact .refl _ | apply Les.cons | exact .nil)) rfl ?_
          repeat (first | refine guard_t rfl rfl rfl ?_ | refine stepY (y_move rfl) rfl ?_ | refine stepY (y_load1 rfl rfl rfl) rfl ?_ | refine stepY (y_fieldAddr rfl) rfl ?_ | refine stepY (y_not rfl) rfl ?_ | refine stepY (y_pick_f rfl rfl) rfl ?_)
          refine call_ Try.func53 rfl rfl (f3) rfl (by repeat (first | exact .refl _ | apply Les.cons | exact .nil)) rfl ?_
          repeat (first | refine guard_t rfl rfl rfl ?_ | refine stepY (y_move rfl) rfl ?_ | refine stepY (y_load1 rfl rfl rfl) rfl ?_ | refine stepY (y_fieldAddr rfl) rfl ?_ | refine stepY (y_not rfl) rfl ?_ | refine stepY (y_pick_f rfl rfl) rfl ?_)
          refine call_ Try.func53 rfl rfl (f4) rfl (by repeat (first | exact .refl _ | apply Les.cons | exact .nil)) rfl ?_
          repeat (first | refine nil_ ?_ | refine ret_ ?_ | refine guard_t rfl rfl rfl ?_ | refine stepY (y_assign rfl) rfl ?_ | refine stepY (y_not rfl) rfl ?_ | refine stepY (y_pick_f rfl rfl) rfl ?_)
          ((apply fin_r); (repeat (first | exact .nil | exact .tmp rfl | apply ResL.cons)); (repeat (exact .refl _)))
      · rw [decide_eq_false c5] at f3
        rw [decide_eq_false (fun hh => c5 hh.2.2.1)]
        repeat (first | refine seq_ ?_ | refine region_ ?_ | refine nil_ ?_ | refine guard_t rfl rfl rfl ?_ | refine stepY (y_move rfl) rfl ?_ | refine stepY (y_assign rfl) rfl ?_ | refine stepY (y_load1 rfl rfl rfl) rfl ?_ | refine stepY (y_fieldAddr rfl) rfl ?_ | refine stepY (y_pick_f rfl rfl) rfl ?_ | refine stepY (y_cmpF rfl rfl rfl (by omega)) rfl ?_ | refine stepE (e_box rfl rfl rfl rfl rfl rfl) ?_)
        refine call_ Try.func53 rfl rfl (f1) rfl (by repeat (first | exact .refl _ | apply Les.cons | exact .nil)) rfl ?_
        repeat (first | refine guard_t rfl rfl rfl ?_ | refine stepY (y_move rfl) rfl ?_ | refine stepY (y_load1 rfl rfl rfl) rfl ?_ | refine stepY (y_fieldAddr rfl) rfl ?_ | refine stepY (y_not rfl) rfl ?_ | refine stepY (y_pick_f rfl rfl) rfl ?_)
        refine call_ Try.func53 rfl rfl (f2) rfl (by repeat (first | exact .refl _ | apply Les.cons | exact .nil)) rfl ?_
        repeat (first | refine guard_t rfl rfl rfl ?_ | refine stepY (y_move rfl) rfl ?_ | refine stepY (y_load1 rfl rfl rfl) rfl ?_ | refine stepY (y_fieldAddr rfl) rfl ?_ | refine stepY (y_not rfl) rfl ?_ | refine stepY (y_pick_f rfl rfl) rfl ?_)
        refine call_ Try.func53 rfl rfl (f3) rfl (by repeat (first | exact .refl _ | apply Les.cons | exact .nil)) rfl ?_
        repeat (first | refine nil_ ?_ | refine ret_ ?_ | refine guard_t rfl rfl rfl ?_ | refine guard_f rfl rfl rfl rfl ?_ | refine stepY (y_move rfl) rfl ?_ | refine stepY (y_assign rfl) rfl ?_ | refine stepY (y_not rfl) rfl ?_ | (first | refine stepY (y_pick_t rfl rfl) rfl ?_ | refine stepY (y_pick_f rfl rfl) rfl ?_))
        ((apply fin_r); (repeat (first | exact .nil | exact .tmp rfl | apply ResL.cons)); (repeat (exact .refl _)))
    · rw [decide_eq_false c4] at f2
      rw [decide_eq_false (fun hh => c4 hh.2.1)]
      repeat (first | refine seq_ ?_ | refine region_ ?_ | refine nil_ ?_ | refine guard_t rfl rfl rfl ?_ | refine stepY (y_move rfl) rfl ?_ | refine stepY (y_assign rfl) rfl ?_ | refine stepY (y_load1 rfl rfl rfl) rfl ?_ | refine stepY (y_fieldAddr rfl) rfl ?_ | refine stepY (y_pick_f rfl rfl) rfl ?_ | refine stepY (y_cmpF rfl rfl rfl (by omega)) rfl ?_ | refine stepE (e_box rfl rfl rfl rfl rfl rfl) ?_)
      refine call_ Try.func53 rfl rfl (f1) rfl (by repeat (first | exact .refl _ | apply Les.cons | exact .nil)) rfl ?_
      repeat (first | refine guard_t rfl rfl rfl ?_ | refine stepY (y_move rfl) rfl ?_ | refine stepY (y_load1 rfl rfl rfl) rfl ?_ | refine stepY (y_fieldAddr rfl) rfl ?_ | refine stepY (y_not rfl) rfl ?_ | refine stepY (y_pick_f rfl rfl) rfl ?_)
      refine call_ Try.func53 rfl rfl (f2) rfl (by repeat (first | exact .refl _ | apply Les.cons | exact .nil)) rfl ?_
      repeat (first | refine nil_ ?_ | refine ret_ ?_ | refine guard_t rfl rfl rfl ?_ | refine guard_f rfl rfl rfl rfl ?_ | refine stepY (y_move rfl) rfl ?_ | refine stepY (y_assign rfl) rfl ?_ | refine stepY (y_not rfl) rfl ?_ | (first | refine stepY (y_pick_t rfl rfl) rfl ?_ | refine stepY (y_pick_f rfl rfl) rfl ?_))
      ((apply fin_r); (repeat (first | exact .nil | exact .tmp rfl | apply ResL.cons)); (repeat (exact .refl _)))
  · rw [decide_eq_false c3] at f1
    rw [decide_eq_false (fun hh => c3 hh.1)]
    repeat (first | refine seq_ ?_ | refine region_ ?_ | refine nil_ ?_ | refine guard_t rfl rfl rfl ?_ | refine stepY (y_move rfl) rfl ?_ | refine stepY (y_assign rfl) rfl ?_ | refine stepY (y_load1 rfl rfl rfl) rfl ?_ | refine stepY (y_fieldAddr rfl) rfl ?_ | refine stepY (y_pick_f rfl rfl) rfl ?_ | refine stepY (y_cmpF rfl rfl rfl (by omega)) rfl ?_ | refine stepE (e_box rfl rfl rfl rfl rfl rfl) ?_)
    refine call_ Try.func53 rfl rfl (f1) rfl (by repeat (first | exact .refl _ | apply Les.cons | exact .nil)) rfl ?_
    repeat (first | refine nil_ ?_ | refine ret_ ?_ | refine guard_t rfl rfl rfl ?_ | refine guard_f rfl rfl rfl rfl ?_ | refine stepY (y_move rfl) rfl ?_ | refine stepY (y_assign rfl) rfl ?_ | refine stepY (y_not rfl) rfl ?_ | (first | refine stepY (y_pick_t rfl rfl) rfl ?_ | refine stepY (y_pick_f rfl rfl) rfl ?_))
    ((apply fin_r); (repeat (first | exact .nil | exact .tmp rfl | apply ResL.cons)); (repeat (exact .refl _)))
theorem empty_c (x y w h : Int) : Con Try.prog 52 [b4 x y w h] (Bo (emB x y w h)) := by
  refine con_of Try.func52 rfl rfl rfl rfl rfl ?_
  have hl : ([x, y, w, h] : List Int).length = 4 := rfl
  repeat (first | refine seq_ ?_ | refine region_ ?_ | refine nil_ ?_ | refine block_ ?_ | refine stepY (y_move rfl) rfl ?_ | refine stepY (y_assign rfl) rfl ?_ | refine stepY (y_load1 rfl rfl rfl) rfl ?_ | refine stepY (y_fieldAddr rfl) rfl ?_ | refine stepY (y_len_vi rfl rfl) rfl ?_ | refine stepE (e_box rfl rfl rfl rfl rfl rfl) ?_ | refine stepE (e_bs_vi (k := .i64) rfl rfl rfl rfl rfl) ?_)
  obtain ⟨L, hL⟩ : ∃ L : List Int, L = [x, y, w, h] := ⟨_, rfl⟩
  rw [← hL] at hl ⊢
  have hfit : (∀ j : Nat, j < 4 → fitP (rd L j)) ↔ fitP x ∧ fitP y ∧ fitP w ∧ fitP h := by
    subst hL
    constructor
    · intro hh
      exact ⟨hh 0 (by omega), hh 1 (by omega), hh 2 (by omega), hh 3 (by omega)⟩
    · rintro ⟨h1, h2, h3, h4⟩ j hj
      match j, hj with
      | 0, _ => exact h1
      | 1, _ => exact h2
      | 2, _ => exact h3
      | 3, _ => exact h4
  refine loop_ (α := Nat) (fun k => ([(1, .ptr 1 0), (13, .vec 13), (14, .p (I 4)), (15, .p (I k))], [(1, .bx [I x, I y, I w, I h]), (13, .vi 3 .i64 L)])) (fun k => k ≤ 4 ∧ ∀ j : Nat, j < k → fitP (rd L j)) (fun k => 4 - k) 0 ⟨by omega, fun j hj => by omega⟩ ?_ ?_ ?_
  · (repeat (first | exact sub_nil | refine sub_cons rfl ?_ | refine sub_conse rfl (by (congr 3; omega)) ?_))
  · (repeat (first | exact subH_nil | refine subH_cons rfl ?_))
  rintro k ⟨hk, ha⟩
  by_cases h4 : k < 4
  · by_cases hf : fitP (rd L k)
    · repeat (first | refine seq_ ?_ | refine region_ ?_ | refine nil_ ?_ | refine skip_ ?_ | refine block_ ?_ | refine cond_t rfl ?_ | refine cond_f rfl ?_ | refine guard_t rfl rfl rfl ?_ | refine stepY (y_move rfl) rfl ?_ | refine stepY (y_assign rfl) rfl ?_ | refine stepY (y_load_vi rfl rfl (by omega) (by omega)) rfl ?_ | refine stepY (y_pick_f rfl rfl) rfl ?_ | refine stepY (y_index_vi rfl rfl rfl (by omega) (by omega)) rfl ?_ | refine stepY (y_binn rfl rfl rfl (by simp only [InK, loK, hiK]; omega)) rfl ?_ | (first | refine stepY (y_cmpT rfl rfl rfl (by omega)) rfl ?_ | refine stepY (y_cmpF rfl rfl rfl (by omega)) rfl ?_) | refine stepY (y_cmpF rfl rfl rfl (by omega)) rfl ?_)
      refine ⟨k + 1, ⟨by omega, fun j hj => ?_⟩, by omega, ?_, ?_⟩
      · by_cases e : j = k
        · subst e; exact hf
        · exact ha j (by omega)
      · (repeat (first | exact sub_nil | refine sub_cons rfl ?_))
      · (repeat (first | exact subH_nil | refine subH_cons rfl ?_))
    · have e : emB x y w h = true := by
        unfold emB
        rw [decide_eq_false (fun hh => hf (hfit.2 ⟨hh.1, hh.2.1, hh.2.2.1, hh.2.2.2.1⟩ k h4))]
        rfl
      rw [e]
      by_cases c1 : rd L k < -1073741824
      · repeat (first | refine seq_ ?_ | refine region_ ?_ | refine nil_ ?_ | refine skip_ ?_ | refine ret_ ?_ | refine block_ ?_ | refine cond_t rfl ?_ | refine guard_f rfl rfl rfl rfl ?_ | refine stepY (y_move rfl) rfl ?_ | refine stepY (y_assign rfl) rfl ?_ | refine stepY (y_load_vi rfl rfl (by omega) (by omega)) rfl ?_ | refine stepY (y_pick_t rfl rfl) rfl ?_ | refine stepY (y_index_vi rfl rfl rfl (by omega) (by omega)) rfl ?_ | refine stepY (y_cmpT rfl rfl rfl (by omega)) rfl ?_)
        ((apply fin_r); (repeat (first | exact .nil | exact .tmp rfl | apply ResL.cons)); (repeat (exact .refl _)))
      · have c2 : rd L k > 1073741824 := by omega
        repeat (first | refine seq_ ?_ | refine region_ ?_ | refine nil_ ?_ | refine skip_ ?_ | refine ret_ ?_ | refine block_ ?_ | refine cond_t rfl ?_ | refine guard_t rfl rfl rfl ?_ | refine stepY (y_move rfl) rfl ?_ | refine stepY (y_assign rfl) rfl ?_ | refine stepY (y_load_vi rfl rfl (by omega) (by omega)) rfl ?_ | refine stepY (y_pick_f rfl rfl) rfl ?_ | refine stepY (y_index_vi rfl rfl rfl (by omega) (by omega)) rfl ?_ | (first | refine stepY (y_cmpT rfl rfl rfl (by omega)) rfl ?_ | refine stepY (y_cmpF rfl rfl rfl (by omega)) rfl ?_) | refine stepY (y_cmpT rfl rfl rfl (by omega)) rfl ?_)
        ((apply fin_r); (repeat (first | exact .nil | exact .tmp rfl | apply ResL.cons)); (repeat (exact .refl _)))
  · have h5 : k = 4 := by omega
    subst h5
    obtain ⟨g1, g2, g3, g4⟩ := hfit.1 ha
    unfold emB
    by_cases c1 : w < 1
    · rw [decide_eq_false (fun hh => by omega)]
      repeat (first | refine seq_ ?_ | refine region_ ?_ | refine nil_ ?_ | refine exit_ ?_ | refine ret_ ?_ | refine cond_f rfl ?_ | refine guard_f rfl rfl rfl rfl ?_ | refine stepY (y_move rfl) rfl ?_ | refine stepY (y_assign rfl) rfl ?_ | refine stepY (y_load1 rfl rfl rfl) rfl ?_ | refine stepY (y_fieldAddr rfl) rfl ?_ | refine stepY (y_pick_t rfl rfl) rfl ?_ | (first | refine stepY (y_cmpT rfl rfl rfl (by omega)) rfl ?_ | refine stepY (y_cmpF rfl rfl rfl (by omega)) rfl ?_))
      ((apply fin_r); (repeat (first | exact .nil | exact .tmp rfl | apply ResL.cons)); (repeat (exact .refl _)))
    by_cases c2 : h < 1
    · rw [decide_eq_false (fun hh => by omega)]
      repeat (first | refine seq_ ?_ | refine region_ ?_ | refine nil_ ?_ | refine exit_ ?_ | refine ret_ ?_ | refine cond_f rfl ?_ | refine guard_t rfl rfl rfl ?_ | refine stepY (y_move rfl) rfl ?_ | refine stepY (y_assign rfl) rfl ?_ | refine stepY (y_load1 rfl rfl rfl) rfl ?_ | refine stepY (y_fieldAddr rfl) rfl ?_ | refine stepY (y_pick_f rfl rfl) rfl ?_ | (first | refine stepY (y_cmpT rfl rfl rfl (by omega)) rfl ?_ | refine stepY (y_cmpF rfl rfl rfl (by omega)) rfl ?_))
      ((apply fin_r); (repeat (first | exact .nil | exact .tmp rfl | apply ResL.cons)); (repeat (exact .refl _)))
    rw [decide_eq_true ⟨g1, g2, g3, g4, by omega, by omega⟩]
    repeat (first | refine seq_ ?_ | refine region_ ?_ | refine nil_ ?_ | refine exit_ ?_ | refine ret_ ?_ | refine cond_f rfl ?_ | refine guard_t rfl rfl rfl ?_ | refine stepY (y_move rfl) rfl ?_ | refine stepY (y_assign rfl) rfl ?_ | refine stepY (y_load1 rfl rfl rfl) rfl ?_ | refine stepY (y_fieldAddr rfl) rfl ?_ | refine stepY (y_pick_f rfl rfl) rfl ?_ | refine stepY (y_cmpF rfl rfl rfl (by omega)) rfl ?_)
    ((apply fin_r); (repeat (first | exact .nil | exact .tmp rfl | apply ResL.cons)); (repeat (exact .refl _)))
end Go.Av

set_option maxHeartbeats 8000000
set_option exponentiation.threshold 100000
set_option maxRecDepth 100000
set_option linter.unusedVariables false
set_option linter.unusedSimpArgs false
namespace Go.Av
open Go Go.Proofs

open Go.RowKit
/-! The common part and the union of boxes -/
def mx (a b : Int) : Int := if a < b then b else a
def mn (a b : Int) : Int := if b < a then b else a
abbrev Bx := Int × Int × Int × Int
abbrev bP (b : Bx) : PV := b4 b.1 b.2.1 b.2.2.1 b.2.2.2
def ovR (x y w h x' y' w' h' : Int) : Bx × Bool :=
  if (emB x y w h || emB x' y' w' h') = true then ((0, 0, 0, 0), false)
  else if mn (x + w) (x' + w') - mx x x' < 1 ∨ mn (y + h) (y' + h') - mx y y' < 1 then ((0, 0, 0, 0), false)
  else ((mx x x', mx y y', mn (x + w) (x' + w') - mx x x', mn (y + h) (y' + h') - mx y y'), true)
def unR (x y w h x' y' w' h' : Int) : Bx :=
  if emB x y w h = true then (if emB x' y' w' h' = true then (0, 0, 0, 0) else (x', y', w', h'))
  else if emB x' y' w' h' = true then (x, y, w, h)
  else (mn x x', mn y y', mx (x + w) (x' + w') - mn x x', mx (y + h) (y' + h') - mn y y')
theorem em_no {x y w h : Int} (he : emB x y w h = false) : fitP x ∧ fitP y ∧ fitP w ∧ fitP h ∧ 1 ≤ w ∧ 1 ≤ h := by
  unfold emB at he
  simpa only [Bool.not_eq_false', decide_eq_true_eq] using he
theorem Overlap_c (x y w h x' y' w' h' : Int) : Con Try.prog 24 [b4 x y w h, b4 x' y' w' h'] (.tp [bP (ovR x y w h x' y' w' h').1, Bo (ovR x y w h x' y' w' h').2]) := by
  refine con_of Try.func24 rfl rfl rfl rfl rfl ?_
  have he1 := empty_c x y w h
  have he2 := empty_c x' y' w' h'
  unfold ovR
  cases h1 : emB x y w h with
  | true =>
    rw [h1] at he1
    rw [if_pos (by simp)]
    repeat (first | refine seq_ ?_ | refine region_ ?_ | refine nil_ ?_ | refine stepY (y_assign rfl) rfl ?_ | refine stepY (y_loadA rfl rfl rfl) rfl ?_ | refine stepE (e_box rfl rfl rfl rfl rfl rfl) ?_ | refine stepE (e_alloc rfl rfl rfl) ?_)
    refine call_ Try.func52 rfl rfl (he1) rfl (by repeat (first | exact .refl _ | apply Les.cons | exact .nil)) rfl ?_
    repeat (first | refine seq_ ?_ | refine region_ ?_ | refine nil_ ?_ | refine ret_ ?_ | refine cond_t rfl ?_ | refine guard_f rfl rfl rfl rfl ?_ | refine stepY (y_move rfl) rfl ?_ | refine stepY (y_assign rfl) rfl ?_ | refine stepY (y_pick_t rfl rfl) rfl ?_ | refine stepY (y_build rfl rfl rfl) rfl ?_ | refine stepE (e_store rfl rfl rfl rfl rfl rfl rfl) ?_)
    ((apply fin_r); (repeat (first | exact .nil | exact .tmp rfl | exact .agg rfl rfl rfl | apply ResL.cons)); (repeat (exact .refl _)))
  | false =>
    rw [h1] at he1
    cases h2 : emB x' y' w' h' with
    | true =>
      rw [h2] at he2
      rw [if_pos (by simp)]
      repeat (first | refine seq_ ?_ | refine region_ ?_ | refine nil_ ?_ | refine stepY (y_assign rfl) rfl ?_ | refine stepY (y_loadA rfl rfl rfl) rfl ?_ | refine stepE (e_box rfl rfl rfl rfl rfl rfl) ?_ | refine stepE (e_alloc rfl rfl rfl) ?_)
      refine call_ Try.func52 rfl rfl (he1) rfl (by repeat (first | exact .refl _ | apply Les.cons | exact .nil)) rfl ?_
      repeat (first | refine guard_t rfl rfl rfl ?_ | refine stepY (y_move rfl) rfl ?_ | refine stepY (y_loadA rfl rfl rfl) rfl ?_)
      refine call_ Try.func52 rfl rfl (he2) rfl (by repeat (first | exact .refl _ | apply Les.cons | exact .nil)) rfl ?_
      repeat (first | refine seq_ ?_ | refine region_ ?_ | refine nil_ ?_ | refine ret_ ?_ | refine cond_t rfl ?_ | refine stepY (y_assign rfl) rfl ?_ | refine stepY (y_pick_f rfl rfl) rfl ?_ | refine stepY (y_build rfl rfl rfl) rfl ?_ | refine stepE (e_store rfl rfl rfl rfl rfl rfl rfl) ?_)
      ((apply fin_r); (repeat (first | exact .nil | exact .tmp rfl | exact .agg rfl rfl rfl | apply ResL.cons)); (repeat (exact .refl _)))
    | false =>
      rw [h2] at he2
      rw [if_neg (by simp)]
      obtain ⟨a1, a2, a3, a4, a5, a6⟩ := em_no h1
      obtain ⟨b1, b2, b3, b4, b5, b6⟩ := em_no h2
      unfold mx mn
      have hX : fitP (if x < x' then x' else x) := by split <;> assumption
      have hY : fitP (if y < y' then y' else y) := by split <;> assumption
      have hW : -1073741824 ≤ (if x' + w' < x + w then x' + w' else x + w) ∧ (if x' + w' < x + w then x' + w' else x + w) ≤ 2147483648 := by split <;> omega
      have hH : -1073741824 ≤ (if y' + h' < y + h then y' + h' else y + h) ∧ (if y' + h' < y + h then y' + h' else y + h) ≤ 2147483648 := by split <;> omega
      by_cases c1 : (if x' + w' < x + w then x' + w' else x + w) - (if x < x' then x' else x) < 1
      · rw [if_pos (.inl c1)]
        repeat (first | refine seq_ ?_ | refine region_ ?_ | refine nil_ ?_ | refine stepY (y_assign rfl) rfl ?_ | refine stepY (y_loadA rfl rfl rfl) rfl ?_ | refine stepE (e_box rfl rfl rfl rfl rfl rfl) ?_ | refine stepE (e_alloc rfl rfl rfl) ?_)
        refine call_ Try.func52 rfl rfl (he1) rfl (by repeat (first | exact .refl _ | apply Les.cons | exact .nil)) rfl ?_
        repeat (first | refine guard_t rfl rfl rfl ?_ | refine stepY (y_move rfl) rfl ?_ | refine stepY (y_loadA rfl rfl rfl) rfl ?_)
        refine call_ Try.func52 rfl rfl (he2) rfl (by repeat (first | exact .refl _ | apply Les.cons | exact .nil)) rfl ?_
        repeat (first | refine seq_ ?_ | refine nil_ ?_ | refine skip_ ?_ | refine cond_f rfl ?_ | refine stepY (y_pick_f rfl rfl) rfl ?_)
        refine draw_ [(0, true), (1, true), (2, true), (3, true), (4, true), (5, true), (6, true), (7, true), (8, true), (9, true), (10, true), (11, true)] 1000 [2, 3, 4] mixed (by kernel_rfl) rfl ?_
        ((refine dY rfl (y_fieldAddr rfl) rfl rfl rfl rfl ?_); refine dY rfl (y_load1 rfl rfl rfl) rfl rfl rfl rfl ?_; refine dY rfl (y_fieldAddr rfl) rfl rfl rfl rfl ?_; refine dY rfl (y_load1 rfl rfl rfl) rfl rfl rfl rfl ?_; refine dY rfl (y_max rfl rfl) rfl rfl rfl rfl ?_; refine dY rfl (y_fieldAddr rfl) rfl rfl rfl rfl ?_; refine dY rfl (y_load1 rfl rfl rfl) rfl rfl rfl rfl ?_; refine dY rfl (y_fieldAddr rfl) rfl rfl rfl rfl ?_; refine dY rfl (y_load1 rfl rfl rfl) rfl rfl rfl rfl ?_; refine dY rfl (y_max rfl rfl) rfl rfl rfl rfl ?_; refine dY rfl (y_assign rfl) rfl rfl rfl rfl ?_; refine dY rfl (y_assign rfl) rfl rfl rfl rfl ?_; refine dEnd ?_)
        repeat (refine seq_ ?_)
        refine draw_ [(0, true), (1, true), (2, true), (3, true), (4, true), (5, true), (6, true), (7, true), (8, true), (9, true), (10, true), (11, true), (12, true), (13, true), (14, true), (15, true), (16, true), (17, true), (18, true), (19, true), (20, true), (21, true), (22, true), (23, true), (24, true), (25, true), (26, true), (27, true)] 1000 [2, 3, 4] mixed (by kernel_rfl) rfl ?_
        ((refine dY rfl (y_fieldAddr rfl) rfl rfl rfl rfl ?_); refine dY rfl (y_load1 rfl rfl rfl) rfl rfl rfl rfl ?_; refine dY rfl (y_fieldAddr rfl) rfl rfl rfl rfl ?_; refine dY rfl (y_load1 rfl rfl rfl) rfl rfl rfl rfl ?_; refine dY rfl (y_binn rfl rfl rfl (by simp only [InK, loK, hiK]; omega)) rfl rfl rfl rfl ?_; refine dY rfl (y_fieldAddr rfl) rfl rfl rfl rfl ?_; refine dY rfl (y_load1 rfl rfl rfl) rfl rfl rfl rfl ?_; refine dY rfl (y_fieldAddr rfl) rfl rfl rfl rfl ?_; refine dY rfl (y_load1 rfl rfl rfl) rfl rfl rfl rfl ?_; refine dY rfl (y_binn rfl rfl rfl (by simp only [InK, loK, hiK]; omega)) rfl rfl rfl rfl ?_; refine dY rfl (y_min rfl rfl) rfl rfl rfl rfl ?_; refine dY rfl (y_move rfl) rfl rfl rfl rfl ?_; refine dY rfl (y_binn rfl rfl rfl (by simp only [InK, loK, hiK]; omega)) rfl rfl rfl rfl ?_; refine dY rfl (y_fieldAddr rfl) rfl rfl rfl rfl ?_; refine dY rfl (y_load1 rfl rfl rfl) rfl rfl rfl rfl ?_; refine dY rfl (y_fieldAddr rfl) rfl rfl rfl rfl ?_; refine dY rfl (y_load1 rfl rfl rfl) rfl rfl rfl rfl ?_; refine dY rfl (y_binn rfl rfl rfl (by simp only [InK, loK, hiK]; omega)) rfl rfl rfl rfl ?_; refine dY rfl (y_fieldAddr rfl) rfl rfl rfl rfl ?_; refine dY rfl (y_load1 rfl rfl rfl) rfl rfl rfl rfl ?_; refine dY rfl (y_fieldAddr rfl) rfl rfl rfl rfl ?_; refine dY rfl (y_load1 rfl rfl rfl) rfl rfl rfl rfl ?_; refine dY rfl (y_binn rfl rfl rfl (by simp only [InK, loK, hiK]; omega)) rfl rfl rfl rfl ?_; refine dY rfl (y_min rfl rfl) rfl rfl rfl rfl ?_; refine dY rfl (y_move rfl) rfl rfl rfl rfl ?_; refine dY rfl (y_binn rfl rfl rfl (by simp only [InK, loK, hiK]; omega)) rfl rfl rfl rfl ?_; refine dY rfl (y_assign rfl) rfl rfl rfl rfl ?_; refine dY rfl (y_assign rfl) rfl rfl rfl rfl ?_; refine dEnd ?_)
        repeat (first | refine seq_ ?_ | refine region_ ?_ | refine nil_ ?_ | refine ret_ ?_ | refine cond_t rfl ?_ | refine guard_f rfl rfl rfl rfl ?_ | refine stepY (y_move rfl) rfl ?_ | refine stepY (y_assign rfl) rfl ?_ | refine stepY (y_pick_t rfl rfl) rfl ?_ | refine stepY (y_build rfl rfl rfl) rfl ?_ | refine stepY (y_cmpT rfl rfl rfl (by omega)) rfl ?_ | refine stepE (e_store rfl rfl rfl rfl rfl rfl rfl) ?_)
        ((apply fin_r); (repeat (first | exact .nil | exact .tmp rfl | exact .agg rfl rfl rfl | apply ResL.cons)); (repeat (exact .refl _)))
      · by_cases c2 : (if y' + h' < y + h then y' + h' else y + h) - (if y < y' then y' else y) < 1
        · rw [if_pos (.inr c2)]
          repeat (first | refine seq_ ?_ | refine region_ ?_ | refine nil_ ?_ | refine stepY (y_assign rfl) rfl ?_ | refine stepY (y_loadA rfl rfl rfl) rfl ?_ | refine stepE (e_box rfl rfl rfl rfl rfl rfl) ?_ | refine stepE (e_alloc rfl rfl rfl) ?_)
          refine call_ Try.func52 rfl rfl (he1) rfl (by repeat (first | exact .refl _ | apply Les.cons | exact .nil)) rfl ?_
          repeat (first | refine guard_t rfl rfl rfl ?_ | refine stepY (y_move rfl) rfl ?_ | refine stepY (y_loadA rfl rfl rfl) rfl ?_)
          refine call_ Try.func52 rfl rfl (he2) rfl (by repeat (first | exact .refl _ | apply Les.cons | exact .nil)) rfl ?_
          repeat (first | refine seq_ ?_ | refine nil_ ?_ | refine skip_ ?_ | refine cond_f rfl ?_ | refine stepY (y_pick_f rfl rfl) rfl ?_)
          refine draw_ [(0, true), (1, true), (2, true), (3, true), (4, true), (5, true), (6, true), (7, true), (8, true), (9, true), (10, true), (11, true)] 1000 [2, 3, 4] mixed (by kernel_rfl) rfl ?_
          ((refine dY rfl (y_fieldAddr rfl) rfl rfl rfl rfl ?_); refine dY rfl (y_load1 rfl rfl rfl) rfl rfl rfl rfl ?_; refine dY rfl (y_fieldAddr rfl) rfl rfl rfl rfl ?_; refine dY rfl (y_load1 rfl rfl rfl) rfl rfl rfl rfl ?_; refine dY rfl (y_max rfl rfl) rfl rfl rfl rfl ?_; refine dY rfl (y_fieldAddr rfl) rfl rfl rfl rfl ?_; refine dY rfl (y_load1 rfl rfl rfl) rfl rfl rfl rfl ?_; refine dY rfl (y_fieldAddr rfl) rfl rfl rfl rfl ?_; refine dY rfl (y_load1 rfl rfl rfl) rfl rfl rfl rfl ?_; refine dY rfl (y_max rfl rfl) rfl rfl rfl rfl ?_; refine dY rfl (y_assign rfl) rfl rfl rfl rfl ?_; refine dY rfl (y_assign rfl) rfl rfl rfl rfl ?_; refine dEnd ?_)
          repeat (refine seq_ ?_)
          refine draw_ [(0, true), (1, true), (2, true), (3, true), (4, true), (5, true), (6, true), (7, true), (8, true), (9, true), (10, true), (11, true), (12, true), (13, true), (14, true), (15, true), (16, true), (17, true), (18, true), (19, true), (20, true), (21, true), (22, true), (23, true), (24, true), (25, true), (26, true), (27, true)] 1000 [2, 3, 4] mixed (by kernel_rfl) rfl ?_
          ((refine dY rfl (y_fieldAddr rfl) rfl rfl rfl rfl ?_); refine dY rfl (y_load1 rfl rfl rfl) rfl rfl rfl rfl ?_; refine dY rfl (y_fieldAddr rfl) rfl rfl rfl rfl ?_; refine dY rfl (y_load1 rfl rfl rfl) rfl rfl rfl rfl ?_; refine dY rfl (y_binn rfl rfl rfl (by simp only [InK, loK, hiK]; omega)) rfl rfl rfl rfl ?_; refine dY rfl (y_fieldAddr rfl) rfl rfl rfl rfl ?_; refine dY rfl (y_load1 rfl rfl rfl) rfl rfl rfl rfl ?_; refine dY rfl (y_fieldAddr rfl) rfl rfl rfl rfl ?_; refine dY rfl (y_load1 rfl rfl rfl) rfl rfl rfl rfl ?_; refine dY rfl (y_binn rfl rfl rfl (by simp only [InK, loK, hiK]; omega)) rfl rfl rfl rfl ?_; refine dY rfl (y_min rfl rfl) rfl rfl rfl rfl ?_; refine dY rfl (y_move rfl) rfl rfl rfl rfl ?_; refine dY rfl (y_binn rfl rfl rfl (by simp only [InK, loK, hiK]; omega)) rfl rfl rfl rfl ?_; refine dY rfl (y_fieldAddr rfl) rfl rfl rfl rfl ?_; refine dY rfl (y_load1 rfl rfl rfl) rfl rfl rfl rfl ?_; refine dY rfl (y_fieldAddr rfl) rfl rfl rfl rfl ?_; refine dY rfl (y_load1 rfl rfl rfl) rfl rfl rfl rfl ?_; refine dY rfl (y_binn rfl rfl rfl (by simp only [InK, loK, hiK]; omega)) rfl rfl rfl rfl ?_; refine dY rfl (y_fieldAddr rfl) rfl rfl rfl rfl ?_; refine dY rfl (y_load1 rfl rfl rfl) rfl rfl rfl rfl ?_; refine dY rfl (y_fieldAddr rfl) rfl rfl rfl rfl ?_; refine dY rfl (y_load1 rfl rfl rfl) rfl rfl rfl rfl ?_; refine dY rfl (y_binn rfl rfl rfl (by simp only [InK, loK, hiK]; omega)) rfl rfl rfl rfl ?_; refine dY rfl (y_min rfl rfl) rfl rfl rfl rfl ?_; refine dY rfl (y_move rfl) rfl rfl rfl rfl ?_; refine dY rfl (y_binn rfl rfl rfl (by simp only [InK, loK, hiK]; omega)) rfl rfl rfl rfl ?_; refine dY rfl (y_assign rfl) rfl rfl rfl rfl ?_; refine dY rfl (y_assign rfl) rfl rfl rfl rfl ?_; refine dEnd ?_)
          repeat (first | refine seq_ ?_ | refine region_ ?_ | refine nil_ ?_ | refine ret_ ?_ | refine cond_t rfl ?_ | refine guard_t rfl rfl rfl ?_ | refine stepY (y_move rfl) rfl ?_ | refine stepY (y_assign rfl) rfl ?_ | refine stepY (y_pick_f rfl rfl) rfl ?_ | refine stepY (y_build rfl rfl rfl) rfl ?_ | (first | refine stepY (y_cmpT rfl rfl rfl (by omega)) rfl ?_ | refine stepY (y_cmpF rfl rfl rfl (by omega)) rfl ?_) | refine stepE (e_store rfl rfl rfl rfl rfl rfl rfl) ?_)
          ((apply fin_r); (repeat (first | exact .nil | exact .tmp rfl | exact .agg rfl rfl rfl | apply ResL.cons)); (repeat (exact .refl _)))
        · rw [if_neg (by rintro (g | g); exact c1 g; exact c2 g)]
          repeat (first | refine seq_ ?_ | refine region_ ?_ | refine nil_ ?_ | refine stepY (y_assign rfl) rfl ?_ | refine stepY (y_loadA rfl rfl rfl) rfl ?_ | refine stepE (e_box rfl rfl rfl rfl rfl rfl) ?_ | refine stepE (e_alloc rfl rfl rfl) ?_)
          refine call_ Try.func52 rfl rfl (he1) rfl (by repeat (first | exact .refl _ | apply Les.cons | exact .nil)) rfl ?_
          repeat (first | refine guard_t rfl rfl rfl ?_ | refine stepY (y_move rfl) rfl ?_ | refine stepY (y_loadA rfl rfl rfl) rfl ?_)
          refine call_ Try.func52 rfl rfl (he2) rfl (by repeat (first | exact .refl _ | apply Les.cons | exact .nil)) rfl ?_
          repeat (first | refine seq_ ?_ | refine nil_ ?_ | refine skip_ ?_ | refine cond_f rfl ?_ | refine stepY (y_pick_f rfl rfl) rfl ?_)
          refine draw_ [(0, true), (1, true), (2, true), (3, true), (4, true), (5, true), (6, true), (7, true), (8, true), (9, true), (10, true), (11, true)] 1000 [2, 3, 4] mixed (by kernel_rfl) rfl ?_
          ((refine dY rfl (y_fieldAddr rfl) rfl rfl rfl rfl ?_); refine dY rfl (y_load1 rfl rfl rfl) rfl rfl rfl rfl ?_; refine dY rfl (y_fieldAddr rfl) rfl rfl rfl rfl ?_; refine dY rfl (y_load1 rfl rfl rfl) rfl rfl rfl rfl ?_; refine dY rfl (y_max rfl rfl) rfl rfl rfl rfl ?_; refine dY rfl (y_fieldAddr rfl) rfl rfl rfl rfl ?_; refine dY rfl (y_load1 rfl rfl rfl) rfl rfl rfl rfl ?_; refine dY rfl (y_fieldAddr rfl) rfl rfl rfl rfl ?_; refine dY rfl (y_load1 rfl rfl rfl) rfl rfl rfl rfl ?_; refine dY rfl (y_max rfl rfl) rfl rfl rfl rfl ?_; refine dY rfl (y_assign rfl) rfl rfl rfl rfl ?_; refine dY rfl (y_assign rfl) rfl rfl rfl rfl ?_; refine dEnd ?_)
          repeat (refine seq_ ?_)
          refine draw_ [(0, true), (1, true), (2, true), (3, true), (4, true), (5, true), (6, true), (7, true), (8, true), (9, true), (10, true), (11, true), (12, true), (13, true), (14, true), (15, true), (16, true), (17, true), (18, true), (19, true), (20, true), (21, true), (22, true), (23, true), (24, true), (25, true), (26, true), (27, true)] 1000 [2, 3, 4] mixed (by kernel_rfl) rfl ?_
          ((refine dY rfl (y_fieldAddr rfl) rfl rfl rfl rfl ?_); refine dY rfl (y_load1 rfl rfl rfl) rfl rfl rfl rfl ?_; refine dY rfl (y_fieldAddr rfl) rfl rfl rfl rfl ?_; refine dY rfl (y_load1 rfl rfl rfl) rfl rfl rfl rfl ?_; refine dY rfl (y_binn rfl rfl rfl (by simp only [InK, loK, hiK]; omega)) rfl rfl rfl rfl ?_; refine dY rfl (y_fieldAddr rfl) rfl rfl rfl rfl ?_; refine dY rfl (y_load1 rfl rfl rfl) rfl rfl rfl rfl ?_; refine dY rfl (y_fieldAddr rfl) rfl rfl rfl rfl ?_; refine dY rfl (y_load1 rfl rfl rfl) rfl rfl rfl rfl ?_; refine dY rfl (y_binn rfl rfl rfl (by simp only [InK, loK, hiK]; omega)) rfl rfl rfl rfl ?_; refine dY rfl (y_min rfl rfl) rfl rfl rfl rfl ?_; refine dY rfl (y_move rfl) rfl rfl rfl rfl ?_; refine dY rfl (y_binn rfl rfl rfl (by simp only [InK, loK, hiK]; omega)) rfl rfl rfl rfl ?_; refine dY rfl (y_fieldAddr rfl) rfl rfl rfl rfl ?_; refine dY rfl (y_load1 rfl rfl rfl) rfl rfl rfl rfl ?_; refine dY rfl (y_fieldAddr rfl) rfl rfl rfl rfl ?_; refine dY rfl (y_load1 rfl rfl rfl) rfl rfl rfl rfl ?_; refine dY rfl (y_binn rfl rfl rfl (by simp only [InK, loK, hiK]; omega)) rfl rfl rfl rfl ?_; refine dY rfl (y_fieldAddr rfl) rfl rfl rfl rfl ?_; refine dY rfl (y_load1 rfl rfl rfl) rfl rfl rfl rfl ?_; refine dY rfl (y_fieldAddr rfl) rfl rfl rfl rfl ?_; refine dY rfl (y_load1 rfl rfl rfl) rfl rfl rfl rfl ?_; refine dY rfl (y_binn rfl rfl rfl (by simp only [InK, loK, hiK]; omega)) rfl rfl rfl rfl ?_; refine dY rfl (y_min rfl rfl) rfl rfl rfl rfl ?_; refine dY rfl (y_move rfl) rfl rfl rfl rfl ?_; refine dY rfl (y_binn rfl rfl rfl (by simp only [InK, loK, hiK]; omega)) rfl rfl rfl rfl ?_; refine dY rfl (y_assign rfl) rfl rfl rfl rfl ?_; refine dY rfl (y_assign rfl) rfl rfl rfl rfl ?_; refine dEnd ?_)
          repeat (first | refine seq_ ?_ | refine region_ ?_ | refine nil_ ?_ | refine skip_ ?_ | refine ret_ ?_ | refine cond_f rfl ?_ | refine guard_t rfl rfl rfl ?_ | refine stepY (y_move rfl) rfl ?_ | refine stepY (y_assign rfl) rfl ?_ | refine stepY (y_pick_f rfl rfl) rfl ?_ | refine stepY (y_build rfl rfl rfl) rfl ?_ | refine stepY (y_cmpF rfl rfl rfl (by omega)) rfl ?_ | refine stepE (e_store rfl rfl rfl rfl rfl rfl rfl) ?_)
          ((apply fin_r); (repeat (first | exact .nil | exact .tmp rfl | exact .agg rfl rfl rfl | apply ResL.cons)); (repeat (exact .refl _)))
theorem ROverlap_c (x y w h x' y' w' h' : Int) : Con Try.prog 25 [b4 x y w h, b4 x' y' w' h'] (.tp [bP (ovR x y w h x' y' w' h').1, Bo (ovR x y w h x' y' w' h').2]) := by
  refine con_of Try.func25 rfl rfl rfl rfl rfl ?_
  have he1 := Empty_c x y w h
  have he2 := Empty_c x' y' w' h'
  unfold ovR
  cases h1 : emB x y w h with
  | true =>
    rw [h1] at he1
    rw [if_pos (by simp)]
    repeat (first | refine seq_ ?_ | refine region_ ?_ | refine nil_ ?_ | refine stepY (y_assign rfl) rfl ?_ | refine stepY (y_loadA rfl rfl rfl) rfl ?_ | refine stepE (e_box rfl rfl rfl rfl rfl rfl) ?_ | refine stepE (e_alloc rfl rfl rfl) ?_)
    refine call_ Try.func28 rfl rfl (he1) rfl (by repeat (first | exact .refl _ | apply Les.cons | exact .nil)) rfl ?_
    repeat (first | refine seq_ ?_ | refine region_ ?_ | refine nil_ ?_ | refine ret_ ?_ | refine cond_t rfl ?_ | refine guard_f rfl rfl rfl rfl ?_ | refine stepY (y_move rfl) rfl ?_ | refine stepY (y_assign rfl) rfl ?_ | refine stepY (y_pick_t rfl rfl) rfl ?_ | refine stepY (y_build rfl rfl rfl) rfl ?_ | refine stepE (e_store rfl rfl rfl rfl rfl rfl rfl) ?_)
    ((apply fin_r); (repeat (first | exact .nil | exact .tmp rfl | exact .agg rfl rfl rfl | apply ResL.cons)); (repeat (exact .refl _)))
  | false =>
    rw [h1] at he1
    cases h2 : emB x' y' w' h' with
    | true =>
      rw [h2] at he2
      rw [if_pos (by simp)]
      repeat (first | refine seq_ ?_ | refine region_ ?_ | refine nil_ ?_ | refine stepY (y_assign rfl) rfl ?_ | refine stepY (y_loadA rfl rfl rfl) rfl ?_ | refine stepE (e_box rfl rfl rfl rfl rfl rfl) ?_ | refine stepE (e_alloc rfl rfl rfl) ?_)
      refine call_ Try.func28 rfl rfl (he1) rfl (by repeat (first | exact .refl _ | apply Les.cons | exact .nil)) rfl ?_
      repeat (first | refine guard_t rfl rfl rfl ?_ | refine stepY (y_move rfl) rfl ?_ | refine stepY (y_loadA rfl rfl rfl) rfl ?_)
      refine call_ Try.func28 rfl rfl (he2) rfl (by repeat (first | exact .refl _ | apply Les.cons | exact .nil)) rfl ?_
      repeat (first | refine seq_ ?_ | refine region_ ?_ | refine nil_ ?_ | refine ret_ ?_ | refine cond_t rfl ?_ | refine stepY (y_assign rfl) rfl ?_ | refine stepY (y_pick_f rfl rfl) rfl ?_ | refine stepY (y_build rfl rfl rfl) rfl ?_ | refine stepE (e_store rfl rfl rfl rfl rfl rfl rfl) ?_)
      ((apply fin_r); (repeat (first | exact .nil | exact .tmp rfl | exact .agg rfl rfl rfl | apply ResL.cons)); (repeat (exact .refl _)))
    | false =>
      rw [h2] at he2
      rw [if_neg (by simp)]
      obtain ⟨a1, a2, a3, a4, a5, a6⟩ := em_no h1
      obtain ⟨b1, b2, b3, b4, b5, b6⟩ := em_no h2
      unfold mx mn
      have hX : fitP (if x < x' then x' else x) := by split <;> assumption
      have hY : fitP (if y < y' then y' else y) := by split <;> assumption
      have hW : -1073741824 ≤ (if x' + w' < x + w then x' + w' else x + w) ∧ (if x' + w' < x + w then x' + w' else x + w) ≤ 2147483648 := by split <;> omega
      have hH : -1073741824 ≤ (if y' + h' < y + h then y' + h' else y + h) ∧ (if y' + h' < y + h then y' + h' else y + h) ≤ 2147483648 := by split <;> omega
      by_cases c1 : (if x' + w' < x + w then x' + w' else x + w) - (if x < x' then x' else x) < 1
      · rw [if_pos (.inl c1)]
        repeat (first | refine seq_ ?_ | refine region_ ?_ | refine nil_ ?_ | refine stepY (y_assign rfl) rfl ?_ | refine stepY (y_loadA rfl rfl rfl) rfl ?_ | refine stepE (e_box rfl rfl rfl rfl rfl rfl) ?_ | refine stepE (e_alloc rfl rfl rfl) ?_)
        refine call_ Try.func28 rfl rfl (he1) rfl (by repeat (first | exact .refl _ | apply Les.cons | exact .nil)) rfl ?_
        repeat (first | refine guard_t rfl rfl rfl ?_ | refine stepY (y_move rfl) rfl ?_ | refine stepY (y_loadA rfl rfl rfl) rfl ?_)
        refine call_ Try.func28 rfl rfl (he2) rfl (by repeat (first | exact .refl _ | apply Les.cons | exact .nil)) rfl ?_
        repeat (first | refine seq_ ?_ | refine nil_ ?_ | refine skip_ ?_ | refine cond_f rfl ?_ | refine stepY (y_pick_f rfl rfl) rfl ?_)
        refine draw_ [(0, true), (1, true), (2, true), (3, true), (4, true), (5, true), (6, true), (7, true), (8, true), (9, true), (10, true), (11, true)] 1000 [2, 3, 4] mixed (by kernel_rfl) rfl ?_
        ((refine dY rfl (y_fieldAddr rfl) rfl rfl rfl rfl ?_); refine dY rfl (y_load1 rfl rfl rfl) rfl rfl rfl rfl ?_; refine dY rfl (y_fieldAddr rfl) rfl rfl rfl rfl ?_; refine dY rfl (y_load1 rfl rfl rfl) rfl rfl rfl rfl ?_; refine dY rfl (y_max rfl rfl) rfl rfl rfl rfl ?_; refine dY rfl (y_fieldAddr rfl) rfl rfl rfl rfl ?_; refine dY rfl (y_load1 rfl rfl rfl) rfl rfl rfl rfl ?_; refine dY rfl (y_fieldAddr rfl) rfl rfl rfl rfl ?_; refine dY rfl (y_load1 rfl rfl rfl) rfl rfl rfl rfl ?_; refine dY rfl (y_max rfl rfl) rfl rfl rfl rfl ?_; refine dY rfl (y_assign rfl) rfl rfl rfl rfl ?_; refine dY rfl (y_assign rfl) rfl rfl rfl rfl ?_; refine dEnd ?_)
        repeat (refine seq_ ?_)
        refine draw_ [(0, true), (1, true), (2, true), (3, true), (4, true), (5, true), (6, true), (7, true), (8, true), (9, true), (10, true), (11, true), (12, true), (13, true), (14, true), (15, true), (16, true), (17, true), (18, true), (19, true), (20, true), (21, true), (22, true), (23, true), (24, true), (25, true), (26, true), (27, true)] 1000 [2, 3, 4] mixed (by kernel_rfl) rfl ?_
        ((refine dY rfl (y_fieldAddr rfl) rfl rfl rfl rfl ?_); refine dY rfl (y_load1 rfl rfl rfl) rfl rfl rfl rfl ?_; refine dY rfl (y_fieldAddr rfl) rfl rfl rfl rfl ?_; refine dY rfl (y_load1 rfl rfl rfl) rfl rfl rfl rfl ?_; refine dY rfl (y_binn rfl rfl rfl (by simp only [InK, loK, hiK]; omega)) rfl rfl rfl rfl ?_; refine dY rfl (y_fieldAddr rfl) rfl rfl rfl rfl ?_; refine dY rfl (y_load1 rfl rfl rfl) rfl rfl rfl rfl ?_; refine dY rfl (y_fieldAddr rfl) rfl rfl rfl rfl ?_; refine dY rfl (y_load1 rfl rfl rfl) rfl rfl rfl rfl ?_; refine dY rfl (y_binn rfl rfl rfl (by simp only [InK, loK, hiK]; omega)) rfl rfl rfl rfl ?_; refine dY rfl (y_min rfl rfl) rfl rfl rfl rfl ?_; refine dY rfl (y_move rfl) rfl rfl rfl rfl ?_; refine dY rfl (y_binn rfl rfl rfl (by simp only [InK, loK, hiK]; omega)) rfl rfl rfl rfl ?_; refine dY rfl (y_fieldAddr rfl) rfl rfl rfl rfl ?_; refine dY rfl (y_load1 rfl rfl rfl) rfl rfl rfl rfl ?_; refine dY rfl (y_fieldAddr rfl) rfl rfl rfl rfl ?_; refine dY rfl (y_load1 rfl rfl rfl) rfl rfl rfl rfl ?_; refine dY rfl (y_binn rfl rfl rfl (by simp only [InK, loK, hiK]; omega)) rfl rfl rfl rfl ?_; refine dY rfl (y_fieldAddr rfl) rfl rfl rfl rfl ?_; refine dY rfl (y_load1 rfl rfl rfl) rfl rfl rfl rfl ?_; refine dY rfl (y_fieldAddr rfl) rfl rfl rfl rfl ?_; refine dY rfl (y_load1 rfl rfl rfl) rfl rfl rfl rfl ?_; refine dY rfl (y_binn rfl rfl rfl (by simp only [InK, loK, hiK]; omega)) rfl rfl rfl rfl ?_; refine dY rfl (y_min rfl rfl) rfl rfl rfl rfl ?_; refine dY rfl (y_move rfl) rfl rfl rfl rfl ?_; refine dY rfl (y_binn rfl rfl rfl (by simp only [InK, loK, hiK]; omega)) rfl rfl rfl rfl ?_; refine dY rfl (y_assign rfl) rfl rfl rfl rfl ?_; refine dY rfl (y_assign rfl) rfl rfl rfl rfl ?_; refine dEnd ?_)
        repeat (first | refine seq_ ?_ | refine region_ ?_ | refine nil_ ?_ | refine ret_ ?_ | refine cond_t rfl ?_ | refine guard_f rfl rfl rfl rfl ?_ | refine stepY (y_move rfl) rfl ?_ | refine stepY (y_assign rfl) rfl ?_ | refine stepY (y_pick_t rfl rfl) rfl ?_ | refine stepY (y_build rfl rfl rfl) rfl ?_ | refine stepY (y_cmpT rfl rfl rfl (by omega)) rfl ?_ | refine stepE (e_store rfl rfl rfl rfl rfl rfl rfl) ?_)
        ((apply fin_r); (repeat (first | exact .nil | exact .tmp rfl | exact .agg rfl rfl rfl | apply ResL.cons)); (repeat (exact .refl _)))
      · by_cases c2 : (if y' + h' < y + h then y' + h' else y + h) - (if y < y' then y' else y) < 1
        · rw [if_pos (.inr c2)]
          repeat (first | refine seq_ ?_ | refine region_ ?_ | refine nil_ ?_ | refine stepY (y_assign rfl) rfl ?_ | refine stepY (y_loadA rfl rfl rfl) rfl ?_ | refine stepE (e_box rfl rfl rfl rfl rfl rfl) ?_ | refine stepE (e_alloc rfl rfl rfl) ?_)
          refine call_ Try.func28 rfl rfl (he1) rfl (by repeat (first | exact .refl _ | apply Les.cons | exact .nil)) rfl ?_
          repeat (first | refine guard_t rfl rfl rfl ?_ | refine stepY (y_move rfl) rfl ?_ | refine stepY (y_loadA rfl rfl rfl) rfl ?_)
          refine call_ Try.func28 rfl rfl (he2) rfl (by repeat (first | exact .refl _ | apply Les.cons | exact .nil)) rfl ?_
          repeat (first | refine seq_ ?_ | refine nil_ ?_ | refine skip_ ?_ | refine cond_f rfl ?_ | refine stepY (y_pick_f rfl rfl) rfl ?_)
          refine draw_ [(0, true), (1, true), (2, true), (3, true), (4, true), (5, true), (6, true), (7, true), (8, true), (9, true), (10, true), (11, true)] 1000 [2, 3, 4] mixed (by kernel_rfl) rfl ?_
          ((refine dY rfl (y_fieldAddr rfl) rfl rfl rfl rfl ?_); refine dY rfl (y_load1 rfl rfl rfl) rfl rfl rfl rfl ?_; refine dY rfl (y_fieldAddr rfl) rfl rfl rfl rfl ?_; refine dY rfl (y_load1 rfl rfl rfl) rfl rfl rfl rfl ?_; refine dY rfl (y_max rfl rfl) rfl rfl rfl rfl ?_; refine dY rfl (y_fieldAddr rfl) rfl rfl rfl rfl ?_; refine dY rfl (y_load1 rfl rfl rfl) rfl rfl rfl rfl ?_; refine dY rfl (y_fieldAddr rfl) rfl rfl rfl rfl ?_; refine dY rfl (y_load1 rfl rfl rfl) rfl rfl rfl rfl ?_; refine dY rfl (y_max rfl rfl) rfl rfl rfl rfl ?_; refine dY rfl (y_assign rfl) rfl rfl rfl rfl ?_; refine dY rfl (y_assign rfl) rfl rfl rfl rfl ?_; refine dEnd ?_)
          repeat (refine seq_ ?_)
          refine draw_ [(0, true), (1, true), (2, true), (3, true), (4, true), (5, true), (6, true), (7, true), (8, true), (9, true), (10, true), (11, true), (12, true), (13, true), (14, true), (15, true), (16, true), (17, true), (18, true), (19, true), (20, true), (21, true), (22, true), (23, true), (24, true), (25, true), (26, true), (27, true)] 1000 [2, 3, 4] mixed (by kernel_rfl) rfl ?_
          ((refine dY rfl (y_fieldAddr rfl) rfl rfl rfl rfl ?_); refine dY rfl (y_load1 rfl rfl rfl) rfl rfl rfl rfl ?_; refine dY rfl (y_fieldAddr rfl) rfl rfl rfl rfl ?_; refine dY rfl (y_load1 rfl rfl rfl) rfl rfl rfl rfl ?_; refine dY rfl (y_binn rfl rfl rfl (by simp only [InK, loK, hiK]; omega)) rfl rfl rfl rfl ?_; refine dY rfl (y_fieldAddr rfl) rfl rfl rfl rfl ?_; refine dY rfl (y_load1 rfl rfl rfl) rfl rfl rfl rfl ?_; refine dY rfl (y_fieldAddr rfl) rfl rfl rfl rfl ?_; refine dY rfl (y_load1 rfl rfl rfl) rfl rfl rfl rfl ?_; refine dY rfl (y_binn rfl rfl rfl (by simp only [InK, loK, hiK]; omega)) rfl rfl rfl rfl ?_; refine dY rfl (y_min rfl rfl) rfl rfl rfl rfl ?_; refine dY rfl (y_move rfl) rfl rfl rfl rfl ?_; refine dY rfl (y_binn rfl rfl rfl (by simp only [InK, loK, hiK]; omega)) rfl rfl rfl rfl ?_; refine dY rfl (y_fieldAddr rfl) rfl rfl rfl rfl ?_; refine dY rfl (y_load1 rfl rfl rfl) rfl rfl rfl rfl ?_; refine dY rfl (y_fieldAddr rfl) rfl rfl rfl rfl ?_; refine dY rfl (y_load1 rfl rfl rfl) rfl rfl rfl rfl ?_; refine dY rfl (y_binn rfl rfl rfl (by simp only [InK, loK, hiK]; omega)) rfl rfl rfl rfl ?_; refine dY rfl (y_fieldAddr rfl) rfl rfl rfl rfl ?_; refine dY rfl (y_load1 rfl rfl rfl) rfl rfl rfl rfl ?_; refine dY rfl (y_fieldAddr rfl) rfl rfl rfl rfl ?_; refine dY rfl (y_load1 rfl rfl rfl) rfl rfl rfl rfl ?_; refine dY rfl (y_binn rfl rfl rfl (by simp only [InK, loK, hiK]; omega)) rfl rfl rfl rfl ?_; refine dY rfl (y_min rfl rfl) rfl rfl rfl rfl ?_; refine dY rfl (y_move rfl) rfl rfl rfl rfl ?_; refine dY rfl (y_binn rfl rfl rfl (by simp only [InK, loK, hiK]; omega)) rfl rfl rfl rfl ?_; refine dY rfl (y_assign rfl) rfl rfl rfl rfl ?_; refine dY rfl (y_assign rfl) rfl rfl rfl rfl ?_; refine dEnd ?_)
          repeat (first | refine seq_ ?_ | refine region_ ?_ | refine nil_ ?_ | refine ret_ ?_ | refine cond_t rfl ?_ | refine guard_t rfl rfl rfl ?_ | refine stepY (y_move rfl) rfl ?_ | refine stepY (y_assign rfl) rfl ?_ | refine stepY (y_pick_f rfl rfl) rfl ?_ | refine stepY (y_build rfl rfl rfl) rfl ?_ | (first | refine stepY (y_cmpT rfl rfl rfl (by omega)) rfl ?_ | refine stepY (y_cmpF rfl rfl rfl (by omega)) rfl ?_) | refine stepE (e_store rfl rfl rfl rfl rfl rfl rfl) ?_)
          ((apply fin_r); (repeat (first | exact .nil | exact .tmp rfl | exact .agg rfl rfl rfl | apply ResL.cons)); (repeat (exact .refl _)))
        · rw [if_neg (by rintro (g | g); exact c1 g; exact c2 g)]
          repeat (first | refine seq_ ?_ | refine region_ ?_ | refine nil_ ?_ | refine stepY (y_assign rfl) rfl ?_ | refine stepY (y_loadA rfl rfl rfl) rfl ?_ | refine stepE (e_box rfl rfl rfl rfl rfl rfl) ?_ | refine stepE (e_alloc rfl rfl rfl) ?_)
          refine call_ Try.func28 rfl rfl (he1) rfl (by repeat (first | exact .refl _ | apply Les.cons | exact .nil)) rfl ?_
          repeat (first | refine guard_t rfl rfl rfl ?_ | refine stepY (y_move rfl) rfl ?_ | refine stepY (y_loadA rfl rfl rfl) rfl ?_)
          refine call_ Try.func28 rfl rfl (he2) rfl (by repeat (first | exact .refl _ | apply Les.cons | exact .nil)) rfl ?_
          repeat (first | refine seq_ ?_ | refine nil_ ?_ | refine skip_ ?_ | refine cond_f rfl ?_ | refine stepY (y_pick_f rfl rfl) rfl ?_)
          refine draw_ [(0, true), (1, true), (2, true), (3, true), (4, true), (5, true), (6, true), (7, true), (8, true), (9, true), (10, true), (11, true)] 1000 [2, 3, 4] mixed (by kernel_rfl) rfl ?_
          ((refine dY rfl (y_fieldAddr rfl) rfl rfl rfl rfl ?_); refine dY rfl (y_load1 rfl rfl rfl) rfl rfl rfl rfl ?_; refine dY rfl (y_fieldAddr rfl) rfl rfl rfl rfl ?_; refine dY rfl (y_load1 rfl rfl rfl) rfl rfl rfl rfl ?_; refine dY rfl (y_max rfl rfl) rfl rfl rfl rfl ?_; refine dY rfl (y_fieldAddr rfl) rfl rfl rfl rfl ?_; refine dY rfl (y_load1 rfl rfl rfl) rfl rfl rfl rfl ?_; refine dY rfl (y_fieldAddr rfl) rfl rfl rfl rfl ?_; refine dY rfl (y_load1 rfl rfl rfl) rfl rfl rfl rfl ?_; refine dY rfl (y_max rfl rfl) rfl rfl rfl rfl ?_; refine dY rfl (y_assign rfl) rfl rfl rfl rfl ?_; refine dY rfl (y_assign rfl) rfl rfl rfl rfl ?_; refine dEnd ?_)
          repeat (refine seq_ ?_)
          refine draw_ [(0, true), (1, true), (2, true), (3, true), (4, true), (5, true), (6, true), (7, true), (8, true), (9, true), (10, true), (11, true), (12, true), (13, true), (14, true), (15, true), (16, true), (17, true), (18, true), (19, true), (20, true), (21, true), (22, true), (23, true), (24, true), (25, true), (26, true), (27, true)] 1000 [2, 3, 4] mixed (by kernel_rfl) rfl ?_
          ((refine dY rfl (y_fieldAddr rfl) rfl rfl rfl rfl ?_); refine dY rfl (y_load1 rfl rfl rfl) rfl rfl rfl rfl ?_; refine dY rfl (y_fieldAddr rfl) rfl rfl rfl rfl ?_; refine dY rfl (y_load1 rfl rfl rfl) rfl rfl rfl rfl ?_; refine dY rfl (y_binn rfl rfl rfl (by simp only [InK, loK, hiK]; omega)) rfl rfl rfl rfl ?_; refine dY rfl (y_fieldAddr rfl) rfl rfl rfl rfl ?_; refine dY rfl (y_load1 rfl rfl rfl) rfl rfl rfl rfl ?_; refine dY rfl (y_fieldAddr rfl) rfl rfl rfl rfl ?_; refine dY rfl (y_load1 rfl rfl rfl) rfl rfl rfl rfl ?_; refine dY rfl (y_binn rfl rfl rfl (by simp only [InK, loK, hiK]; omega)) rfl rfl rfl rfl ?_; refine dY rfl (y_min rfl rfl) rfl rfl rfl rfl ?_; refine dY rfl (y_move rfl) rfl rfl rfl rfl ?_; refine dY rfl (y_binn rfl rfl rfl (by simp only [InK, loK, hiK]; omega)) rfl rfl rfl rfl ?_; refine dY rfl (y_fieldAddr rfl) rfl rfl rfl rfl ?_; refine dY rfl (y_load1 rfl rfl rfl) rfl rfl rfl rfl ?_; refine dY rfl (y_fieldAddr rfl) rfl rfl rfl rfl ?_; refine dY rfl (y_load1 rfl rfl rfl) rfl rfl rfl rfl ?_; refine dY rfl (y_binn rfl rfl rfl (by simp only [InK, loK, hiK]; omega)) rfl rfl rfl rfl ?_; refine dY rfl (y_fieldAddr rfl) rfl rfl rfl rfl ?_; refine dY rfl (y_load1 rfl rfl rfl) rfl rfl rfl rfl ?_; refine dY rfl (y_fieldAddr rfl) rfl rfl rfl rfl ?_; refine dY rfl (y_load1 rfl rfl rfl) rfl rfl rfl rfl ?_; refine dY rfl (y_binn rfl rfl rfl (by simp only [InK, loK, hiK]; omega)) rfl rfl rfl rfl ?_; refine dY rfl (y_min rfl rfl) rfl rfl rfl rfl ?_; refine dY rfl (y_move rfl) rfl rfl rfl rfl ?_; refine dY rfl (y_binn rfl rfl rfl (by simp only [InK, loK, hiK]; omega)) rfl rfl rfl rfl ?_; refine dY rfl (y_assign rfl) rfl rfl rfl rfl ?_; refine dY rfl (y_assign rfl) rfl rfl rfl rfl ?_; refine dEnd ?_)
          repeat (first | refine seq_ ?_ | refine region_ ?_ | refine nil_ ?_ | refine skip_ ?_ | refine ret_ ?_ | refine cond_f rfl ?_ | refine guard_t rfl rfl rfl ?_ | refine stepY (y_move rfl) rfl ?_ | refine stepY (y_assign rfl) rfl ?_ | refine stepY (y_pick_f rfl rfl) rfl ?_ | refine stepY (y_build rfl rfl rfl) rfl ?_ | refine stepY (y_cmpF rfl rfl rfl (by omega)) rfl ?_ | refine stepE (e_store rfl rfl rfl rfl rfl rfl rfl) ?_)
          ((apply fin_r); (repeat (first | exact .nil | exact .tmp rfl | exact .agg rfl rfl rfl | apply ResL.cons)); (repeat (exact .refl _)))
theorem Union_c (x y w h x' y' w' h' : Int) : Con Try.prog 26 [b4 x y w h, b4 x' y' w' h'] (bP (unR x y w h x' y' w' h')) := by
  refine con_of Try.func26 rfl rfl rfl rfl rfl ?_
  have he1 := empty_c x y w h
  have he2 := empty_c x' y' w' h'
  unfold unR
  cases h1 : emB x y w h with
  | true =>
    rw [h1] at he1
    rw [if_pos rfl]
    cases h2 : emB x' y' w' h' with
    | true =>
      rw [h2] at he2
      rw [if_pos rfl]
      repeat (first | refine seq_ ?_ | refine region_ ?_ | refine nil_ ?_ | refine block_ ?_ | refine stepY (y_loadA rfl rfl rfl) rfl ?_ | refine stepE (e_box rfl rfl rfl rfl rfl rfl) ?_ | refine stepE (e_alloc rfl rfl rfl) ?_)
      refine call_ Try.func52 rfl rfl (he1) rfl (by repeat (first | exact .refl _ | apply Les.cons | exact .nil)) rfl ?_
      repeat (first | refine guard_t rfl rfl rfl ?_ | refine stepY (y_move rfl) rfl ?_ | refine stepY (y_loadA rfl rfl rfl) rfl ?_)
      refine call_ Try.func52 rfl rfl (he2) rfl (by repeat (first | exact .refl _ | apply Les.cons | exact .nil)) rfl ?_
      repeat (first | refine seq_ ?_ | refine region_ ?_ | refine nil_ ?_ | refine ret_ ?_ | refine cond_t rfl ?_ | refine stepY (y_assign rfl) rfl ?_ | refine stepY (y_pick_t rfl rfl) rfl ?_ | refine stepY (y_build rfl rfl rfl) rfl ?_ | refine stepE (e_store rfl rfl rfl rfl rfl rfl rfl) ?_)
      ((apply fin_r); (repeat (first | exact .nil | exact .agg rfl rfl rfl | apply ResL.cons)); (repeat (exact .refl _)))
    | false =>
      rw [h2] at he2
      rw [if_neg (by decide)]
      repeat (first | refine seq_ ?_ | refine region_ ?_ | refine nil_ ?_ | refine block_ ?_ | refine stepY (y_loadA rfl rfl rfl) rfl ?_ | refine stepE (e_box rfl rfl rfl rfl rfl rfl) ?_ | refine stepE (e_alloc rfl rfl rfl) ?_)
      refine call_ Try.func52 rfl rfl (he1) rfl (by repeat (first | exact .refl _ | apply Les.cons | exact .nil)) rfl ?_
      repeat (first | refine guard_t rfl rfl rfl ?_ | refine stepY (y_move rfl) rfl ?_ | refine stepY (y_loadA rfl rfl rfl) rfl ?_)
      refine call_ Try.func52 rfl rfl (he2) rfl (by repeat (first | exact .refl _ | apply Les.cons | exact .nil)) rfl ?_
      repeat (first | refine seq_ ?_ | refine region_ ?_ | refine nil_ ?_ | refine cond_f rfl ?_ | refine stepY (y_assign rfl) rfl ?_ | refine stepY (y_loadA rfl rfl rfl) rfl ?_ | refine stepY (y_pick_t rfl rfl) rfl ?_)
      refine call_ Try.func52 rfl rfl (he1) rfl (by repeat (first | exact .refl _ | apply Les.cons | exact .nil)) rfl ?_
      repeat (first | refine seq_ ?_ | refine region_ ?_ | refine nil_ ?_ | refine ret_ ?_ | refine cond_t rfl ?_ | refine stepY (y_assign rfl) rfl ?_ | refine stepY (y_loadA rfl rfl rfl) rfl ?_ | refine stepE (e_store rfl rfl rfl rfl rfl rfl rfl) ?_)
      ((apply fin_r); (repeat (first | exact .nil | exact .agg rfl rfl rfl | apply ResL.cons)); (repeat (exact .refl _)))
  | false =>
    rw [h1] at he1
    rw [if_neg (by decide)]
    cases h2 : emB x' y' w' h' with
    | true =>
      rw [h2] at he2
      rw [if_pos rfl]
      repeat (first | refine seq_ ?_ | refine region_ ?_ | refine nil_ ?_ | refine block_ ?_ | refine stepY (y_loadA rfl rfl rfl) rfl ?_ | refine stepE (e_box rfl rfl rfl rfl rfl rfl) ?_ | refine stepE (e_alloc rfl rfl rfl) ?_)
      refine call_ Try.func52 rfl rfl (he1) rfl (by repeat (first | exact .refl _ | apply Les.cons | exact .nil)) rfl ?_
      repeat (first | refine seq_ ?_ | refine region_ ?_ | refine nil_ ?_ | refine cond_f rfl ?_ | refine guard_f rfl rfl rfl rfl ?_ | refine stepY (y_move rfl) rfl ?_ | refine stepY (y_assign rfl) rfl ?_ | refine stepY (y_loadA rfl rfl rfl) rfl ?_ | refine stepY (y_pick_f rfl rfl) rfl ?_)
      refine call_ Try.func52 rfl rfl (he1) rfl (by repeat (first | exact .refl _ | apply Les.cons | exact .nil)) rfl ?_
      repeat (first | refine seq_ ?_ | refine region_ ?_ | refine nil_ ?_ | refine cond_f rfl ?_ | refine stepY (y_assign rfl) rfl ?_ | refine stepY (y_loadA rfl rfl rfl) rfl ?_)
      refine call_ Try.func52 rfl rfl (he2) rfl (by repeat (first | exact .refl _ | apply Les.cons | exact .nil)) rfl ?_
      repeat (first | refine seq_ ?_ | refine region_ ?_ | refine nil_ ?_ | refine ret_ ?_ | refine cond_t rfl ?_ | refine stepY (y_assign rfl) rfl ?_ | refine stepY (y_loadA rfl rfl rfl) rfl ?_ | refine stepE (e_store rfl rfl rfl rfl rfl rfl rfl) ?_)
      ((apply fin_r); (repeat (first | exact .nil | exact .agg rfl rfl rfl | apply ResL.cons)); (repeat (exact .refl _)))
    | false =>
      rw [h2] at he2
      rw [if_neg (by decide)]
      obtain ⟨a1, a2, a3, a4, a5, a6⟩ := em_no h1
      obtain ⟨b1, b2, b3, b4, b5, b6⟩ := em_no h2
      unfold mx mn
      have hX : fitP (if x' < x then x' else x) := by split <;> assumption
      have hY : fitP (if y' < y then y' else y) := by split <;> assumption
      have hW : -1073741824 ≤ (if x + w < x' + w' then x' + w' else x + w) ∧ (if x + w < x' + w' then x' + w' else x + w) ≤ 2147483648 := by split <;> omega
      have hH : -1073741824 ≤ (if y + h < y' + h' then y' + h' else y + h) ∧ (if y + h < y' + h' then y' + h' else y + h) ≤ 2147483648 := by split <;> omega
      repeat (first | refine seq_ ?_ | refine region_ ?_ | refine nil_ ?_ | refine block_ ?_ | refine stepY (y_loadA rfl rfl rfl) rfl ?_ | refine stepE (e_box rfl rfl rfl rfl rfl rfl) ?_ | refine stepE (e_alloc rfl rfl rfl) ?_)
      refine call_ Try.func52 rfl rfl (he1) rfl (by repeat (first | exact .refl _ | apply Les.cons | exact .nil)) rfl ?_
      repeat (first | refine seq_ ?_ | refine region_ ?_ | refine nil_ ?_ | refine cond_f rfl ?_ | refine guard_f rfl rfl rfl rfl ?_ | refine stepY (y_move rfl) rfl ?_ | refine stepY (y_assign rfl) rfl ?_ | refine stepY (y_loadA rfl rfl rfl) rfl ?_ | refine stepY (y_pick_f rfl rfl) rfl ?_)
      refine call_ Try.func52 rfl rfl (he1) rfl (by repeat (first | exact .refl _ | apply Les.cons | exact .nil)) rfl ?_
      repeat (first | refine seq_ ?_ | refine region_ ?_ | refine nil_ ?_ | refine cond_f rfl ?_ | refine stepY (y_assign rfl) rfl ?_ | refine stepY (y_loadA rfl rfl rfl) rfl ?_)
      refine call_ Try.func52 rfl rfl (he2) rfl (by repeat (first | exact .refl _ | apply Les.cons | exact .nil)) rfl ?_
      repeat (first | refine seq_ ?_ | refine nil_ ?_ | refine skip_ ?_ | refine cond_f rfl ?_ | refine stepY (y_assign rfl) rfl ?_)
      refine draw_ [(0, true), (1, true), (2, true), (3, true), (4, true), (5, true), (6, true), (7, true), (8, true), (9, true), (10, true), (11, true)] 1000 [2, 3, 4] mixed (by kernel_rfl) rfl ?_
      ((refine dY rfl (y_fieldAddr rfl) rfl rfl rfl rfl ?_); refine dY rfl (y_load1 rfl rfl rfl) rfl rfl rfl rfl ?_; refine dY rfl (y_fieldAddr rfl) rfl rfl rfl rfl ?_; refine dY rfl (y_load1 rfl rfl rfl) rfl rfl rfl rfl ?_; refine dY rfl (y_min rfl rfl) rfl rfl rfl rfl ?_; refine dY rfl (y_fieldAddr rfl) rfl rfl rfl rfl ?_; refine dY rfl (y_load1 rfl rfl rfl) rfl rfl rfl rfl ?_; refine dY rfl (y_fieldAddr rfl) rfl rfl rfl rfl ?_; refine dY rfl (y_load1 rfl rfl rfl) rfl rfl rfl rfl ?_; refine dY rfl (y_min rfl rfl) rfl rfl rfl rfl ?_; refine dY rfl (y_assign rfl) rfl rfl rfl rfl ?_; refine dY rfl (y_assign rfl) rfl rfl rfl rfl ?_; refine dEnd ?_)
      repeat (first | refine seq_ ?_ | refine region_ ?_ | refine nil_ ?_ | refine ret_ ?_ | refine stepY (y_move rfl) rfl ?_ | refine stepY (y_load1 rfl rfl rfl) rfl ?_ | refine stepY (y_fieldAddr rfl) rfl ?_ | refine stepY (y_max rfl rfl) rfl ?_ | refine stepY (y_build rfl rfl rfl) rfl ?_ | refine stepY (y_binn rfl rfl rfl (by simp only [InK, loK, hiK]; omega)) rfl ?_ | refine stepY (y_binn rfl rfl rfl (by simp only [InK, loK, hiK]; omega)) rfl ?_ | refine stepE (e_store rfl rfl rfl rfl rfl rfl rfl) ?_)
      ((apply fin_r); (repeat (first | exact .nil | exact .agg rfl rfl rfl | apply ResL.cons)); (repeat (exact .refl _)))
theorem RUnion_c (x y w h x' y' w' h' : Int) : Con Try.prog 27 [b4 x y w h, b4 x' y' w' h'] (bP (unR x y w h x' y' w' h')) := by
  refine con_of Try.func27 rfl rfl rfl rfl rfl ?_
  have he1 := Empty_c x y w h
  have he2 := Empty_c x' y' w' h'
  unfold unR
  cases h1 : emB x y w h with
  | true =>
    rw [h1] at he1
    rw [if_pos rfl]
    cases h2 : emB x' y' w' h' with
    | true =>
      rw [h2] at he2
      rw [if_pos rfl]
      repeat (first | refine seq_ ?_ | refine region_ ?_ | refine nil_ ?_ | refine block_ ?_ | refine stepY (y_loadA rfl rfl rfl) rfl ?_ | refine stepE (e_box rfl rfl rfl rfl rfl rfl) ?_ | refine stepE (e_alloc rfl rfl rfl) ?_)
      refine call_ Try.func28 rfl rfl (he1) rfl (by repeat (first | exact .refl _ | apply Les.cons | exact .nil)) rfl ?_
      repeat (first | refine guard_t rfl rfl rfl ?_ | refine stepY (y_move rfl) rfl ?_ | refine stepY (y_loadA rfl rfl rfl) rfl ?_)
      refine call_ Try.func28 rfl rfl (he2) rfl (by repeat (first | exact .refl _ | apply Les.cons | exact .nil)) rfl ?_
      repeat (first | refine seq_ ?_ | refine region_ ?_ | refine nil_ ?_ | refine ret_ ?_ | refine cond_t rfl ?_ | refine stepY (y_assign rfl) rfl ?_ | refine stepY (y_pick_t rfl rfl) rfl ?_ | refine stepY (y_build rfl rfl rfl) rfl ?_ | refine stepE (e_store rfl rfl rfl rfl rfl rfl rfl) ?_)
      ((apply fin_r); (repeat (first | exact .nil | exact .agg rfl rfl rfl | apply ResL.cons)); (repeat (exact .refl _)))
    | false =>
      rw [h2] at he2
      rw [if_neg (by decide)]
      repeat (first | refine seq_ ?_ | refine region_ ?_ | refine nil_ ?_ | refine block_ ?_ | refine stepY (y_loadA rfl rfl rfl) rfl ?_ | refine stepE (e_box rfl rfl rfl rfl rfl rfl) ?_ | refine stepE (e_alloc rfl rfl rfl) ?_)
      refine call_ Try.func28 rfl rfl (he1) rfl (by repeat (first | exact .refl _ | apply Les.cons | exact .nil)) rfl ?_
      repeat (first | refine guard_t rfl rfl rfl ?_ | refine stepY (y_move rfl) rfl ?_ | refine stepY (y_loadA rfl rfl rfl) rfl ?_)
      refine call_ Try.func28 rfl rfl (he2) rfl (by repeat (first | exact .refl _ | apply Les.cons | exact .nil)) rfl ?_
      repeat (first | refine seq_ ?_ | refine region_ ?_ | refine nil_ ?_ | refine cond_f rfl ?_ | refine stepY (y_assign rfl) rfl ?_ | refine stepY (y_loadA rfl rfl rfl) rfl ?_ | refine stepY (y_pick_t rfl rfl) rfl ?_)
      refine call_ Try.func28 rfl rfl (he1) rfl (by repeat (first | exact .refl _ | apply Les.cons | exact .nil)) rfl ?_
      repeat (first | refine seq_ ?_ | refine region_ ?_ | refine nil_ ?_ | refine ret_ ?_ | refine cond_t rfl ?_ | refine stepY (y_assign rfl) rfl ?_ | refine stepY (y_loadA rfl rfl rfl) rfl ?_ | refine stepE (e_store rfl rfl rfl rfl rfl rfl rfl) ?_)
      ((apply fin_r); (repeat (first | exact .nil | exact .agg rfl rfl rfl | apply ResL.cons)); (repeat (exact .refl _)))
  | false =>
    rw [h1] at he1
    rw [if_neg (by decide)]
    cases h2 : emB x' y' w' h' with
    | true =>
      rw [h2] at he2
      rw [if_pos rfl]
      repeat (first | refine seq_ ?_ | refine region_ ?_ | refine nil_ ?_ | refine block_ ?_ | refine stepY (y_loadA rfl rfl rfl) rfl ?_ | refine stepE (e_box rfl rfl rfl rfl rfl rfl) ?_ | refine stepE (e_alloc rfl rfl rfl) ?_)
      refine call_ Try.func28 rfl rfl (he1) rfl (by repeat (first | exact .refl _ | apply Les.cons | exact .nil)) rfl ?_
      repeat (first | refine seq_ ?_ | refine region_ ?_ | refine nil_ ?_ | refine cond_f rfl ?_ | refine guard_f rfl rfl rfl rfl ?_ | refine stepY (y_move rfl) rfl ?_ | refine stepY (y_assign rfl) rfl ?_ | refine stepY (y_loadA rfl rfl rfl) rfl ?_ | refine stepY (y_pick_f rfl rfl) rfl ?_)
      refine call_ Try.func28 rfl rfl (he1) rfl (by repeat (first | exact .refl _ | apply Les.cons | exact .nil)) rfl ?_
      repeat (first | refine seq_ ?_ | refine region_ ?_ | refine nil_ ?_ | refine cond_f rfl ?_ | refine stepY (y_assign rfl) rfl ?_ | refine stepY (y_loadA rfl rfl rfl) rfl ?_)
      refine call_ Try.func28 rfl rfl (he2) rfl (by repeat (first | exact .refl _ | apply Les.cons | exact .nil)) rfl ?_
      repeat (first | refine seq_ ?_ | refine region_ ?_ | refine nil_ ?_ | refine ret_ ?_ | refine cond_t rfl ?_ | refine stepY (y_assign rfl) rfl ?_ | refine stepY (y_loadA rfl rfl rfl) rfl ?_ | refine stepE (e_store rfl rfl rfl rfl rfl rfl rfl) ?_)
      ((apply fin_r); (repeat (first | exact .nil | exact .agg rfl rfl rfl | apply ResL.cons)); (repeat (exact .refl _)))
    | false =>
      rw [h2] at he2
      rw [if_neg (by decide)]
      obtain ⟨a1, a2, a3, a4, a5, a6⟩ := em_no h1
      obtain ⟨b1, b2, b3, b4, b5, b6⟩ := em_no h2
      unfold mx mn
      have hX : fitP (if x' < x then x' else x) := by split <;> assumption
      have hY : fitP (if y' < y then y' else y) := by split <;> assumption
      have hW : -1073741824 ≤ (if x + w < x' + w' then x' + w' else x + w) ∧ (if x + w < x' + w' then x' + w' else x + w) ≤ 2147483648 := by split <;> omega
      have hH : -1073741824 ≤ (if y + h < y' + h' then y' + h' else y + h) ∧ (if y + h < y' + h' then y' + h' else y + h) ≤ 2147483648 := by split <;> omega
      repeat (first | refine seq_ ?_ | refine region_ ?_ | refine nil_ ?_ | refine block_ ?_ | refine stepY (y_loadA rfl rfl rfl) rfl ?_ | refine stepE (e_box rfl rfl rfl rfl rfl rfl) ?_ | refine stepE (e_alloc rfl rfl rfl) ?_)
      refine call_ Try.func28 rfl rfl (he1) rfl (by repeat (first | exact .refl _ | apply Les.cons | exact .nil)) rfl ?_
      repeat (first | refine seq_ ?_ | refine region_ ?_ | refine nil_ ?_ | refine cond_f rfl ?_ | refine guard_f rfl rfl rfl rfl ?_ | refine stepY (y_move rfl) rfl ?_ | refine stepY (y_assign rfl) rfl ?_ | refine stepY (y_loadA rfl rfl rfl) rfl ?_ | refine stepY (y_pick_f rfl rfl) rfl ?_)
      refine call_ Try.func28 rfl rfl (he1) rfl (by repeat (first | exact .refl _ | apply Les.cons | exact .nil)) rfl ?_
      repeat (first | refine seq_ ?_ | refine region_ ?_ | refine nil_ ?_ | refine cond_f rfl ?_ | refine stepY (y_assign rfl) rfl ?_ | refine stepY (y_loadA rfl rfl rfl) rfl ?_)
      refine call_ Try.func28 rfl rfl (he2) rfl (by repeat (first | exact .refl _ | apply Les.cons | exact .nil)) rfl ?_
      repeat (first | refine seq_ ?_ | refine nil_ ?_ | refine skip_ ?_ | refine cond_f rfl ?_ | refine stepY (y_assign rfl) rfl ?_)
      refine draw_ [(0, true), (1, true), (2, true), (3, true), (4, true), (5, true), (6, true), (7, true), (8, true), (9, true), (10, true), (11, true)] 1000 [2, 3, 4] mixed (by kernel_rfl) rfl ?_
      ((refine dY rfl (y_fieldAddr rfl) rfl rfl rfl rfl ?_); refine dY rfl (y_load1 rfl rfl rfl) rfl rfl rfl rfl ?_; refine dY rfl (y_fieldAddr rfl) rfl rfl rfl rfl ?_; refine dY rfl (y_load1 rfl rfl rfl) rfl rfl rfl rfl ?_; refine dY rfl (y_min rfl rfl) rfl rfl rfl rfl ?_; refine dY rfl (y_fieldAddr rfl) rfl rfl rfl rfl ?_; refine dY rfl (y_load1 rfl rfl rfl) rfl rfl rfl rfl ?_; refine dY rfl (y_fieldAddr rfl) rfl rfl rfl rfl ?_; refine dY rfl (y_load1 rfl rfl rfl) rfl rfl rfl rfl ?_; refine dY rfl (y_min rfl rfl) rfl rfl rfl rfl ?_; refine dY rfl (y_assign rfl) rfl rfl rfl rfl ?_; refine dY rfl (y_assign rfl) rfl rfl rfl rfl ?_; refine dEnd ?_)
      repeat (first | refine seq_ ?_ | refine region_ ?_ | refine nil_ ?_ | refine ret_ ?_ | refine stepY (y_move rfl) rfl ?_ | refine stepY (y_load1 rfl rfl rfl) rfl ?_ | refine stepY (y_fieldAddr rfl) rfl ?_ | refine stepY (y_max rfl rfl) rfl ?_ | refine stepY (y_build rfl rfl rfl) rfl ?_ | refine stepY (y_binn rfl rfl rfl (by simp only [InK, loK, hiK]; omega)) rfl ?_ | refine stepY (y_binn rfl rfl rfl (by simp only [InK, loK, hiK]; omega)) rfl ?_ | refine stepE (e_store rfl rfl rfl rfl rfl rfl rfl) ?_)
      ((apply fin_r); (repeat (first | exact .nil | exact .agg rfl rfl rfl | apply ResL.cons)); (repeat (exact .refl _)))
end Go.Av

/-! Plain arithmetic of limbs: the greatest common divisor by halving and subtracting. -/
set_option linter.unusedVariables false
set_option exponentiation.threshold 100000
namespace Go.Av
theorem gcd_ee {x y : Nat} (hx : x % 2 = 0) (hy : y % 2 = 0) : Nat.gcd (x / 2) (y / 2) * 2 = Nat.gcd x y := by
  have h1 : x = x / 2 * 2 := by omega
  have h2 : y = y / 2 * 2 := by omega
  conv => rhs; rw [h1, h2]
  rw [Nat.gcd_mul_right]
theorem cop_two {y : Nat} (hy : y % 2 = 1) : Nat.Coprime 2 y := by
  unfold Nat.Coprime
  rw [Nat.gcd_rec, hy, Nat.gcd_one_left]
theorem gcd_eo {x y : Nat} (hx : x % 2 = 0) (hy : y % 2 = 1) : Nat.gcd (x / 2) y = Nat.gcd x y := by
  have h1 : x = 2 * (x / 2) := by omega
  conv => rhs; rw [h1]
  rw [Nat.Coprime.gcd_mul_left_cancel _ (cop_two hy)]
theorem gcd_oe {x y : Nat} (hx : x % 2 = 1) (hy : y % 2 = 0) : Nat.gcd x (y / 2) = Nat.gcd x y := by
  rw [Nat.gcd_comm, gcd_eo hy hx, Nat.gcd_comm]
theorem gcd_sl {x y : Nat} (h : y ≤ x) : Nat.gcd (x - y) y = Nat.gcd x y := Nat.gcd_sub_self_left h
theorem gcd_sr {x y : Nat} (h : x ≤ y) : Nat.gcd x (y - x) = Nat.gcd x y := by
  rw [Nat.gcd_comm, gcd_sl h, Nat.gcd_comm]
theorem gcd_ln {m n : Nat} (hm : ln m ≤ 512) (hn : ln n ≤ 512) : ln (Nat.gcd m n) ≤ 512 := by
  rcases Nat.eq_zero_or_pos m with h | h
  · subst h; rw [Nat.gcd_zero_left]; exact hn
  · have := ln_mono (Nat.gcd_le_left n h); omega
theorem twos_lt {x t g : Nat} (hx : 0 < x) (he : x * 2 ^ t = g) (hg : ln g ≤ 512) : t < 16384 := by
  rw [ln_le, ← he, B_pow] at hg
  have h1 : 2 ^ t ≤ x * 2 ^ t := Nat.le_mul_of_pos_left _ hx
  have h2 : 2 ^ t < 2 ^ (32 * 512) := Nat.lt_of_le_of_lt h1 hg
  exact (Nat.pow_lt_pow_iff_right (by decide)).1 h2
end Go.Av

/-! Bit lengths, the steps of the binary greatest common divisor, bits from the top. -/
set_option linter.unusedVariables false
set_option linter.unusedSimpArgs false
set_option exponentiation.threshold 100000
namespace Go.Av
def bl (n : Nat) : Nat := (ds 2 n).length
theorem bl_zero : bl 0 = 0 := by simp [bl, ds_zero]
theorem bl_half {n : Nat} (h : 0 < n) : bl n = bl (n / 2) + 1 := by simp [bl, ds_pos (b := 2) (by decide) h]
theorem bl_mono : ∀ {a b : Nat}, a ≤ b → bl a ≤ bl b
  | 0, b, _ => by rw [bl_zero]; exact Nat.zero_le _
  | a + 1, b, h => by
    have hb : 0 < b := by omega
    rw [bl_half (n := a + 1) (by omega), bl_half hb]
    have := bl_mono (a := (a + 1) / 2) (b := b / 2) (Nat.div_le_div_right h)
    omega
  termination_by a b _ => a
  decreasing_by omega
theorem bl_ln (n : Nat) : bl n ≤ 32 * ln n := by
  have := lt_ln n
  rw [B_pow] at this
  exact ds_len (by decide) _ n this
def mu (a b : Nat) : Nat := 2 * (bl a + bl b) + (if a % 2 = 1 ∧ b % 2 = 1 then 1 else 0)
theorem mu_le (a b : Nat) : mu a b ≤ 64 * (ln a + ln b) + 1 := by
  have h1 := bl_ln a
  have h2 := bl_ln b
  unfold mu
  split <;> omega
theorem mu_ha {a b : Nat} (h : 0 < a) (he : a % 2 = 0) : mu (a / 2) b + 1 ≤ mu a b := by
  have := bl_half h
  unfold mu
  split <;> split <;> omega
theorem mu_hb {a b : Nat} (h : 0 < b) (he : b % 2 = 0) : mu a (b / 2) + 1 ≤ mu a b := by
  have := bl_half h
  unfold mu
  split <;> split <;> omega
theorem mu_sa {a b : Nat} (ha : a % 2 = 1) (hb : b % 2 = 1) (h : b ≤ a) : mu (a - b) b + 1 ≤ mu a b := by
  have := bl_mono (Nat.sub_le a b)
  unfold mu
  rw [if_neg (by omega), if_pos ⟨ha, hb⟩]
  omega
theorem mu_sb {a b : Nat} (ha : a % 2 = 1) (hb : b % 2 = 1) (h : a ≤ b) : mu a (b - a) + 1 ≤ mu a b := by
  have := bl_mono (Nat.sub_le b a)
  unfold mu
  rw [if_neg (by omega), if_pos ⟨ha, hb⟩]
  omega
/-- Twice a number and a bit more, limb by limb. -/
theorem sh_step {n c i : Nat} (hc : c ≤ 1) : (dg n i * 2 + lc n 2 c i) % 4294967296 = dg (n * 2 + c) i ∧ dg n i / 2147483648 = lc n 2 c (i + 1) ∧ lc n 2 c i ≤ 1 := by
  have h1 := lc_step n 2 c i
  have h2 := dg_lt n i
  have h3 := dg_lt (n * 2 + c) i
  have h4 : lc n 2 c i ≤ 1 := by
    unfold lc
    have h5 := Nat.mod_lt n (Bp_pos i)
    have h6 : n % B ^ i * 2 + c < 2 * B ^ i := by omega
    have h7 : (n % B ^ i * 2 + c) / B ^ i < 2 := (Nat.div_lt_iff_lt_mul (Bp_pos i)).2 h6
    omega
  unfold B at h1 h2 h3
  omega
/-- A bit of a limb, from its top. -/
theorem top_bit {d k : Nat} (h : d < 4294967296) (hk : k ≤ 31) : d * 2 ^ k % 4294967296 / 2147483648 = d / 2 ^ (31 - k) % 2 := by
  have h1 : (4294967296 : Nat) = 2 ^ (32 - k) * 2 ^ k := by rw [← Nat.pow_add, show 32 - k + k = 32 by omega]
  have h2 : (2147483648 : Nat) = 2 ^ (31 - k) * 2 ^ k := by rw [← Nat.pow_add, show 31 - k + k = 31 by omega]
  have h3 : 2 ^ (32 - k) = 2 ^ (31 - k) * 2 := by rw [← Nat.pow_succ]; congr 1; omega
  rw [h1, h2, Nat.mul_mod_mul_right, Nat.mul_div_mul_right _ _ (Nat.pow_pos (by decide)), h3, Nat.mod_mul_right_div_self]
theorem limb_next {d k : Nat} : d * 2 ^ k % 4294967296 * 2 % 4294967296 = d * 2 ^ (k + 1) % 4294967296 := by
  rw [Nat.pow_succ, ← Nat.mul_assoc, Nat.mod_mul_mod]
end Go.Av

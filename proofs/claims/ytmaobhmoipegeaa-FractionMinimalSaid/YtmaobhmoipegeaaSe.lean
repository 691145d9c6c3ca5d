/- Contracts behind a law: no conditions beyond those in each statement. -/
import Derived.Test.YtmaobhmoipegeaaSa
import Derived.Test.YtmaobhmoipegeaaSc
import Derived.Test.YtmaobhmoipegeaaJ5
set_option maxHeartbeats 8000000
set_option exponentiation.threshold 100000
set_option maxRecDepth 100000
set_option linter.unusedVariables false
set_option linter.unusedSimpArgs false
namespace Go.Av
open Go Go.Proofs
/-! FractionMinimal -/
structure Smp (s : Nat × Nat) (n d u v : Nat) : Prop where
  lo : n * s.2 ≤ s.1 * d
  hi : s.1 * v ≤ u * s.2
  min : ∀ a b : Nat, 0 < b → n * b ≤ a * d → a * v ≤ u * b → s.2 ≤ b ∧ s.1 ≤ a
theorem Smp.end0 {n d u v : Nat} (hg : Gd n d u v) (h : n % d = 0) : Smp (n / d, 1) n d u v := by
  have e1 := Nat.div_add_mod n d
  rw [h, Nat.add_zero] at e1
  have hl := hg.le
  generalize n / d = q at *
  subst e1
  refine ⟨?_, ?_, fun a b hb h1 h2 => ⟨hb, ?_⟩⟩
  · simp only; rw [Nat.mul_one, Nat.mul_comm]; exact Nat.le_refl _
  · simp only
    rw [Nat.mul_one]
    rw [Nat.mul_assoc, Nat.mul_comm u d] at hl
    exact Nat.le_of_mul_le_mul_left hl hg.dp
  · simp only
    rw [Nat.mul_assoc, Nat.mul_comm a d] at h1
    have := Nat.le_of_mul_le_mul_left h1 hg.dp
    exact Nat.le_trans (Nat.le_mul_of_pos_right q hb) this
theorem Smp.end1 {n d u v : Nat} (hg : Gd n d u v) (h : n % d ≠ 0) (h2 : n / d ≠ u / v) : Smp (n / d + 1, 1) n d u v := by
  have e1 := Nat.div_add_mod n d
  have hd := Nat.mod_lt n hg.dp
  have hq := div_le hg
  have h3 : n / d + 1 ≤ u / v := by omega
  refine ⟨?_, ?_, fun a b hb h4 h5 => ⟨hb, ?_⟩⟩
  · simp only; rw [Nat.mul_one, Nat.add_mul, Nat.mul_comm (n / d)]; omega
  · simp only
    rw [Nat.mul_one]
    exact (Nat.le_div_iff_mul_le hg.vp).1 h3
  · simp only
    rcases Nat.lt_or_ge (n / d) a with h6 | h6
    · exact h6
    · exfalso
      have h7 : a * d ≤ n / d * d := Nat.mul_le_mul_right d h6
      have h8 : n * 1 ≤ n * b := Nat.mul_le_mul_left n hb
      rw [Nat.mul_comm d] at e1
      omega
theorem Smp.back {n d u v : Nat} {s : Nat × Nat} (hg : Gd n d u v) (h1 : n % d ≠ 0) (h2 : n / d = u / v) (h : Smp s v (u % v) d (n % d)) : Smp (co1 (n / d) s) n d u v := by
  have e1 := Nat.div_add_mod n d
  have e2 := Nat.div_add_mod u v
  rw [← h2] at e2
  have hr : 0 < n % d := Nat.pos_of_ne_zero h1
  obtain ⟨x, y⟩ := s
  obtain ⟨lo, hi, mn⟩ := h
  simp only at lo hi mn
  unfold co1
  generalize n / d = q at *
  generalize n % d = r at *
  generalize u % v = s at *
  clear h2
  subst e1 e2
  refine ⟨?_, ?_, fun a b hb h4 h5 => ?_⟩
  · simp only
    have : (d * q + r) * x = q * x * d + r * x := by rw [Nat.add_mul]; congr 1; rw [Nat.mul_comm d q, Nat.mul_right_comm]
    rw [this, Nat.add_mul, Nat.mul_comm y d, Nat.mul_comm r x]
    omega
  · simp only
    have : (v * q + s) * x = q * x * v + x * s := by rw [Nat.add_mul, Nat.mul_comm s x]; congr 1; rw [Nat.mul_comm v q, Nat.mul_right_comm]
    rw [this, Nat.add_mul, Nat.mul_comm y v]
    omega
  · simp only
    have h6 : q * b ≤ a := by
      rw [Nat.add_mul, Nat.mul_assoc, Nat.mul_comm a d] at h4
      exact Nat.le_of_mul_le_mul_left (Nat.le_trans (Nat.le_add_right _ _) h4) hg.dp
    obtain ⟨a', rfl⟩ : ∃ a', a = q * b + a' := ⟨a - q * b, by omega⟩
    have h7 : r * b ≤ a' * d := by
      rw [Nat.add_mul, Nat.add_mul, show d * q * b = q * b * d by rw [Nat.mul_comm d q, Nat.mul_right_comm]] at h4
      omega
    have h8 : a' * v ≤ s * b := by
      rw [Nat.add_mul, Nat.add_mul, show v * q * b = q * b * v by rw [Nat.mul_comm v q, Nat.mul_right_comm]] at h5
      omega
    have ha : 0 < a' := by
      rcases Nat.eq_zero_or_pos a' with h | h
      · subst h
        have := Nat.mul_pos hr hb
        omega
      · exact h
    obtain ⟨m1, m2⟩ := mn b a' ha (by rw [Nat.mul_comm v, Nat.mul_comm b]; exact h8) (by rw [Nat.mul_comm b, Nat.mul_comm d]; exact h7)
    exact ⟨m2, by have := Nat.mul_le_mul_left q m2; omega⟩
theorem sqF_smp : ∀ (k n d u v : Nat), Gd n d u v → d + v < k → Smp (sqF k n d u v) n d u v
  | 0, _, _, _, _, _, h => by omega
  | k + 1, n, d, u, v, hg, h1 => by
    simp only [sqF]
    by_cases a : n % d = 0
    · rw [if_pos a]; exact .end0 hg a
    · rw [if_neg a]
      by_cases b : n / d = u / v
      · rw [if_pos b]
        obtain ⟨g, hlt⟩ := hg.step a b
        exact .back hg a b (sqF_smp k _ _ _ _ g (by omega))
      · rw [if_neg b]; exact .end1 hg a b
theorem sq_smp {n d u v : Nat} (hg : Gd n d u v) : Smp (sq n d u v) n d u v := sqF_smp _ _ _ _ _ hg (by omega)
theorem mk_ge (n : Int) {d : Nat} (hd : 0 < d) (x : Rat) : x ≤ mkRat n d ↔ x.num * d ≤ n * x.den := by
  obtain ⟨g, hg, h1, h2⟩ := mk_g n hd
  rw [Rat.le_iff, h2]
  conv => rhs; rhs; rw [h1]
  generalize (mkRat n d).num = a
  generalize ((mkRat n d).den : Int) = b
  rw [show a * (g : Int) * x.den = (a * x.den) * g by rw [Int.mul_right_comm], ← Int.mul_assoc]
  exact (Int.mul_le_mul_right (by omega)).symm
theorem num_pos_of {x y : Rat} (hx : 0 < x.num) (h : x ≤ y) : 0 < y.num := by
  have h1 := (Rat.le_iff _ _).1 h
  have h3 : 0 < x.num * y.den := Int.mul_pos hx (by have := y.den_pos; omega)
  rcases (by omega : y.num ≤ 0 ∨ 0 < y.num) with h2 | h2
  · have h4 : y.num * x.den ≤ 0 := Int.mul_nonpos_of_nonpos_of_nonneg h2 (by omega)
    omega
  · exact h2
/-- what the simplest fraction is -/
structure Simp (s x y : Rat) : Prop where
  lo : x ≤ s
  hi : s ≤ y
  min : ∀ t : Rat, x ≤ t → t ≤ y → s.den ≤ t.den ∧ s.num.natAbs ≤ t.num.natAbs
theorem mkn_le (a : Nat) {b : Nat} (hb : 0 < b) : (mkRat (a : Int) b).num.natAbs ≤ a ∧ (mkRat (a : Int) b).den ≤ b := by
  obtain ⟨e1, e2⟩ := mkQ (a : Int) hb
  refine ⟨?_, ?_⟩
  · rw [e1, Int.natAbs_natCast, ← Int.natCast_ediv, Int.natAbs_natCast]
    exact Nat.div_le_self _ _
  · rw [e2]
    exact Nat.div_le_self _ _
theorem smp_pos {x y : Rat} (hx : 0 < x.num) (h : x ≤ y) : Simp (sqr x.num.natAbs x.den y.num.natAbs y.den) x y := by
  have g := gd_pos hx h
  have hy := num_pos_of hx h
  obtain ⟨lo, hi, mn⟩ := sq_smp g
  have hp := sq_pos g (by omega)
  unfold sqr
  have e1 : (x.num.natAbs : Int) = x.num := by omega
  have e2 : (y.num.natAbs : Int) = y.num := by omega
  generalize sq x.num.natAbs x.den y.num.natAbs y.den = s at *
  have hb := mkn_le s.1 hp.2
  refine ⟨?_, ?_, fun t h1 h2 => ?_⟩
  · rw [mk_ge _ hp.2, ← e1]
    exact_mod_cast lo
  · rw [mk_le _ hp.2, ← e2]
    exact_mod_cast hi
  · have ht := num_pos_of hx h1
    have e3 : (t.num.natAbs : Int) = t.num := by omega
    have h3 := (Rat.le_iff _ _).1 h1
    have h4 := (Rat.le_iff _ _).1 h2
    rw [← e1, ← e3] at h3
    rw [← e2, ← e3] at h4
    have := mn t.num.natAbs t.den t.den_pos (by exact_mod_cast h3) (by exact_mod_cast h4)
    omega
theorem smp_simp {x y : Rat} (h : x ≤ y) : Simp (smp x y) x y := by
  unfold smp
  by_cases h1 : 0 < x.num
  · rw [if_pos h1]; exact smp_pos h1 h
  · rw [if_neg h1]
    by_cases h2 : 0 ≤ y.num
    · rw [if_pos h2]
      refine ⟨?_, Rat.num_nonneg.1 h2, fun t _ _ => ⟨t.den_pos, Nat.zero_le _⟩⟩
      rw [Rat.le_iff]
      show x.num * 1 ≤ 0 * _
      omega
    · rw [if_neg h2]
      have hny : 0 < (-y).num := by rw [Rat.neg_num]; omega
      have hle : -y ≤ -x := Rat.neg_le_neg h
      have := smp_pos hny hle
      rw [Rat.neg_num, Rat.neg_num, Rat.neg_den, Rat.neg_den, Int.natAbs_neg, Int.natAbs_neg] at this
      obtain ⟨lo, hi, mn⟩ := this
      generalize sqr y.num.natAbs y.den x.num.natAbs x.den = s at *
      refine ⟨?_, ?_, fun t h3 h4 => ?_⟩
      · have := Rat.neg_le_neg hi
        rwa [Rat.neg_neg] at this
      · have := Rat.neg_le_neg lo
        rwa [Rat.neg_neg] at this
      · have := mn (-t) (Rat.neg_le_neg h4) (Rat.neg_le_neg h3)
        rw [Rat.neg_num, Rat.neg_den, Int.natAbs_neg] at this
        rw [Rat.neg_num, Rat.neg_den, Int.natAbs_neg]
        exact this
/-- no fraction of a smaller denominator is inside -/
theorem not_inside {s lo hi : Rat} (h : Simp s lo hi) {d : Nat} (hd : 0 < d) (hs : d < s.den) : ¬ mkRat (lo.num * d) lo.den ≤ (((mkRat (hi.num * d) hi.den).floor : Int) : Rat) := by
  intro h1
  have h2 := Rat.floor_le (mkRat (hi.num * d) hi.den)
  generalize (mkRat (hi.num * d) hi.den).floor = f at *
  rw [mk_le _ lo.den_pos] at h1
  rw [mk_ge _ hi.den_pos] at h2
  simp only [Rat.num_intCast, Rat.den_intCast, Int.natCast_one, Int.mul_one] at h1 h2
  have h3 := h.min (mkRat f d) ((mk_ge _ hd _).2 h1) ((mk_le _ hd _).2 h2)
  have h4 : (mkRat f d).den ≤ d := by
    rw [(mkQ f hd).2]
    exact Nat.div_le_self _ _
  omega
end Go.Av

/- Contracts behind a law: no conditions beyond those in each statement. -/
import Derived.Test.YtnkkkeohhgbhnaaJ4
set_option maxHeartbeats 8000000
set_option exponentiation.threshold 100000
set_option maxRecDepth 100000
set_option linter.unusedVariables false
set_option linter.unusedSimpArgs false
namespace Go.Av
open Go Go.Proofs
/-! fractions: the four operations and the order -/
theorem ln_addA {p q : Bool} {m n k : Nat} (hm : ln m ≤ k) (hn : ln n ≤ k) : ln (addA p q m n) ≤ k + 1 := by
  rw [ln_le] at *
  have h1 := sum_lt hm hn
  have : addA p q m n ≤ m + n := by unfold addA; split <;> (try split) <;> omega
  omega
theorem div_rat (p p' : Bool) (m m' d d' : Nat) (hd : 0 < d) (hd' : 0 < d') (hm : 0 < m') : mkRat (sgn (p != p') (m * d')) (d * m') = mkRat (sgn p m) d / mkRat (sgn p' m') d' := by
  have hy : mkRat (sgn p' m') d' ≠ 0 := by
    rw [Ne, Rat.mkRat_eq_zero (by omega)]
    unfold sgn; split <;> omega
  have key : mkRat (sgn (p != p') (m * d')) (d * m') * mkRat (sgn p' m') d' = mkRat (sgn p m) d := by
    rw [Rat.mkRat_mul_mkRat, Rat.mkRat_eq_iff (Nat.ne_of_gt (Nat.mul_pos (Nat.mul_pos hd hm) hd')) (by omega), sgn_mulr]
    rw [Int.natCast_mul, Int.natCast_mul]
    cases p <;> cases p' <;> simp [sgn] <;> grind
  rw [← key, Rat.div_def, Rat.mul_assoc, Rat.mul_inv_cancel _ hy, Rat.mul_one]
def isg (z : Int) : Int := if z < 0 then -1 else if 0 < z then 1 else 0
/-- the order of two fractions -/
def qcmp (x y : Rat) : Int := if x < y then -1 else if y < x then 1 else 0
theorem qcmp_isg (x y : Rat) : isg (x.num * y.den - y.num * x.den) = qcmp x y := by
  have h1 := Rat.lt_iff x y
  have h2 := Rat.lt_iff y x
  unfold isg qcmp
  by_cases a : x < y
  · have := h1.1 a
    rw [if_pos a, if_pos (by omega)]
  · have := fun h => a (h1.2 h)
    rw [if_neg a, if_neg (fun h => this (by omega))]
    by_cases b : y < x
    · have := h2.1 b
      rw [if_pos b, if_pos (by omega)]
    · have := fun h => b (h2.2 h)
      rw [if_neg b, if_neg (fun h => this (by omega))]
theorem num_ne {y : Rat} (h0 : y ≠ 0) : 0 < y.num.natAbs := by
  rcases Nat.eq_zero_or_pos y.num.natAbs with h | h
  · exact absurd (Rat.num_eq_zero.1 (by omega)) h0
  · exact h
end Go.Av

import Derived.Test.YtckngipgcnhfpaaP5
/-! Plain arithmetic of limbs: the greatest common divisor by halving and subtracting. -/
set_option linter.unusedVariables false
set_option exponentiation.threshold 100000
namespace Go.Av
theorem gcd_ee {x y : Nat} (hx : x % 2 = 0) (hy : y % 2 = 0) : Nat.gcd (x / 2) (y / 2) * 2 = Nat.gcd x y := by
  have h1 : x = x / 2 * 2 := by omega
  have h2 : y = y / 2 * 2 := by omega
  conv => rhs; rw [h1, h2]
  rw [Nat.gcd_mul_right]
theorem cop_two {y : Nat} (hy : y % 2 = 1) : Nat.Coprime 2 y := by
  unfold Nat.Coprime
  rw [Nat.gcd_rec, hy, Nat.gcd_one_left]
theorem gcd_eo {x y : Nat} (hx : x % 2 = 0) (hy : y % 2 = 1) : Nat.gcd (x / 2) y = Nat.gcd x y := by
  have h1 : x = 2 * (x / 2) := by omega
  conv => rhs; rw [h1]
  rw [Nat.Coprime.gcd_mul_left_cancel _ (cop_two hy)]
theorem gcd_oe {x y : Nat} (hx : x % 2 = 1) (hy : y % 2 = 0) : Nat.gcd x (y / 2) = Nat.gcd x y := by
  rw [Nat.gcd_comm, gcd_eo hy hx, Nat.gcd_comm]
theorem gcd_sl {x y : Nat} (h : y ≤ x) : Nat.gcd (x - y) y = Nat.gcd x y := Nat.gcd_sub_self_left h
theorem gcd_sr {x y : Nat} (h : x ≤ y) : Nat.gcd x (y - x) = Nat.gcd x y := by
  rw [Nat.gcd_comm, gcd_sl h, Nat.gcd_comm]
theorem gcd_ln {m n : Nat} (hm : ln m ≤ 512) (hn : ln n ≤ 512) : ln (Nat.gcd m n) ≤ 512 := by
  rcases Nat.eq_zero_or_pos m with h | h
  · subst h; rw [Nat.gcd_zero_left]; exact hn
  · have := ln_mono (Nat.gcd_le_left n h); omega
theorem twos_lt {x t g : Nat} (hx : 0 < x) (he : x * 2 ^ t = g) (hg : ln g ≤ 512) : t < 16384 := by
  rw [ln_le, ← he, B_pow] at hg
  have h1 : 2 ^ t ≤ x * 2 ^ t := Nat.le_mul_of_pos_left _ hx
  have h2 : 2 ^ t < 2 ^ (32 * 512) := Nat.lt_of_le_of_lt h1 hg
  exact (Nat.pow_lt_pow_iff_right (by decide)).1 h2
end Go.Av

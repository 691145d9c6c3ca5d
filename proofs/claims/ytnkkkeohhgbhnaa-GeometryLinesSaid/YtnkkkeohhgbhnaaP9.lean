/- Contracts behind a law: no conditions beyond those in each statement. -/
import Derived.Test.YtnkkkeohhgbhnaaJ3
import Derived.Test.YtnkkkeohhgbhnaaJ4
/-! Plain facts on signs, quotients, comparisons. -/
set_option linter.unusedVariables false
set_option linter.unusedSimpArgs false
namespace Go.Av
open Go
theorem icmp_bd (x y : Int) : -1 ≤ icmp x y ∧ icmp x y ≤ 1 := by unfold icmp; split <;> (try split) <;> omega
theorem icmp_sw (x y : Int) : icmp y x = -icmp x y := by
  unfold icmp
  split <;> split <;> (try split) <;> omega
theorem icmp_neg (x y : Int) : icmp (-y) (-x) = icmp x y := by
  unfold icmp
  by_cases h : x < y
  · rw [if_pos h, if_pos (by omega)]
  · rw [if_neg h, if_neg (by omega)]
    by_cases h2 : y < x
    · rw [if_pos h2, if_pos (by omega)]
    · rw [if_neg h2, if_neg (by omega)]
theorem icmp_add (x y z : Int) : icmp (x + z) (y + z) = icmp x y := by
  unfold icmp
  by_cases h : x < y
  · rw [if_pos h, if_pos (by omega)]
  · rw [if_neg h, if_neg (by omega)]
    by_cases h2 : y < x
    · rw [if_pos h2, if_pos (by omega)]
    · rw [if_neg h2, if_neg (by omega)]
theorem icmp_lt {x y : Int} : icmp x y < 0 ↔ x < y := by
  unfold icmp
  split
  · omega
  · split <;> omega
theorem icmp_gt {x y : Int} : 0 < icmp x y ↔ y < x := by
  unfold icmp
  split
  · omega
  · split <;> omega
theorem icmp_of_lt {x y : Int} (h : x < y) : icmp x y = -1 := by unfold icmp; rw [if_pos h]
theorem div_id (p q : Bool) (m n : Nat) (hn : 0 < n) : dq p q m n * sgn q n + dr p q m n = sgn p m := by
  have h : (n : Int) * ((m / n : Nat) : Int) + ((m % n : Nat) : Int) = m := by
    have := Nat.div_add_mod m n
    rw [← Int.natCast_mul, ← Int.natCast_add, this]
  have hr : m % n ≤ n := Nat.le_of_lt (Nat.mod_lt m hn)
  unfold dq dr
  generalize m / n = t at *
  have hcm := Int.mul_comm (n : Int) (t : Int)
  by_cases h0 : (p != q) = true ∧ 0 < m % n
  · rw [if_pos h0, if_pos h0]
    generalize m % n = r at *
    have hc : ((n - r : Nat) : Int) = (n : Int) - r := by omega
    cases p <;> cases q <;> simp [sgn, Int.neg_mul, Int.mul_neg, Int.add_mul, hc] at h0 ⊢ <;> omega
  · rw [if_neg h0, if_neg h0]
    by_cases hpq : (p != q) = true
    · have hr0 : m % n = 0 := by
        rcases Nat.eq_zero_or_pos (m % n) with h1 | h1
        · exact h1
        · exact absurd ⟨hpq, h1⟩ h0
      rw [hr0] at h ⊢
      cases p <;> cases q <;> simp [sgn, Int.neg_mul, Int.mul_neg] at hpq h ⊢ <;> omega
    · generalize m % n = r at *
      cases p <;> cases q <;> simp [sgn, Int.neg_mul, Int.mul_neg] at hpq h ⊢ <;> omega
/-- The remainder's size. -/
def ra (p q : Bool) (m n : Nat) : Nat := if (p != q) = true ∧ 0 < m % n then n - m % n else m % n
theorem dr_ra (p q : Bool) (m n : Nat) : dr p q m n = sgn q (ra p q m n) := by unfold dr ra; split <;> rfl
theorem ra_lt {p q : Bool} {m n : Nat} (h : 0 < n) : ra p q m n < n := by
  have := Nat.mod_lt m h
  unfold ra; split <;> omega
theorem ra_gcd {p q : Bool} {m n : Nat} (h : 0 < n) : Nat.gcd n (ra p q m n) = Nat.gcd m n := by
  have h1 : Nat.gcd n (m % n) = Nat.gcd m n := by
    rw [Nat.gcd_comm n, ← Nat.gcd_rec, Nat.gcd_comm]
  have h2 := Nat.mod_lt m h
  unfold ra
  split
  · rw [← h1]
    have h3 : n = (n - m % n) + m % n := by omega
    have h4 := gcd_sl (x := n) (y := m % n) (Nat.le_of_lt h2)
    rw [← h4]
    have h5 : Nat.gcd n (n - m % n) = Nat.gcd ((n - m % n) + m % n) (n - m % n) := by rw [← h3]
    rw [h5, Nat.gcd_comm, Nat.gcd_self_add_right]
  · exact h1
theorem ra_dvd {p : Bool} {m g : Nat} (h : g ∣ m) : ra p false m g = 0 := by
  have h1 : m % g = 0 := Nat.mod_eq_zero_of_dvd h
  unfold ra
  rw [h1]
  rw [if_neg (by omega)]
end Go.Av

/- Contracts behind a law: no conditions beyond those in each statement. -/
import Derived.Test.YtnkkkeohhgbhnaaHu
set_option maxHeartbeats 8000000
set_option exponentiation.threshold 100000
set_option maxRecDepth 100000
set_option linter.unusedVariables false
set_option linter.unusedSimpArgs false
namespace Go.Av
open Go Go.Proofs

open Go.RowKit
/-! The line through two points: both lie on it; its normal form. -/
theorem thG_pm (a b : Pt) : thG a b = ((Int.gcd (b.2 - a.2) (a.1 - b.1) : Nat) : Int) ∨ thG a b = -((Int.gcd (b.2 - a.2) (a.1 - b.1) : Nat) : Int) := by
  unfold thG
  split
  · exact .inr rfl
  · exact .inl rfl
theorem thG_dvd (a b : Pt) : thG a b ∣ (b.2 - a.2) ∧ thG a b ∣ (a.1 - b.1) := by
  have h1 := Int.gcd_dvd_left (b.2 - a.2) (a.1 - b.1)
  have h2 := Int.gcd_dvd_right (b.2 - a.2) (a.1 - b.1)
  rcases thG_pm a b with e | e
  · rw [e]; exact ⟨h1, h2⟩
  · rw [e]; exact ⟨Int.neg_dvd.2 h1, Int.neg_dvd.2 h2⟩
theorem thA_mul (a b : Pt) : thA a b * thG a b = b.2 - a.2 := Int.tdiv_mul_cancel (thG_dvd a b).1
theorem thB_mul (a b : Pt) : thB a b * thG a b = a.1 - b.1 := Int.tdiv_mul_cancel (thG_dvd a b).2
theorem thG_ne0 {a b : Pt} (h : a ≠ b) : thG a b ≠ 0 := by
  have := thG_ne h
  rcases thG_pm a b with e | e <;> omega
theorem th_on2 {a b : Pt} (h : a ≠ b) : thA a b * b.1 + thB a b * b.2 = thC a b := by
  have e1 := thA_mul a b
  have e2 := thB_mul a b
  have h0 := thG_ne0 h
  unfold thC
  refine Int.eq_of_mul_eq_mul_left h0 ?_
  grind
theorem th_norm {a b : Pt} (h : a ≠ b) : 0 ≤ thA a b ∧ (thA a b = 0 → thB a b = 1) := by
  have e1 := thA_mul a b
  have e2 := thB_mul a b
  have h0 := thG_ne0 h
  have hg : 0 < ((Int.gcd (b.2 - a.2) (a.1 - b.1) : Nat) : Int) := by
    have := thG_ne h
    omega
  have hp0 : thA a b = 0 → b.2 - a.2 = 0 := fun e => by rw [e, Int.zero_mul] at e1; exact e1.symm
  by_cases hn : b.2 - a.2 < 0 ∨ b.2 - a.2 = 0 ∧ a.1 - b.1 < 0
  · have hG : thG a b = -((Int.gcd (b.2 - a.2) (a.1 - b.1) : Nat) : Int) := by unfold thG; rw [if_pos hn]
    constructor
    · by_cases hA : 0 ≤ thA a b
      · exact hA
      · exfalso
        have := Int.mul_pos_of_neg_of_neg (show thA a b < 0 by omega) (show thG a b < 0 by omega)
        omega
    · intro hA
      have hp := hp0 hA
      have hq : a.1 - b.1 < 0 := by omega
      have hgq : ((Int.gcd (b.2 - a.2) (a.1 - b.1) : Nat) : Int) = -(a.1 - b.1) := by
        rw [hp, Int.gcd_zero_left]
        omega
      have hGq : thG a b = a.1 - b.1 := by rw [hG, hgq]; omega
      unfold thB
      rw [hGq]
      exact Int.tdiv_self (by omega)
  · have hG : thG a b = ((Int.gcd (b.2 - a.2) (a.1 - b.1) : Nat) : Int) := by unfold thG; rw [if_neg hn]
    constructor
    · by_cases hA : 0 ≤ thA a b
      · exact hA
      · exfalso
        have := Int.mul_neg_of_neg_of_pos (show thA a b < 0 by omega) (show 0 < thG a b by omega)
        omega
    · intro hA
      have hp := hp0 hA
      have hq : 0 ≤ a.1 - b.1 := by omega
      have hgq : ((Int.gcd (b.2 - a.2) (a.1 - b.1) : Nat) : Int) = a.1 - b.1 := by
        rw [hp, Int.gcd_zero_left]
        omega
      have hGq : thG a b = a.1 - b.1 := by rw [hG, hgq]
      unfold thB
      rw [hGq]
      exact Int.tdiv_self (by omega)
theorem th_bd {a b : Pt} (ha : sm a) (hb : sm b) : ib (thA a b) ∧ ib (thB a b) ∧ i6 (thC a b) := by
  have q1 : ib (thA a b) := tdiv_bd (x := b.2 - a.2) (thG a b) (by omega)
  have q2 : ib (thB a b) := tdiv_bd (x := a.1 - b.1) (thG a b) (by omega)
  have q3 := mul_bd (y := a.1) q1 (by omega)
  have q4 := mul_bd (y := a.2) q2 (by omega)
  refine ⟨q1, q2, ?_⟩
  unfold thC i6
  omega
/-- What is known of a line through two points. -/
structure OnL (A B C : Int) (a b : Pt) : Prop where
  e1 : A * a.1 + B * a.2 = C
  e2 : A * b.1 + B * b.2 = C
  nn : 0 ≤ A
  one : A = 0 → B = 1
  bA : ib A
  bB : ib B
  bC : i6 C
theorem th_line {a b : Pt} (ha : sm a) (hb : sm b) (h : a ≠ b) : OnL (thA a b) (thB a b) (thC a b) a b := by
  obtain ⟨b1, b2, b3⟩ := th_bd ha hb
  obtain ⟨n1, n2⟩ := th_norm h
  exact ⟨rfl, th_on2 h, n1, n2, b1, b2, b3⟩
theorem thR_cases (a b : Pt) : ((thR a b).2 ≠ 0) ∨ (sm a ∧ sm b ∧ ∃ A B C, thR a b = ((A, B, C), 0) ∧ OnL A B C a b) := by
  unfold thR
  by_cases hs : sm a ∧ sm b
  · rw [if_neg (not_not_intro hs)]
    by_cases h : a = b
    · rw [if_pos h]; exact .inl (by decide)
    · rw [if_neg h]
      exact .inr ⟨hs.1, hs.2, _, _, _, rfl, th_line hs.1 hs.2 h⟩
  · rw [if_pos hs]; exact .inl (by decide)
end Go.Av

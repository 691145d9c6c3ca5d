/- Contracts behind a law: no conditions beyond those in each statement. -/
import Derived.Test.YtnkkkeohhgbhnaaFe
import Derived.Test.YtnkkkeohhgbhnaaLn
import Derived.Test.YtnkkkeohhgbhnaaAz
import Derived.Test.YtnkkkeohhgbhnaaP9
set_option maxHeartbeats 8000000
set_option exponentiation.threshold 100000
set_option maxRecDepth 100000
set_option linter.unusedVariables false
set_option linter.unusedSimpArgs false
namespace Go.Av
open Go Go.Proofs
/-! fractions: Floor, Round, Format -/
theorem dq_div (p : Bool) (m n : Nat) (hn : 0 < n) : dq p false m n = sgn p m / (n : Int) ∧ dr p false m n = sgn p m % (n : Int) := by
  have h1 := div_id p false m n hn
  have h2 := dr_ra p false m n
  have h3 := ra_lt (p := p) (q := false) (m := m) hn
  have e : sgn false n = (n : Int) := rfl
  have e2 : sgn false (ra p false m n) = ((ra p false m n : Nat) : Int) := rfl
  rw [e] at h1
  rw [e2] at h2
  have := (Int.ediv_emod_unique (a := sgn p m) (b := (n : Int)) (r := dr p false m n) (q := dq p false m n) (by omega)).2 ⟨by rw [← h1, Int.mul_comm]; omega, by omega, by omega⟩
  exact ⟨this.1.symm, this.2.symm⟩
theorem floor_num (x : Rat) : x.floor = x.num / (x.den : Int) := by
  unfold Rat.floor
  split
  · next h => rw [h]; simp
  · rfl
/-- the nearest integer, halves upwards -/
def rnd (x : Rat) : Int := if 2 * (x.num % (x.den : Int)) < x.den then x.floor else x.floor + 1
theorem floor_abs (x : Rat) : x.floor.natAbs ≤ x.num.natAbs := by
  rw [floor_num]
  have hd : 0 < (x.den : Int) := by have := x.den_pos; omega
  have h1 := Int.mul_ediv_add_emod x.num x.den
  have h2 := Int.emod_nonneg x.num (b := (x.den : Int)) (by omega)
  have h3 := Int.emod_lt_of_pos x.num hd
  rcases Int.lt_or_le x.num 0 with h | h
  · have h4 : x.num ≤ x.num / (x.den : Int) := by
      rw [Int.le_ediv_iff_mul_le hd]
      have : x.num * (x.den : Int) ≤ x.num * 1 := Int.mul_le_mul_of_nonpos_left (by omega) (by omega)
      omega
    have h5 : x.num / (x.den : Int) < 0 := Int.ediv_neg_of_neg_of_pos h hd
    omega
  · have h4 := Int.ediv_le_self (b := (x.den : Int)) h
    have h5 := Int.ediv_nonneg (b := (x.den : Int)) h (by omega)
    omega
theorem rnd_ok {x : Rat} (h : okQ x) (h2 : ¬ 2 * (x.num % (x.den : Int)) < x.den) : ln (x.floor + 1).natAbs ≤ 512 := by
  refine Nat.le_trans (ln_mono ?_) h.1
  have hd : 0 < (x.den : Int) := by have := x.den_pos; omega
  have h3 := Int.emod_lt_of_pos x.num hd
  have h0 := Int.emod_nonneg x.num (b := (x.den : Int)) (by omega)
  have hm := Int.mul_ediv_add_emod x.num x.den
  have hfa := floor_abs x
  rw [floor_num] at *
  rcases Int.lt_or_le x.num 0 with h | h
  · have h5 : x.num / (x.den : Int) < 0 := Int.ediv_neg_of_neg_of_pos h hd
    omega
  · have h5 := Int.ediv_nonneg (b := (x.den : Int)) h (by omega)
    have h6 : x.num / (x.den : Int) + 1 ≤ x.num := by
      have h7 : 2 ≤ (x.den : Int) := by
        rcases Int.lt_or_le (x.den : Int) 2 with h8 | h8
        · have : (x.den : Int) = 1 := by omega
          rw [this] at h2
          simp at h2
        · exact h8
      have h8 : 2 * (x.num / (x.den : Int)) ≤ (x.den : Int) * (x.num / (x.den : Int)) := Int.mul_le_mul_of_nonneg_right h7 h5
      have h9 : 0 < x.num % (x.den : Int) := by omega
      omega
    omega
theorem dI10_len {m : Nat} (h : ln m ≤ 512) : (dI 10 m).length ≤ 16384 := by have := dI_len (b := 10) (by decide) h; omega
theorem fmt_le {p : Bool} {m : Nat} (h : ln m ≤ 512) : (fmt p m).size ≤ 20000 := by
  unfold fmt
  split
  · decide
  · have := dI10_len h
    rw [strOfNums_size, List.length_reverse]
    unfold fmtL
    rw [List.length_append, List.length_map]
    split <;> simp <;> omega
def fmtQ (p : Bool) (m d : Nat) : ByteArray := if d = 1 then fmt p m else fmt p m ++ ⟨#[47]⟩ ++ fmt false d
end Go.Av

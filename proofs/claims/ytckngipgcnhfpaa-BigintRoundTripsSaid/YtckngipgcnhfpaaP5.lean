import Derived.Test.YtckngipgcnhfpaaP4
/-! Plain arithmetic of limbs: bits, halves, the division bit by bit, the greatest common divisor. -/
set_option linter.unusedVariables false
namespace Go.Av
theorem two_split (i : Nat) : 2 ^ i = B ^ (i / 32) * 2 ^ (i % 32) := by
  rw [B_pow, ← Nat.pow_add]; congr 1; omega
theorem B_two {r : Nat} (h : r ≤ 32) : B = 2 ^ r * 2 ^ (32 - r) := by rw [← Nat.pow_add, show r + (32 - r) = 32 by omega]; rfl
theorem bit_dg (n i : Nat) : dg n (i / 32) / 2 ^ (i % 32) % 2 = n / 2 ^ i % 2 := by
  unfold dg
  have hr : i % 32 < 32 := Nat.mod_lt _ (by decide)
  rw [two_split i, ← Nat.div_div_eq_div_mul]
  generalize n / B ^ (i / 32) = x
  generalize i % 32 = r at *
  rw [B_two (r := r) (by omega), Nat.mod_mul_right_div_self, show 32 - r = (31 - r) + 1 by omega, Nat.pow_succ, Nat.mul_comm, Nat.mod_mul_right_mod]
/-- one round of the division bit by bit -/
theorem bit_step {A V i : Nat} (hV : 0 < V) : (V ≤ 2 * (A / 2 ^ (i + 1) % V) + A / 2 ^ i % 2 → A / 2 ^ i / V = 2 * (A / 2 ^ (i + 1) / V) + 1 ∧ A / 2 ^ i % V = 2 * (A / 2 ^ (i + 1) % V) + A / 2 ^ i % 2 - V) ∧
    (¬ V ≤ 2 * (A / 2 ^ (i + 1) % V) + A / 2 ^ i % 2 → A / 2 ^ i / V = 2 * (A / 2 ^ (i + 1) / V) ∧ A / 2 ^ i % V = 2 * (A / 2 ^ (i + 1) % V) + A / 2 ^ i % 2) := by
  have e : A / 2 ^ (i + 1) = A / 2 ^ i / 2 := by rw [Nat.pow_succ, Nat.div_div_eq_div_mul]
  rw [e]
  generalize A / 2 ^ i = x
  have h1 := Nat.div_add_mod x 2
  have h2 := Nat.div_add_mod (x / 2) V
  have h3 := Nat.mod_lt (x / 2) hV
  have h4 := Nat.mod_lt x (show 2 > 0 by decide)
  generalize x / 2 / V = q at *
  generalize x / 2 % V = r at *
  generalize x % 2 = b at *
  have h5 : x = V * (2 * q) + (2 * r + b) := by rw [Nat.mul_left_comm]; omega
  constructor
  · intro h
    have h6 : x = V * (2 * q + 1) + (2 * r + b - V) := by rw [Nat.mul_add, Nat.mul_one]; omega
    constructor
    · rw [h6, Nat.mul_add_div hV, Nat.div_eq_of_lt (by omega), Nat.add_zero]
    · rw [h6, Nat.mul_add_mod, Nat.mod_eq_of_lt (by omega)]
  · intro h
    constructor
    · rw [h5, Nat.mul_add_div hV, Nat.div_eq_of_lt (by omega), Nat.add_zero]
    · rw [h5, Nat.mul_add_mod, Nat.mod_eq_of_lt (by omega)]
theorem bit_room {o : List Int} {i z : Nat} (hw : wf o) (hv : val o = 2 ^ (i + 1) * z) : dg (val o) (i / 32) + 2 ^ (i % 32) < B := by
  have hr : i % 32 < 32 := Nat.mod_lt _ (by decide)
  have e : 2 ^ (i + 1) = B ^ (i / 32) * 2 ^ (i % 32 + 1) := by
    rw [Nat.pow_succ, two_split i, Nat.pow_succ, Nat.mul_assoc]
  rw [hv, e]
  unfold dg
  rw [Nat.mul_assoc, Nat.mul_div_cancel_left _ (Bp_pos _)]
  generalize i % 32 = r at *
  have h1 := B_two (r := r + 1) (by omega)
  rw [h1, Nat.mul_mod_mul_left]
  have h2 := Nat.mod_lt z (show 2 ^ (32 - (r + 1)) > 0 from Nat.pow_pos (by decide))
  have h3 : 2 ^ (r + 1) * (z % 2 ^ (32 - (r + 1)) + 1) ≤ 2 ^ (r + 1) * 2 ^ (32 - (r + 1)) := Nat.mul_le_mul_left _ h2
  have h4 : 2 ^ r < 2 ^ (r + 1) := Nat.pow_lt_pow_right (by decide) (by omega)
  rw [Nat.mul_succ] at h3
  omega
theorem bit_set {o : List Int} {i : Nat} (hw : wf o) (hi : i / 32 < o.length) (hr : dg (val o) (i / 32) + 2 ^ (i % 32) < B) :
    wf (o.set (i / 32) ((dg (val o) (i / 32) + 2 ^ (i % 32) : Nat) : Int)) ∧ val (o.set (i / 32) ((dg (val o) (i / 32) + 2 ^ (i % 32) : Nat) : Int)) = val o + 2 ^ i := by
  refine ⟨wf_set hw ⟨Int.natCast_nonneg _, Int.ofNat_lt.2 hr⟩, ?_⟩
  · have h1 := val_set (l := o) (i := i / 32) (x := ((dg (val o) (i / 32) + 2 ^ (i % 32) : Nat) : Int)) hi
    have h2 := rd_wf hw (i := ((i / 32 : Nat) : Int)) (by omega)
    rw [Int.toNat_natCast] at h2
    rw [h2, Int.toNat_natCast, Int.toNat_natCast, Nat.mul_add, ← two_split] at h1
    omega
/-- halves -/
theorem half_dg (n i : Nat) : dg (n / 2) i = dg n i / 2 + dg n (i + 1) % 2 * 2147483648 := by
  have h := low_step (a := n) (n := 1) (by decide) i
  rw [Nat.pow_one] at h
  have h1 := dg_lt n i
  rw [h]
  unfold B at *
  omega
end Go.Av

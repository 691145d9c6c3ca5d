import Derived.Test.YtckngipgcnhfpaaPl
import Derived.Laws.BitsAllLaws
/-! Plain arithmetic of limbs: sums, differences, products. -/
namespace Go.Av
theorem Int_dg (n i : Nat) : 0 ≤ ((dg n i : Nat) : Int) ∧ ((dg n i : Nat) : Int) < 4294967296 := ⟨by omega, dg_lt' n i⟩
/-- i limbs of n, then zeros, m in all. -/
def pz (i m n : Nat) : List Int := padd i n ++ List.replicate (m - i) 0
theorem pz_length {i m n : Nat} (h : i ≤ m) : (pz i m n).length = m := by simp [pz]; omega
theorem pz_zero (m n : Nat) : pz 0 m n = List.replicate m 0 := by simp [pz, padd_zero]
theorem pz_full (m n : Nat) : pz m m n = padd m n := by simp [pz]
theorem pz_set {i m n : Nat} (h : i < m) : (pz i m n).set i ((dg n i : Nat) : Int) = pz (i + 1) m n := by
  unfold pz
  rw [List.set_append_right _ _ (by simp), padd_succ]
  obtain ⟨k, hk⟩ : ∃ k, m - i = k + 1 := ⟨m - i - 1, by omega⟩
  rw [hk, List.replicate_succ, show m - (i + 1) = k by omega]
  simp
/-- the carry of a sum into limb i -/
def cy (a b i : Nat) : Nat := (a % B ^ i + b % B ^ i) / B ^ i
theorem cy_zero (a b : Nat) : cy a b 0 = 0 := by simp [cy, Nat.mod_one]
theorem cy_le (a b i : Nat) : cy a b i ≤ 1 := by
  unfold cy
  have h1 := Nat.mod_lt a (Bp_pos i)
  have h2 := Nat.mod_lt b (Bp_pos i)
  have : (a % B ^ i + b % B ^ i) / B ^ i < 2 := by rw [Nat.div_lt_iff_lt_mul (Bp_pos i)]; omega
  omega
theorem cy_step (a b i : Nat) : dg a i + dg b i + cy a b i = dg (a + b) i + B * cy a b (i + 1) := by
  have e1 : ∀ j, a % B ^ j + b % B ^ j = (a + b) % B ^ j + B ^ j * cy a b j := by
    intro j
    unfold cy
    rw [Nat.add_mod a b, Nat.mod_add_div]
  have h1 := e1 i
  have h2 := e1 (i + 1)
  rw [mod_succ, mod_succ, mod_succ, Nat.pow_succ] at h2
  have h3 : B ^ i * (dg a i + dg b i + cy a b i) = B ^ i * (dg (a + b) i + B * cy a b (i + 1)) := by
    rw [Nat.mul_add, Nat.mul_add, Nat.mul_add, ← Nat.mul_assoc]
    omega
  exact Nat.eq_of_mul_eq_mul_left (Bp_pos i) h3
theorem cy_top {a b i : Nat} (ha : a < B ^ i) (hb : b < B ^ i) : cy a b i = dg (a + b) i := by
  have h := cy_step a b i
  have h1 : dg a i = 0 := dg_big (ln_le.2 ha)
  have h2 : dg b i = 0 := dg_big (ln_le.2 hb)
  have h3 := cy_le a b i
  have h4 := dg_lt (a + b) i
  have h5 : B * cy a b (i + 1) < B * 1 := by unfold B at *; omega
  have h6 : cy a b (i + 1) = 0 := by
    have := Nat.lt_of_mul_lt_mul_left h5
    omega
  rw [h6] at h
  omega
/-- the borrow of a difference into limb i -/
def bw (a b i : Nat) : Nat := if a % B ^ i < b % B ^ i then 1 else 0
theorem bw_zero (a b : Nat) : bw a b 0 = 0 := by simp [bw, Nat.mod_one]
theorem bw_le (a b i : Nat) : bw a b i ≤ 1 := by unfold bw; split <;> omega
theorem bw_step {a b : Nat} (h : b ≤ a) (i : Nat) : (dg a i : Int) - dg b i - bw a b i = dg (a - b) i - 4294967296 * bw a b (i + 1) := by
  have key : ∀ j, (a % B ^ j : Nat) + B ^ j * bw a b j = (a - b) % B ^ j + b % B ^ j := by
    intro j
    have e : a % B ^ j = ((a - b) % B ^ j + b % B ^ j) % B ^ j := by rw [← Nat.add_mod, Nat.sub_add_cancel h]
    have h1 := Nat.mod_lt (a - b) (Bp_pos j)
    have h2 := Nat.mod_lt b (Bp_pos j)
    unfold bw
    generalize (a - b) % B ^ j = f at *
    generalize b % B ^ j = g at *
    generalize a % B ^ j = x at *
    generalize B ^ j = p at *
    rcases Nat.lt_or_ge (f + g) p with h3 | h3
    · rw [Nat.mod_eq_of_lt h3] at e
      rw [if_neg (by omega)]; omega
    · rw [Nat.mod_eq_sub_mod h3, Nat.mod_eq_of_lt (by omega)] at e
      rw [if_pos (by omega)]; omega
  have h1 := key i
  have h2 := key (i + 1)
  rw [mod_succ, mod_succ, mod_succ, Nat.pow_succ] at h2
  have h3 : B ^ i * (dg a i + B * bw a b (i + 1)) = B ^ i * (dg (a - b) i + dg b i + bw a b i) := by
    rw [Nat.mul_add, Nat.mul_add, Nat.mul_add, ← Nat.mul_assoc]
    omega
  have h4 := Nat.eq_of_mul_eq_mul_left (Bp_pos i) h3
  have h5 : ((B : Nat) : Int) = 4294967296 := rfl
  have h6 : ((dg a i + B * bw a b (i + 1) : Nat) : Int) = ((dg (a - b) i + dg b i + bw a b i : Nat) : Int) := by rw [h4]
  simp only [Int.natCast_add, Int.natCast_mul, h5] at h6
  omega
theorem bit31 {x : Nat} (h : x < 4294967296) : x / 2147483648 = (x.testBit 31).toNat := by
  have h1 : x / 2147483648 < 2 := by omega
  have h2 : x.testBit 31 = decide (x / 2147483648 % 2 = 1) := by rw [Nat.testBit_eq_decide_div_mod_eq]
  rw [h2]
  have : x / 2147483648 = 0 ∨ x / 2147483648 = 1 := by omega
  rcases this with h3 | h3 <;> rw [h3] <;> rfl
/-- The borrow that math/bits.Sub32 reads off the highest bits. -/
theorem sub32_bit {x y c : Nat} (hx : x < 4294967296) (hy : y < 4294967296) (hc : c ≤ 1) :
    bits .or .u32 (bits .and .u32 (bits .xor .u32 (IntKind.max .u32) x) y) (bits .and .u32 (bits .xor .u32 (IntKind.max .u32) (bits .xor .u32 x y)) (((x : Int) - y - c) % 4294967296)) / 2147483648 = if (x : Int) < y + c then 1 else 0 := by
  obtain ⟨d, hd, hd1⟩ : ∃ d : Nat, ((x : Int) - y - c) % 4294967296 = (d : Nat) ∧ d < 4294967296 := ⟨(((x : Int) - y - c) % 4294967296).toNat, by omega, by omega⟩
  have hmax : IntKind.max .u32 = ((4294967295 : Nat) : Int) := rfl
  have hxor : ∀ {a b : Nat}, a < 4294967296 → b < 4294967296 → a ^^^ b < 4294967296 := fun {a b} ha hb => Nat.xor_lt_two_pow (n := 32) ha hb
  have hand : ∀ {a b : Nat}, a < 4294967296 → a &&& b < 4294967296 := fun {a b} ha => Nat.lt_of_le_of_lt Nat.and_le_left ha
  have hor : ∀ {a b : Nat}, a < 4294967296 → b < 4294967296 → a ||| b < 4294967296 := fun {a b} ha hb => Nat.or_lt_two_pow (n := 32) ha hb
  rw [hd, hmax, u32_xor_nat _ _ (by decide) hx, u32_xor_nat _ _ hx hy, u32_xor_nat _ _ (by decide) (hxor hx hy), u32_and_nat _ _ (hxor (by decide) hx) hy, u32_and_nat _ _ (hxor (by decide) (hxor hx hy)) hd1, u32_or_nat _ _ (hand (hxor (by decide) hx)) (hand (hxor (by decide) (hxor hx hy)))]
  rw [show (2147483648 : Int) = ((2147483648 : Nat) : Int) from rfl, ← Int.natCast_ediv, bit31 (hor (hand (hxor (by decide) hx)) (hand (hxor (by decide) (hxor hx hy))))]
  simp only [Nat.testBit_or, Nat.testBit_and, Nat.testBit_xor]
  have t0 : (4294967295 : Nat).testBit 31 = true := by decide
  have tx := bit31 hx
  have ty := bit31 hy
  have td := bit31 hd1
  rw [t0]
  have ex := Nat.div_add_mod x 2147483648
  have ey := Nat.div_add_mod y 2147483648
  have ed := Nat.div_add_mod d 2147483648
  have mx := Nat.mod_lt x (show 2147483648 > 0 by decide)
  have my := Nat.mod_lt y (show 2147483648 > 0 by decide)
  have md := Nat.mod_lt d (show 2147483648 > 0 by decide)
  rw [tx] at ex
  rw [ty] at ey
  rw [td] at ed
  generalize x % 2147483648 = x' at *
  generalize y % 2147483648 = y' at *
  generalize d % 2147483648 = d' at *
  cases hbx : x.testBit 31 <;> cases hby : y.testBit 31 <;> cases hbd : d.testBit 31 <;> simp only [hbx, hby, hbd, Bool.toNat_true, Bool.toNat_false] at ex ey ed ⊢ <;> simp <;> omega
end Go.Av

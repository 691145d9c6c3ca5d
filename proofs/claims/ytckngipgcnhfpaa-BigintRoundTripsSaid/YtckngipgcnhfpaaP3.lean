import Derived.Test.YtckngipgcnhfpaaP2
/-! Plain arithmetic of limbs: parts of numbers, shifts, the division by a guessed limb. -/
set_option linter.unusedVariables false
namespace Go.Av
theorem dg_div (n i j : Nat) : dg (n / B ^ i) j = dg n (i + j) := by
  unfold dg; rw [Nat.div_div_eq_div_mul, ← Nat.pow_add]
theorem dg_mod {n i j : Nat} (h : j < i) : dg (n % B ^ i) j = dg n j := by
  unfold dg
  obtain ⟨d, rfl⟩ : ∃ d, i = j + (d + 1) := ⟨i - j - 1, by omega⟩
  rw [Nat.pow_add, Nat.mod_mul_right_div_self, Nat.pow_succ, Nat.mul_comm (B ^ d) B, Nat.mod_mul_right_mod]
theorem dg_mod_ge {n i j : Nat} (h : i ≤ j) : dg (n % B ^ i) j = 0 := dg_big (ln_le.2 (Nat.lt_of_lt_of_le (Nat.mod_lt _ (Bp_pos i)) (Nat.pow_le_pow_right B_pos h)))
theorem lo_div {lo i x : Nat} (h : lo < B ^ i) : (lo + B ^ i * x) / B ^ i = x := by
  rw [Nat.add_mul_div_left _ _ (Bp_pos i), Nat.div_eq_of_lt h, Nat.zero_add]
theorem lo_mod {lo i x : Nat} (h : lo < B ^ i) : (lo + B ^ i * x) % B ^ i = lo := by
  rw [Nat.add_mul_mod_self_left, Nat.mod_eq_of_lt h]
theorem dg_lo {lo i x t : Nat} (h : lo < B ^ i) (ht : t < i) : dg (lo + B ^ i * x) t = dg lo t := by
  rw [← dg_mod (n := lo + B ^ i * x) ht, lo_mod h]
theorem dg_hi {lo i x t : Nat} (h : lo < B ^ i) : dg (lo + B ^ i * x) (i + t) = dg x t := by
  rw [← dg_div, lo_div h]
/-- the lowest j limbs of d, above them those of w -/
def mix (d w j : Nat) : Nat := d % B ^ j + B ^ j * (w / B ^ j)
theorem mix_zero (d w : Nat) : mix d w 0 = w := by simp [mix, Nat.mod_one]
theorem mix_full {d w n : Nat} (h : w < B ^ n) : mix d w n = d % B ^ n := by simp [mix, Nat.div_eq_of_lt h]
theorem dg_mix (d w j t : Nat) : dg (mix d w j) t = if t < j then dg d t else dg w t := by
  unfold mix
  split
  · rename_i h
    rw [dg_lo (Nat.mod_lt _ (Bp_pos j)) h, dg_mod h]
  · rename_i h
    obtain ⟨s, rfl⟩ : ∃ s, t = j + s := ⟨t - j, by omega⟩
    rw [dg_hi (Nat.mod_lt _ (Bp_pos j)), dg_div]
theorem padd_set_eq {m x y i : Nat} (hx : ∀ t, t ≠ i → dg x t = dg y t) : (padd m x).set i ((dg y i : Nat) : Int) = padd m y := by
  apply List.ext_getElem?
  intro t
  by_cases ht : t < m
  · by_cases hti : t = i
    · subst hti
      rw [List.getElem?_set_self (by simpa using ht), padd_get ht]
    · rw [List.getElem?_set_ne (Ne.symm hti), padd_get ht, padd_get ht, hx t hti]
  · rw [List.getElem?_eq_none (by simp; omega), List.getElem?_eq_none (by simp; omega)]
theorem mix_set {m lo i d w j : Nat} (h : lo < B ^ i) : (padd m (lo + B ^ i * mix d w j)).set (i + j) ((dg d j : Nat) : Int) = padd m (lo + B ^ i * mix d w (j + 1)) := by
  have e : dg d j = dg (lo + B ^ i * mix d w (j + 1)) (i + j) := by rw [dg_hi h, dg_mix, if_pos (by omega)]
  rw [e]
  refine padd_set_eq fun t ht => ?_
  by_cases hti : t < i
  · rw [dg_lo h hti, dg_lo h hti]
  · obtain ⟨s, rfl⟩ : ∃ s, t = i + s := ⟨t - i, by omega⟩
    rw [dg_hi h, dg_hi h, dg_mix, dg_mix]
    by_cases h1 : s < j
    · rw [if_pos h1, if_pos (by omega)]
    · rw [if_neg h1, if_neg (by omega)]

/-! carries of a product with one limb -/
def mc (q v j : Nat) : Nat := q * (v % B ^ j) / B ^ j
theorem mc_zero (q v : Nat) : mc q v 0 = 0 := by simp [mc, Nat.mod_one]
theorem mc_lt {q v j : Nat} (h : q < B) : mc q v j < B := by
  unfold mc
  rw [Nat.div_lt_iff_lt_mul (Bp_pos j)]
  have h1 := Nat.mod_lt v (Bp_pos j)
  rcases Nat.eq_zero_or_pos q with rfl | hq
  · rw [Nat.zero_mul]; exact Nat.mul_pos B_pos (Bp_pos j)
  · exact Nat.lt_of_lt_of_le (Nat.mul_lt_mul_of_pos_left h1 hq) (Nat.mul_le_mul_right _ (Nat.le_of_lt h))
theorem mc_step (q v j : Nat) : q * dg v j + mc q v j = dg (q * v) j + B * mc q v (j + 1) := by
  have key : ∀ j, q * (v % B ^ j) = (q * v) % B ^ j + B ^ j * mc q v j := by
    intro j
    unfold mc
    have := Nat.div_add_mod (q * (v % B ^ j)) (B ^ j)
    rw [Nat.mul_mod, Nat.mod_mod, ← Nat.mul_mod] at this
    omega
  have h1 := key j
  have h2 := key (j + 1)
  rw [mod_succ, mod_succ, Nat.mul_add, Nat.pow_succ, h1] at h2
  have h3 : B ^ j * (q * dg v j + mc q v j) = B ^ j * (dg (q * v) j + B * mc q v (j + 1)) := by
    rw [Nat.mul_add, Nat.mul_add, ← Nat.mul_assoc (B ^ j) B]
    rw [Nat.mul_left_comm q (B ^ j)] at h2
    omega
  exact Nat.eq_of_mul_eq_mul_left (Bp_pos j) h3

/-! shifts -/
def P2 (n : Nat) : Nat := 2 ^ n
theorem B_P2 {n : Nat} (h : n ≤ 32) : B = 2 ^ n * 2 ^ (32 - n) := by rw [← Nat.pow_add, show n + (32 - n) = 32 by omega]; rfl
theorem low_step {a n : Nat} (h : n ≤ 31) (i : Nat) : dg (a / 2 ^ n) i = (dg a i + B * dg a (i + 1)) / 2 ^ n % B := by
  have h0 := div_split a i
  have h1 := div_split a (i + 1)
  rw [h1] at h0
  have hd : dg (a / 2 ^ n) i = a / 2 ^ n / B ^ i % B := rfl
  rw [hd, Nat.div_div_eq_div_mul, Nat.mul_comm (2 ^ n), ← Nat.div_div_eq_div_mul, h0]
  have e : B * (B * (a / B ^ (i + 1 + 1)) + dg a (i + 1)) + dg a i = (dg a i + B * dg a (i + 1)) + 2 ^ n * (B * (2 ^ (32 - n) * (a / B ^ (i + 1 + 1)))) := by
    have e1 : B * (B * (a / B ^ (i + 1 + 1))) = 2 ^ n * (B * (2 ^ (32 - n) * (a / B ^ (i + 1 + 1)))) := by
      have := B_P2 (n := n) (by omega)
      generalize a / B ^ (i + 1 + 1) = z
      calc B * (B * z) = B * (2 ^ n * 2 ^ (32 - n) * z) := by rw [← this]
        _ = 2 ^ n * (B * (2 ^ (32 - n) * z)) := by rw [Nat.mul_assoc, Nat.mul_left_comm]
    rw [Nat.mul_add, e1]; omega
  rw [e, Nat.add_mul_div_left _ _ (Nat.pow_pos (by decide)), Nat.add_mul_mod_self_left]
theorem or_add {x z n : Nat} (hx : x < 2 ^ n) (hz : 2 ^ n ∣ z) : x ||| z = x + z := by
  obtain ⟨c, rfl⟩ := hz
  rw [Nat.or_comm, ← Nat.two_pow_add_eq_or_of_lt hx, Nat.add_comm]
theorem shift_step {a n : Nat} (hn : n ≤ 31) (i : Nat) :
    (a % B ^ (i + 1)) * 2 ^ n = (a % B ^ i) * 2 ^ n + B ^ i * (dg a i * 2 ^ n) := by
  rw [mod_succ, Nat.add_mul, Nat.mul_assoc]
theorem shift_lo {a n : Nat} (hn : n ≤ 31) (i : Nat) : (a % B ^ i) * 2 ^ n / B ^ i < 2 ^ n := by
  rw [Nat.div_lt_iff_lt_mul (Bp_pos i), Nat.mul_comm]
  exact Nat.mul_lt_mul_of_pos_left (Nat.mod_lt _ (Bp_pos i)) (Nat.pow_pos (by decide))
theorem shift_dg {a n i : Nat} (hn : n ≤ 31) : dg ((a % B ^ i) * 2 ^ n) i = (a % B ^ i) * 2 ^ n / B ^ i := by
  have h := shift_lo (a := a) hn i
  have : 2 ^ n ≤ 2 ^ 31 := Nat.pow_le_pow_right (by decide) hn
  have hb : 2 ^ 31 < B := by decide
  unfold dg
  exact Nat.mod_eq_of_lt (by omega)
/-- the limbs after one round of a shift to the left -/
theorem shift_list {a n i m : Nat} (hn : n ≤ 31) (hi : i + 1 < m) :
    ((padd m ((a % B ^ i) * 2 ^ n)).set i (((dg ((a % B ^ i) * 2 ^ n) i ||| dg a i * 2 ^ n % B) : Nat) : Int)).set (i + 1) ((dg a i * 2 ^ n / B : Nat) : Int) = padd m ((a % B ^ (i + 1)) * 2 ^ n) := by
  have hlo := shift_lo (a := a) hn i
  have hB := B_P2 (n := n) (by omega)
  have hdvd : 2 ^ n ∣ dg a i * 2 ^ n % B := by
    rw [Nat.dvd_iff_mod_eq_zero, hB, Nat.mod_mul_right_mod, Nat.mul_mod_left]
  rw [shift_dg hn, or_add hlo hdvd]
  generalize hy : dg a i * 2 ^ n = y at *
  generalize hz : (a % B ^ i) * 2 ^ n / B ^ i = z at *
  have hyB : y % B + z < B := by
    have h1 := Nat.mod_lt y B_pos
    obtain ⟨c, hc⟩ := hdvd
    rw [hc] at h1 ⊢
    rw [hB] at h1 ⊢
    have h2 : c < 2 ^ (32 - n) := Nat.lt_of_mul_lt_mul_left h1
    have h3 : 2 ^ n * (c + 1) ≤ 2 ^ n * 2 ^ (32 - n) := Nat.mul_le_mul_left _ h2
    rw [Nat.mul_succ] at h3
    omega
  have hval : (a % B ^ (i + 1)) * 2 ^ n = ((a % B ^ i) * 2 ^ n) % B ^ i + B ^ i * ((z + y % B) + B * (y / B)) := by
    rw [shift_step hn, hy]
    have h1 := Nat.div_add_mod ((a % B ^ i) * 2 ^ n) (B ^ i)
    have h2 := Nat.div_add_mod y B
    rw [hz] at h1
    rw [← h1, Nat.mul_add_mod, Nat.mod_mod]
    have h4 : B ^ i * y = B ^ i * (B * (y / B)) + B ^ i * (y % B) := by rw [← Nat.mul_add, h2]
    rw [Nat.mul_add, Nat.mul_add]
    omega
  have hlow := Nat.mod_lt ((a % B ^ i) * 2 ^ n) (Bp_pos i)
  have hq : y / B < B := by
    rw [Nat.div_lt_iff_lt_mul B_pos, ← hy]
    have h1 := dg_lt a i
    have h2 : 2 ^ n ≤ 2 ^ 31 := Nat.pow_le_pow_right (by decide) hn
    exact Nat.lt_of_lt_of_le (Nat.mul_lt_mul_of_lt_of_le h1 h2 (by decide)) (by decide)
  have hhi : ∀ s, dg (z + y % B + B * (y / B)) s = if s = 0 then z + y % B else if s = 1 then y / B else 0 := by
    intro s
    have e : z + y % B + B * (y / B) = z + y % B + B ^ 1 * (y / B) := by rw [Nat.pow_one]
    rw [e]
    have h1 : z + y % B < B ^ 1 := by rw [Nat.pow_one]; omega
    by_cases h0 : s = 0
    · subst h0
      rw [dg_lo h1 (by decide), if_pos rfl]
      unfold dg; rw [Nat.pow_zero, Nat.div_one]; exact Nat.mod_eq_of_lt (by omega)
    · obtain ⟨r, rfl⟩ : ∃ r, s = 1 + r := ⟨s - 1, by omega⟩
      rw [dg_hi h1, if_neg (by omega)]
      by_cases hr : r = 0
      · subst hr; rw [if_pos rfl]; unfold dg; rw [Nat.pow_zero, Nat.div_one]; exact Nat.mod_eq_of_lt hq
      · rw [if_neg (by omega)]; exact dg_big (ln_le.2 (Nat.lt_of_lt_of_le hq (by rw [show B = B ^ 1 by rw [Nat.pow_one]]; rw [← Nat.pow_mul]; exact Nat.pow_le_pow_right B_pos (by omega))))
  rw [hval]
  apply List.ext_getElem?
  intro t
  by_cases ht : t < m
  · rw [padd_get ht]
    rw [List.getElem?_set, List.getElem?_set]
    simp only [List.length_set, padd_length]
    by_cases h1 : i + 1 = t
    · subst h1
      rw [if_pos rfl, if_pos ht, dg_hi hlow, hhi]; simp
    · rw [if_neg h1]
      by_cases h2 : i = t
      · subst h2
        rw [if_pos rfl, if_pos ht]
        have := dg_hi (x := z + y % B + B * (y / B)) hlow (t := 0)
        rw [Nat.add_zero] at this
        rw [this, hhi]; simp
      · rw [if_neg h2, padd_get ht]
        by_cases h3 : t < i
        · rw [dg_lo hlow h3, dg_mod h3]
        · obtain ⟨s, rfl⟩ : ∃ s, t = i + s := ⟨t - i, by omega⟩
          rw [dg_hi hlow, hhi, if_neg (by omega), if_neg (by omega)]
          have : dg ((a % B ^ i) * 2 ^ n) (i + s) = 0 := by
            rw [← dg_div, hz]
            exact dg_big (ln_le.2 (Nat.lt_of_lt_of_le (m := B) (Nat.lt_of_lt_of_le hlo (by rw [hB]; exact Nat.le_mul_of_pos_right _ (Nat.pow_pos (by decide)))) (by rw [show B ^ s = B ^ (1 + (s - 1)) by congr 1; omega, Nat.pow_add, Nat.pow_one]; exact Nat.le_mul_of_pos_right _ (Bp_pos _))))
          rw [this]
  · rw [List.getElem?_eq_none (by simp; omega), List.getElem?_eq_none (by simp; omega)]
end Go.Av

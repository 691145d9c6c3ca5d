import Derived.Test.YtckngipgcnhfpaaP5
/-! The digits of a number in a base. -/
namespace Go.Av
def dgs (b : Nat) : Nat → Nat → List Nat
  | 0, _ => []
  | f + 1, n => if n = 0 then [] else n % b :: dgs b f (n / b)
def ds (b n : Nat) : List Nat := dgs b (n.log2 + 1) n
theorem dgs_fuel {b : Nat} (hb : 2 ≤ b) : ∀ (f g n : Nat), n < 2 ^ f → n < 2 ^ g → dgs b f n = dgs b g n
  | 0, g, n, hf, _ => by
    obtain rfl : n = 0 := by simpa using hf
    cases g <;> simp [dgs]
  | f + 1, 0, n, _, hg => by
    obtain rfl : n = 0 := by simpa using hg
    simp [dgs]
  | f + 1, g + 1, n, hf, hg => by
    simp only [dgs]
    by_cases h : n = 0
    · simp [h]
    · rw [if_neg h, if_neg h]
      have h1 : n / b ≤ n / 2 := Nat.div_le_div_left hb (by decide)
      rw [Nat.pow_succ] at hf hg
      rw [dgs_fuel hb f g (n / b) (by omega) (by omega)]
theorem ds_zero (b : Nat) : ds b 0 = [] := by simp [ds, dgs]
theorem ds_pos {b n : Nat} (hb : 2 ≤ b) (h : 0 < n) : ds b n = n % b :: ds b (n / b) := by
  have h1 : n / b ≤ n / 2 := Nat.div_le_div_left hb (by decide)
  have h2 := Nat.lt_log2_self (n := n)
  have h3 := Nat.lt_log2_self (n := n / b)
  unfold ds
  rw [dgs, if_neg (by omega)]
  rw [Nat.pow_succ] at h2
  rw [dgs_fuel hb _ ((n / b).log2 + 1) (n / b) (by omega) h3]
theorem ds_len {b : Nat} (hb : 2 ≤ b) : ∀ (k n : Nat), n < 2 ^ k → (ds b n).length ≤ k
  | 0, n, h => by
    obtain rfl : n = 0 := by simpa using h
    simp [ds_zero]
  | k + 1, n, h => by
    rcases Nat.eq_zero_or_pos n with rfl | hp
    · simp [ds_zero]
    · rw [ds_pos hb hp]
      have h1 : n / b ≤ n / 2 := Nat.div_le_div_left hb (by decide)
      rw [Nat.pow_succ] at h
      have := ds_len hb k (n / b) (by omega)
      simp only [List.length_cons]
      omega
theorem ds_lt {b : Nat} (hb : 2 ≤ b) : ∀ (k n : Nat), n < 2 ^ k → ∀ d ∈ ds b n, d < b
  | 0, n, h, d, hd => by
    obtain rfl : n = 0 := by simpa using h
    simp [ds_zero] at hd
  | k + 1, n, h, d, hd => by
    rcases Nat.eq_zero_or_pos n with rfl | hp
    · simp [ds_zero] at hd
    · rw [ds_pos hb hp] at hd
      have h1 : n / b ≤ n / 2 := Nat.div_le_div_left hb (by decide)
      rw [Nat.pow_succ] at h
      rcases List.mem_cons.1 hd with rfl | hd
      · exact Nat.mod_lt _ (by omega)
      · exact ds_lt hb k (n / b) (by omega) d hd
theorem ds_lt' {b n : Nat} (hb : 2 ≤ b) : ∀ d ∈ ds b n, d < b := ds_lt hb (n.log2 + 1) n Nat.lt_log2_self
theorem ds_ne {b n : Nat} (hb : 2 ≤ b) (h : 0 < n) : 0 < (ds b n).length := by rw [ds_pos hb h]; simp
def dI (b n : Nat) : List Int := (ds b n).map fun (d : Nat) => (d : Int)
theorem dI_zero (b : Nat) : dI b 0 = [] := by simp [dI, ds_zero]
theorem dI_pos {b n : Nat} (hb : 2 ≤ b) (h : 0 < n) : dI b n = ((n % b : Nat) : Int) :: dI b (n / b) := by simp [dI, ds_pos hb h]
theorem dI_len {b n k : Nat} (hb : 2 ≤ b) (h : ln n ≤ k) : (dI b n).length ≤ 32 * k := by
  have := ln_le.1 h
  rw [B_pow] at this
  simpa [dI] using ds_len hb (32 * k) n this
theorem dI_bd {b n : Nat} (hb : 2 ≤ b) {d : Int} (h : d ∈ dI b n) : 0 ≤ d ∧ d < b := by
  simp only [dI, List.mem_map] at h
  obtain ⟨a, ha, rfl⟩ := h
  have := ds_lt' hb a ha
  omega
/-- The number with digits, the most significant first. -/
def hor (b : Nat) (l : List Nat) : Nat := l.foldl (fun m d => m * b + d) 0
theorem hor_snoc (b : Nat) (l : List Nat) (d : Nat) : hor b (l ++ [d]) = hor b l * b + d := by simp [hor]
theorem hor_ds {b : Nat} (hb : 2 ≤ b) : ∀ (k n : Nat), n < 2 ^ k → hor b (ds b n).reverse = n
  | 0, n, h => by
    obtain rfl : n = 0 := by simpa using h
    simp [ds_zero, hor]
  | k + 1, n, h => by
    rcases Nat.eq_zero_or_pos n with rfl | hp
    · simp [ds_zero, hor]
    · have h1 : n / b ≤ n / 2 := Nat.div_le_div_left hb (by decide)
      rw [Nat.pow_succ] at h
      rw [ds_pos hb hp, List.reverse_cons, hor_snoc, hor_ds hb k (n / b) (by omega)]
      rw [Nat.mul_comm]; exact Nat.div_add_mod n b
theorem hor_ds' {b n : Nat} (hb : 2 ≤ b) : hor b (ds b n).reverse = n := hor_ds hb (n.log2 + 1) n Nat.lt_log2_self
theorem ds_top {b : Nat} (hb : 2 ≤ b) : ∀ (k n : Nat), n < 2 ^ k → 0 < n → (ds b n).getLast? ≠ some 0
  | 0, n, h, hp => by
    obtain rfl : n = 0 := by simpa using h
    omega
  | k + 1, n, h, hp => by
    have h1 : n / b ≤ n / 2 := Nat.div_le_div_left hb (by decide)
    rw [Nat.pow_succ] at h
    rw [ds_pos hb hp]
    rcases Nat.eq_zero_or_pos (n / b) with h0 | h0
    · rw [h0, ds_zero]
      have : n < b := (Nat.div_eq_zero_iff_lt (by omega)).1 h0
      simp [Nat.mod_eq_of_lt this]
      omega
    · have := ds_top hb k (n / b) (by omega) h0
      have hl := ds_ne hb h0
      rw [List.getLast?_cons]
      cases hx : (ds b (n / b)).getLast? with
      | none => rw [List.getLast?_eq_none_iff] at hx; rw [hx] at hl; simp at hl
      | some v => rw [hx] at this; simpa using this
theorem ds_top' {b n : Nat} (hb : 2 ≤ b) (h : 0 < n) : (ds b n).getLast? ≠ some 0 := ds_top hb (n.log2 + 1) n Nat.lt_log2_self h

/-! A number times a small one plus another: limb by limb -/
def lc (n b c i : Nat) : Nat := (n % B ^ i * b + c) / B ^ i
theorem lc_zero (n b c : Nat) : lc n b c 0 = c := by simp [lc, Nat.mod_one]
theorem lc_lt {n b c i : Nat} (hb : b < B) (hc : c < B) : lc n b c i < B := by
  unfold lc
  rw [Nat.div_lt_iff_lt_mul (Bp_pos i)]
  have h1 := Nat.mod_lt n (Bp_pos i)
  have h2 : n % B ^ i * b ≤ (B ^ i - 1) * b := Nat.mul_le_mul_right b (by omega)
  have h3 : (B ^ i - 1) * b + b = B ^ i * b := by rw [← Nat.succ_mul]; congr 1; have := Bp_pos i; omega
  have h4 : B ^ i * b ≤ B ^ i * (B - 1) := Nat.mul_le_mul_left _ (by omega)
  have h5 : B ^ i * (B - 1) + B ^ i = B ^ i * B := by rw [← Nat.mul_succ]; congr 1
  have h6 : B ≤ B ^ i ∨ i = 0 := by
    rcases Nat.eq_zero_or_pos i with h | h
    · exact .inr h
    · exact .inl (by simpa using Nat.pow_le_pow_right B_pos h)
  rw [Nat.mul_comm B]
  rcases h6 with h6 | rfl
  · have hbb : b = 0 ∨ 0 < b := by omega
    by_cases hb0 : b = 0
    · subst hb0; simp only [Nat.mul_zero, Nat.zero_add]; exact Nat.lt_of_lt_of_le hc (Nat.le_trans h6 (Nat.le_mul_of_pos_right _ B_pos))
    · by_cases hcb : c < b
      · omega
      · omega
  · simp [Nat.mod_one]; exact hc
theorem lc_step (n b c i : Nat) : dg n i * b + lc n b c i = dg (n * b + c) i + B * lc n b c (i + 1) := by
  have hn := Nat.div_add_mod n (B ^ i)
  have h1 : n * b + c = B ^ i * (n / B ^ i * b) + (n % B ^ i * b + c) := by
    rw [← Nat.mul_assoc, ← Nat.add_assoc, ← Nat.add_mul, hn]
  have h2 : (n * b + c) / B ^ i = n / B ^ i * b + lc n b c i := by
    rw [h1, Nat.mul_add_div (Bp_pos i)]; rfl
  have h3 : n % B ^ (i + 1) * b + c = B ^ i * (dg n i * b) + (n % B ^ i * b + c) := by
    rw [mod_succ, Nat.add_mul, Nat.mul_assoc]; omega
  have h4 : lc n b c (i + 1) = (dg n i * b + lc n b c i) / B := by
    unfold lc
    rw [h3, Nat.pow_succ, ← Nat.div_div_eq_div_mul, Nat.mul_add_div (Bp_pos i)]
  have h5 : dg (n * b + c) i = (dg n i * b + lc n b c i) % B := by
    unfold dg
    rw [h2]
    have h6 : n / B ^ i = B * (n / B ^ i / B) + n / B ^ i % B := (Nat.div_add_mod _ _).symm
    have h7 : n / B ^ i * b + lc n b c i = (n / B ^ i % B * b + lc n b c i) + B * (n / B ^ i / B * b) := by
      conv => lhs; rw [h6]
      rw [Nat.add_mul, Nat.mul_assoc]; omega
    rw [h7, Nat.add_mul_mod_self_left]
  rw [h4, h5]
  exact (Nat.mod_add_div _ _).symm
theorem lc_top {n b c i : Nat} (h : n < B ^ i) (hb : b < B) (hc : c < B) : lc n b c i = dg (n * b + c) i := by
  have h1 := lc_lt (n := n) (i := i) hb hc
  have h2 : lc n b c i = (n * b + c) / B ^ i := by unfold lc; rw [Nat.mod_eq_of_lt h]
  unfold dg
  rw [← h2, Nat.mod_eq_of_lt h1]
theorem lc_fit {n b c i : Nat} (h : n < B ^ i) (hb : b < B) (hc : c < B) : n * b + c < B ^ (i + 1) := by
  have h1 := lc_lt (n := n) (i := i) hb hc
  unfold lc at h1
  rw [Nat.mod_eq_of_lt h] at h1
  rw [Nat.div_lt_iff_lt_mul (Bp_pos i)] at h1
  rw [Nat.pow_succ, Nat.mul_comm (B ^ i)]
  exact h1

/-! A list turned round, step by step -/
def rv (l : List Int) (i : Nat) : List Int := (List.range l.length).map fun p => if p < i ∨ l.length - i ≤ p then l.getD (l.length - 1 - p) 0 else l.getD p 0
theorem rv_length (l : List Int) (i : Nat) : (rv l i).length = l.length := by simp [rv]
theorem rv_get {l : List Int} {i p : Nat} (h : p < l.length) : (rv l i)[p]'(by rw [rv_length]; exact h) = if p < i ∨ l.length - i ≤ p then l.getD (l.length - 1 - p) 0 else l.getD p 0 := by simp [rv]
theorem rv_zero (l : List Int) : rv l 0 = l := by
  refine List.ext_getElem (rv_length _ _) fun p h1 h2 => ?_
  rw [rv_get h2, if_neg (by omega)]
  simp [List.getD, h2]
theorem rv_end {l : List Int} {i : Nat} (h : l.length ≤ 2 * i + 1) (hi : i ≤ l.length) : rv l i = l.reverse := by
  refine List.ext_getElem (by simp [rv_length]) fun p h1 h2 => ?_
  rw [rv_length] at h1
  rw [rv_get h1, List.getElem_reverse]
  have h3 : l.length - 1 - p < l.length := by omega
  by_cases hp : p < i ∨ l.length - i ≤ p
  · rw [if_pos hp]; simp [List.getD, h3]
  · rw [if_neg hp]
    have e : l.length - 1 - p = p := by omega
    simp [List.getD, h1, e]
theorem rv_set {l : List Int} {i : Nat} (h : 2 * i + 1 < l.length) : ((rv l i).set i (l.getD (l.length - 1 - i) 0)).set (l.length - 1 - i) (l.getD i 0) = rv l (i + 1) := by
  refine List.ext_getElem (by simp [rv_length]) fun p h1 h2 => ?_
  rw [rv_length] at h2
  rw [rv_get h2, List.getElem_set, List.getElem_set, rv_get h2]
  by_cases h3 : l.length - 1 - i = p
  · subst h3
    rw [if_pos rfl, if_pos (by omega)]
    congr 1
    omega
  · rw [if_neg h3]
    by_cases h4 : i = p
    · subst h4
      rw [if_pos rfl, if_pos (by omega)]
    · rw [if_neg h4]
      by_cases h5 : p < i ∨ l.length - i ≤ p
      · rw [if_pos h5, if_pos (by omega)]
      · rw [if_neg h5, if_neg (by omega)]
end Go.Av

import Derived.Test.YtckngipgcnhfpaaP3
/-! Plain arithmetic of limbs: the long division. -/
set_option linter.unusedVariables false
namespace Go.Av
def gl (e t d : Nat) : Nat → Nat → Nat
  | 0, _ => 0
  | x + 1, r => if r < B ∧ r * B + t < (x + 1) * e then gl e t d x (r + d) else x + 1
/-- the guessed limb of a quotient -/
def gs (top next third d e : Nat) : Nat := if top < d then gl e third d ((top * B + next) / d) ((top * B + next) % d) else gl e third d (B - 1) (next + d)
theorem gl_le (e t d : Nat) : ∀ x r, gl e t d x r ≤ x
  | 0, r => Nat.le_refl _
  | x + 1, r => by
    unfold gl
    split
    · exact Nat.le_succ_of_le (gl_le e t d x _)
    · exact Nat.le_refl _
theorem gl_ge {e t d q T : Nat} (hT : q * (d * B + e) ≤ T * B + t) : ∀ x r, q ≤ x → x * d + r = T → q ≤ gl e t d x r
  | 0, r, h, _ => by simpa [gl] using h
  | x + 1, r, h, hr => by
    unfold gl
    split
    · rename_i hc
      refine gl_ge hT x (r + d) ?_ (by rw [Nat.succ_mul] at hr; omega)
      have h1 : q * (d * B + e) < (x + 1) * (d * B + e) := by
        refine Nat.lt_of_le_of_lt hT ?_
        rw [← hr, Nat.add_mul, Nat.mul_add, Nat.mul_assoc]
        omega
      have := Nat.lt_of_mul_lt_mul_right h1
      omega
    · exact h
theorem gs_ok {top next third d e q : Nat} (hq : q < B) (h : q * (d * B + e) ≤ (top * B + next) * B + third) (htd : top ≤ d) (hd : 0 < d) (hn : next < B) (ht : third < B) : q ≤ gs top next third d e ∧ gs top next third d e < B := by
  unfold gs
  split
  · rename_i hlt
    have hx : (top * B + next) / d < B := by
      rw [Nat.div_lt_iff_lt_mul hd, Nat.mul_comm B d]
      have : (top + 1) * B ≤ d * B := Nat.mul_le_mul_right _ hlt
      rw [Nat.succ_mul] at this; omega
    refine ⟨gl_ge h _ _ ?_ ?_, Nat.lt_of_le_of_lt (gl_le _ _ _ _ _) hx⟩
    · rw [Nat.le_div_iff_mul_le hd]
      have h1 : q * d * B ≤ q * (d * B + e) := by rw [Nat.mul_add, Nat.mul_assoc]; omega
      have h2 : q * d * B < (top * B + next + 1) * B := by rw [Nat.succ_mul]; omega
      have := Nat.lt_of_mul_lt_mul_right h2
      omega
    · rw [Nat.mul_comm]; exact Nat.div_add_mod _ _
  · rename_i hge
    have : top = d := by omega
    subst this
    refine ⟨gl_ge h _ _ (by omega) ?_, Nat.lt_of_le_of_lt (gl_le _ _ _ _ _) (by decide)⟩
    rw [Nat.sub_mul, Nat.one_mul, Nat.mul_comm B top]
    have : top ≤ top * B := Nat.le_mul_of_pos_right _ B_pos
    omega
/-- what is left of the leading limbs if x times the divisor is taken off -/
def win (W V n x : Nat) : Nat := (W + B ^ n - x * V) % B ^ n
theorem win_lt (W V n x : Nat) : win W V n x < B ^ n := Nat.mod_lt _ (Bp_pos n)
theorem win_back {W V n x : Nat} (hx : W < (x + 1) * V) (h : (x + 1) * V ≤ W + B ^ n) (hW : W < B ^ n) : (win W V n (x + 1) + V) % B ^ n = win W V n x ∧ (B ^ n ≤ win W V n (x + 1) + V ↔ ¬ W < x * V) := by
  unfold win
  rw [Nat.succ_mul] at hx h ⊢
  rw [Nat.mod_eq_of_lt (a := W + B ^ n - (x * V + V)) (by omega)]
  constructor
  · congr 1; omega
  · omega
theorem win_end {W V n : Nat} (hW : W < B ^ n) : win W V n (W / V) = W % V := by
  unfold win
  have h1 := Nat.div_add_mod W V
  rw [Nat.mul_comm] at h1
  rw [show W + B ^ n - W / V * V = W % V + B ^ n by omega, Nat.add_mod_right, Nat.mod_eq_of_lt]
  have := Nat.mod_le W V
  omega
/-- one round of the long division -/
structure DS (A V k i : Nat) (lo W : Nat) : Prop where
  hlo : lo < B ^ i
  hu : A % (V * B ^ (i + 1)) = lo + B ^ i * W
  hw : W < B ^ (k + 1)
  hq : W / V < B
  dq : dg (A / V) i = W / V
  nx : A % (V * B ^ i) = lo + B ^ i * (W % V)
  qv : (B - 1) * V < B ^ (k + 1)
theorem DS.of {A V k i : Nat} (hV : V < B ^ k) (hV0 : 0 < V) : DS A V k i (A % (V * B ^ (i + 1)) % B ^ i) (A % (V * B ^ (i + 1)) / B ^ i) := by
  have hlt : A % (V * B ^ (i + 1)) / B ^ i < V * B := by
    rw [Nat.div_lt_iff_lt_mul (Bp_pos i), Nat.mul_assoc, ← Nat.pow_succ']
    exact Nat.mod_lt _ (Nat.mul_pos hV0 (Bp_pos _))
  have hu : A % (V * B ^ (i + 1)) = A % (V * B ^ (i + 1)) % B ^ i + B ^ i * (A % (V * B ^ (i + 1)) / B ^ i) := by
    have := Nat.div_add_mod (A % (V * B ^ (i + 1))) (B ^ i); omega
  refine ⟨Nat.mod_lt _ (Bp_pos i), hu, ?_, ?_, ?_, ?_, ?_⟩
  · refine Nat.lt_of_lt_of_le hlt ?_
    rw [Nat.pow_succ]
    exact Nat.mul_le_mul_right _ (Nat.le_of_lt hV)
  · rw [Nat.div_lt_iff_lt_mul hV0, Nat.mul_comm B V]; exact hlt
  · have : dg (A / V) i = A / V / B ^ i % B := rfl
    rw [this, Nat.div_div_eq_div_mul, Nat.div_div_eq_div_mul, Nat.mul_comm (B ^ i) V, Nat.pow_succ, ← Nat.mul_assoc, Nat.mod_mul_right_div_self]
  · have h1 : A % (V * B ^ i) = A % (V * B ^ (i + 1)) % (V * B ^ i) := by
      rw [Nat.mod_mod_of_dvd]
      rw [Nat.pow_succ, ← Nat.mul_assoc]
      exact Nat.dvd_mul_right _ _
    rw [h1]
    have hlo := Nat.mod_lt (A % (V * B ^ (i + 1))) (Bp_pos i)
    generalize A % (V * B ^ (i + 1)) / B ^ i = W at *
    generalize A % (V * B ^ (i + 1)) % B ^ i = lo at *
    rw [hu, Nat.mul_comm V]
    have h2 := Nat.div_add_mod W V
    have h3 : lo + B ^ i * W = (lo + B ^ i * (W % V)) + B ^ i * V * (W / V) := by
      have h4 : B ^ i * W = B ^ i * (V * (W / V)) + B ^ i * (W % V) := by rw [← Nat.mul_add, h2]
      rw [Nat.mul_assoc]; omega
    rw [h3, Nat.add_mul_mod_self_left, Nat.mod_eq_of_lt]
    have h5 : W % V + 1 ≤ V := Nat.mod_lt _ hV0
    have h6 : B ^ i * (W % V + 1) ≤ B ^ i * V := Nat.mul_le_mul_left _ h5
    rw [Nat.mul_succ] at h6
    omega
  · rw [Nat.pow_succ, Nat.mul_comm]
    exact Nat.mul_lt_mul_of_lt_of_le hV (by decide) (by decide)
/-- the guess is good -/
theorem guess_ok {W V k : Nat} (hV : V < B ^ (k + 2)) (hd : 0 < dg V (k + 1)) (hW : W < V * B) (hW' : W < B ^ (k + 3)) (hq : W / V < B) :
    W / V ≤ gs (dg W (k + 2)) (dg W (k + 1)) (dg W k) (dg V (k + 1)) (dg V k) ∧ gs (dg W (k + 2)) (dg W (k + 1)) (dg W k) (dg V (k + 1)) (dg V k) < B := by
  have w3 : W / B ^ (k + 3) = 0 := Nat.div_eq_of_lt hW'
  have w2 := div_split W (k + 2)
  have w1 := div_split W (k + 1)
  have w0 := div_split W k
  rw [show k + 2 + 1 = k + 3 from rfl, w3, Nat.mul_zero, Nat.zero_add] at w2
  rw [show k + 1 + 1 = k + 2 from rfl, w2] at w1
  rw [w1] at w0
  have v2 : V / B ^ (k + 2) = 0 := Nat.div_eq_of_lt hV
  have v1 := div_split V (k + 1)
  have v0 := div_split V k
  rw [show k + 1 + 1 = k + 2 from rfl, v2, Nat.mul_zero, Nat.zero_add] at v1
  rw [v1] at v0
  have hV0 : 0 < V := by
    rcases Nat.eq_zero_or_pos V with h | h
    · subst h; simp [dg] at hd
    · exact h
  refine gs_ok hq ?_ ?_ hd (dg_lt _ _) (dg_lt _ _)
  · rw [Nat.mul_comm (dg V (k + 1)), ← v0, Nat.mul_comm (dg W (k + 2)), Nat.mul_comm (B * dg W (k + 2) + dg W (k + 1)), ← w0, Nat.le_div_iff_mul_le (Bp_pos k), Nat.mul_assoc]
    exact Nat.le_trans (Nat.mul_le_mul_left _ (Nat.div_mul_le_self _ _)) (Nat.div_mul_le_self _ _)
  · rw [← w2, ← v1, show k + 2 = 1 + (k + 1) by omega, Nat.pow_add, Nat.pow_one, ← Nat.div_div_eq_div_mul]
    refine Nat.div_le_div_right ?_
    have : W / B < V := by rw [Nat.div_lt_iff_lt_mul B_pos]; exact hW
    omega
theorem first_lt {a b n la k : Nat} (ha : a < B ^ la) (hn : n ≤ 31) (hb : 2 ^ 31 * B ^ k ≤ b * 2 ^ n) (hk : k ≤ la) : a * 2 ^ n < b * 2 ^ n * B ^ (la - k) := by
  have h1 : a * 2 ^ n < B ^ la * 2 ^ n := Nat.mul_lt_mul_of_pos_right ha (Nat.pow_pos (by decide))
  have h2 : 2 ^ n ≤ 2 ^ 31 := Nat.pow_le_pow_right (by decide) hn
  have h3 : B ^ la * 2 ^ n ≤ B ^ la * 2 ^ 31 := Nat.mul_le_mul_left _ h2
  have h4 : B ^ la * 2 ^ 31 = 2 ^ 31 * B ^ k * B ^ (la - k) := by
    rw [Nat.mul_assoc, ← Nat.pow_add, show k + (la - k) = la by omega, Nat.mul_comm]
  have h5 : 2 ^ 31 * B ^ k * B ^ (la - k) ≤ b * 2 ^ n * B ^ (la - k) := Nat.mul_le_mul_right _ hb
  omega
/-- the leading zeros of a limb -/
def lz (x : Nat) : Nat := 31 - x.log2
theorem lz_le (x : Nat) : lz x ≤ 31 := by unfold lz; omega
theorem lz_ok {x : Nat} (h0 : 0 < x) (h : x < B) : 2 ^ 31 ≤ x * 2 ^ lz x ∧ x * 2 ^ lz x < B := by
  have h1 : x.log2 < 32 := (Nat.log2_lt (by omega)).2 h
  have h2 : 2 ^ x.log2 ≤ x := Nat.log2_self_le (by omega)
  have h3 : x < 2 ^ (x.log2 + 1) := Nat.lt_log2_self
  unfold lz
  constructor
  · calc 2 ^ 31 = 2 ^ x.log2 * 2 ^ (31 - x.log2) := by rw [← Nat.pow_add]; congr 1; omega
      _ ≤ x * 2 ^ (31 - x.log2) := Nat.mul_le_mul_right _ h2
  · calc x * 2 ^ (31 - x.log2) < 2 ^ (x.log2 + 1) * 2 ^ (31 - x.log2) := Nat.mul_lt_mul_of_pos_right h3 (Nat.pow_pos (by decide))
      _ = B := by rw [← Nat.pow_add, show x.log2 + 1 + (31 - x.log2) = 32 by omega]; rfl
/-- a divisor that is shifted till its highest bit is set -/
theorem norm_ok {b : Nat} (hb : 0 < b) : 2 ^ 31 * B ^ (ln b - 1) ≤ b * 2 ^ lz (dg b (ln b - 1)) ∧ b * 2 ^ lz (dg b (ln b - 1)) < B ^ ln b ∧ ln (b * 2 ^ lz (dg b (ln b - 1))) = ln b := by
  have hp := ln_pos.2 hb
  obtain ⟨k, hk⟩ : ∃ k, ln b = k + 1 := ⟨ln b - 1, by omega⟩
  have ht := top_ne hb
  have hlt := lt_ln b
  rw [hk] at ht hlt ⊢
  simp only [Nat.add_sub_cancel] at ht ⊢
  have h1 := div_split b k
  rw [Nat.div_eq_of_lt hlt, Nat.mul_zero, Nat.zero_add] at h1
  obtain ⟨h2, h3⟩ := lz_ok (Nat.pos_of_ne_zero ht) (dg_lt b k)
  generalize lz (dg b k) = n at *
  have h4 := Nat.div_add_mod b (B ^ k)
  rw [h1] at h4
  have h5 := Nat.mod_lt b (Bp_pos k)
  generalize b % B ^ k = r at *
  have h6 : 2 ^ 31 * B ^ k ≤ b * 2 ^ n := by
    calc 2 ^ 31 * B ^ k ≤ (dg b k * 2 ^ n) * B ^ k := Nat.mul_le_mul_right _ h2
      _ = (B ^ k * dg b k) * 2 ^ n := by rw [Nat.mul_comm, Nat.mul_assoc]
      _ ≤ b * 2 ^ n := Nat.mul_le_mul_right _ (by omega)
  have h7 : b * 2 ^ n < B ^ (k + 1) := by
    have hdv : 2 ^ n ∣ B := by
      have : n ≤ 32 := by
        rcases Nat.lt_or_ge 32 n with h | h
        · exfalso
          have h8 : 2 ^ 32 ≤ 2 ^ n := Nat.pow_le_pow_right (by decide) (by omega)
          have h9 : 2 ^ n ≤ dg b k * 2 ^ n := Nat.le_mul_of_pos_left _ (Nat.pos_of_ne_zero ht)
          have hB : B = 2 ^ 32 := rfl
          omega
        · exact h
      rw [B_P2 this]; exact Nat.dvd_mul_right _ _
    have h8 : (dg b k + 1) * 2 ^ n ≤ B := by
      obtain ⟨c, hc⟩ := hdv
      rw [hc] at h3 ⊢
      rw [Nat.mul_comm _ (2 ^ n)] at h3 ⊢
      exact Nat.mul_le_mul_left _ (Nat.lt_of_mul_lt_mul_left h3)
    calc b * 2 ^ n < (B ^ k * (dg b k + 1)) * 2 ^ n := Nat.mul_lt_mul_of_pos_right (by rw [Nat.mul_succ]; omega) (Nat.pow_pos (by decide))
      _ = B ^ k * ((dg b k + 1) * 2 ^ n) := by rw [Nat.mul_assoc]
      _ ≤ B ^ k * B := Nat.mul_le_mul_left _ h8
      _ = B ^ (k + 1) := by rw [Nat.pow_succ]
  refine ⟨h6, h7, ?_⟩
  have h8 := ln_le.2 h7
  have h9 : ¬ ln (b * 2 ^ n) ≤ k := by
    rw [ln_le]
    have : B ^ k ≤ 2 ^ 31 * B ^ k := Nat.le_mul_of_pos_left _ (by decide)
    omega
  omega
end Go.Av

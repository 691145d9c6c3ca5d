import Derived.Test.YtckngipgcnhfpaaP7
import Derived.Test.YtckngipgcnhfpaaAv
import Derived.Laws.RangeString
/-! Numbers read out of a string. -/
set_option exponentiation.threshold 100000
namespace Go.Av
open Go
theorem bt_bd (s : ByteArray) (i : Int) : 0 ≤ bt s i ∧ bt s i ≤ 255 := by
  unfold bt
  split
  · rename_i h
    have := (s[i.toNat]'h).toNat_lt
    omega
  · omega
theorem bt_pos {s : ByteArray} (h : bt s 0 = 48) : 0 < s.size := by
  unfold bt at h
  split at h
  · rename_i h1; simpa using h1
  · omega
def negS (s : ByteArray) : Bool := decide (0 < s.size) && decide (bt s 0 = 45)
def tS (s : ByteArray) : ByteArray := if negS s then s.extract 1 s.size else s
def nm (t : ByteArray) : Nat → Nat
  | 0 => 0
  | k + 1 => nm t k * 10 + ((bt t k).toNat - 48)
def okD (t : ByteArray) : Nat → Bool
  | 0 => true
  | k + 1 => okD t k && (decide (48 ≤ bt t k) && decide (bt t k ≤ 57))
theorem okD_down {t : ByteArray} : ∀ {n k : Nat}, k ≤ n → okD t n = true → okD t k = true
  | 0, k, h, h1 => by obtain rfl : k = 0 := by omega
                      exact h1
  | n + 1, k, h, h1 => by
    simp only [okD, Bool.and_eq_true] at h1
    rcases Nat.lt_or_ge n k with h2 | h2
    · obtain rfl : k = n + 1 := by omega
      simp only [okD, Bool.and_eq_true]; exact h1
    · exact okD_down h2 h1.1
theorem okD_at {t : ByteArray} {n k : Nat} (h : k < n) (h1 : okD t n = true) : 48 ≤ bt t k ∧ bt t k ≤ 57 := by
  have := okD_down (k := k + 1) h h1
  simp only [okD, Bool.and_eq_true, decide_eq_true_eq] at this
  exact this.2
theorem nm_lt {t : ByteArray} : ∀ {k : Nat}, okD t k = true → nm t k < 10 ^ k
  | 0, _ => by simp [nm]
  | k + 1, h => by
    simp only [okD, Bool.and_eq_true, decide_eq_true_eq] at h
    have := nm_lt h.1
    simp only [nm, Nat.pow_succ]
    omega
theorem ten_B {k : Nat} (h : k ≤ 4096) : 10 ^ k ≤ B ^ 512 := by
  have h1 : 10 ^ k ≤ 16 ^ k := Nat.pow_le_pow_left (by decide) k
  have h2 : (16 : Nat) ^ k = 2 ^ (4 * k) := by rw [Nat.pow_mul]
  have h3 : (2 : Nat) ^ (4 * k) ≤ 2 ^ (32 * 512) := Nat.pow_le_pow_right (by decide) (by omega)
  rw [B_pow]
  omega
theorem nm_ln {t : ByteArray} {k : Nat} (h : okD t k = true) (hk : k ≤ 4096) : ln (nm t k) ≤ 512 := ln_le.2 (Nat.lt_of_lt_of_le (nm_lt h) (ten_B hk))
theorem dec_lo {t : ByteArray} {k : Nat} (h : k < t.size) (hb : bt t k < 128) : ((Utf8.decode t k).1 : Int) = bt t k ∧ (Utf8.decode t k).2 = 1 := by
  have hb' : bt t k = ((t[k]'h).toNat : Int) := by
    unfold bt
    rw [dif_pos (by simpa using h)]
    simp
  rw [hb'] at hb ⊢
  rw [decode_ascii t k h (by omega)]
  exact ⟨rfl, rfl⟩
theorem dec_hi {t : ByteArray} {k : Nat} (h : k < t.size) (hb : 128 ≤ bt t k) : 128 ≤ (Utf8.decode t k).1 ∧ (Utf8.decode t k).1 ≤ 2097152 := by
  have hb' : bt t k = ((t[k]'h).toNat : Int) := by
    unfold bt
    rw [dif_pos (by simpa using h)]
    simp
  rw [hb'] at hb
  have e : t.get! (k + 0) = t[k]'h := by
    show t.get! k = _
    simp [ByteArray.get!, getElem!_pos, h]
    rfl
  have h255 := (t[k]'h).toNat_lt
  have hre : Utf8.runeError = 65533 := rfl
  simp only [Utf8.decode, e]
  generalize (t[k]'h).toNat = b at *
  generalize (t.get! (k + 1)).toNat = b1
  generalize (t.get! (k + 2)).toNat = b2
  generalize (t.get! (k + 3)).toNat = b3
  have hn : ¬ b < 128 := by omega
  simp only [hn, if_false]
  repeat (first | omega | (split <;> simp_all <;> omega) | split)

/-- What Parse answers. -/
def prT (neg : Bool) (t : ByteArray) : Option (Option (Bool × Nat)) :=
  if 4096 < t.size then none
  else if t.size = 0 ∨ (bt t 0 = 48 ∧ (1 < t.size ∨ neg = true)) then some none
  else if okD t t.size = true then some (some (neg, nm t t.size)) else some none
end Go.Av

/-! Plain arithmetic of limbs: no program here. -/
namespace Go.Av
def B : Nat := 4294967296
theorem B_pos : 0 < B := by decide
theorem Bp_pos (k : Nat) : 0 < B ^ k := Nat.pow_pos B_pos
theorem B_pow (k : Nat) : B ^ k = 2 ^ (32 * k) := by rw [Nat.pow_mul]; rfl
/-- The i-th limb of n. -/
def dg (n i : Nat) : Nat := n / B ^ i % B
/-- The lowest k limbs of n. -/
def padd (k n : Nat) : List Int := (List.range k).map fun i => ((dg n i : Nat) : Int)
/-- How many limbs n has. -/
def ln (n : Nat) : Nat := if n = 0 then 0 else n.log2 / 32 + 1
/-- The limbs of n, without zeros at the end. -/
def limbs (n : Nat) : List Int := padd (ln n) n
/-- What a list of limbs says. -/
def val : List Int → Nat
  | [] => 0
  | x :: l => x.toNat + B * val l
def wf (l : List Int) : Prop := ∀ x ∈ l, 0 ≤ x ∧ x < 4294967296

theorem dg_lt (n i : Nat) : dg n i < B := Nat.mod_lt _ B_pos
theorem dg_lt' (n i : Nat) : ((dg n i : Nat) : Int) < 4294967296 := by have := dg_lt n i; unfold B at this; omega
@[simp] theorem padd_length (k n : Nat) : (padd k n).length = k := by simp [padd]
@[simp] theorem limbs_length (n : Nat) : (limbs n).length = ln n := by simp [limbs]
theorem ln_le {n k : Nat} : ln n ≤ k ↔ n < B ^ k := by
  unfold ln
  rw [B_pow]
  split
  · rename_i h
    subst h
    exact ⟨fun _ => Nat.pow_pos (by decide), fun _ => Nat.zero_le _⟩
  · rename_i h
    rw [← Nat.log2_lt h]
    omega
theorem lt_ln (n : Nat) : n < B ^ ln n := ln_le.1 (Nat.le_refl _)
theorem ln_zero : ln 0 = 0 := rfl
theorem ln_pos {n : Nat} : 0 < ln n ↔ 0 < n := by
  unfold ln; split <;> omega
theorem ln_mono {a b : Nat} (h : a ≤ b) : ln a ≤ ln b := ln_le.2 (Nat.lt_of_le_of_lt h (lt_ln b))
theorem dg_big {n i : Nat} (h : ln n ≤ i) : dg n i = 0 := by
  unfold dg; rw [Nat.div_eq_of_lt (ln_le.1 h)]; rfl
theorem rd_padd {k n : Nat} {i : Int} (h0 : 0 ≤ i) (h : i < k) : (padd k n).getD i.toNat 0 = ((dg n i.toNat : Nat) : Int) := by
  have : i.toNat < k := by omega
  simp [padd, List.getD_eq_getElem?_getD, this]
theorem wf_padd (k n : Nat) : wf (padd k n) := by
  intro x hx
  simp only [padd, List.mem_map] at hx
  obtain ⟨i, _, rfl⟩ := hx
  exact ⟨by omega, dg_lt' n i⟩
theorem wf_limbs (n : Nat) : wf (limbs n) := wf_padd _ _
theorem padd_succ (k n : Nat) : padd (k + 1) n = padd k n ++ [((dg n k : Nat) : Int)] := by
  simp [padd, List.range_succ]
theorem padd_zero (n : Nat) : padd 0 n = [] := rfl
theorem mod_succ (n k : Nat) : n % B ^ (k + 1) = n % B ^ k + B ^ k * dg n k := by
  rw [Nat.pow_succ, Nat.mod_mul]; rfl
theorem val_append : ∀ (l m : List Int), val (l ++ m) = val l + B ^ l.length * val m
  | [], m => by simp [val]
  | x :: l, m => by
    simp only [List.cons_append, val, val_append l m, List.length_cons, Nat.pow_succ]
    rw [Nat.mul_add, Nat.add_assoc, ← Nat.mul_assoc, Nat.mul_comm (B ^ l.length) B]
theorem val_padd (k n : Nat) : val (padd k n) = n % B ^ k := by
  induction k with
  | zero => simp [padd_zero, val, Nat.mod_one]
  | succ k ih => rw [padd_succ, val_append, ih, padd_length, mod_succ]; simp [val]
theorem val_limbs (n : Nat) : val (limbs n) = n := by
  unfold limbs
  rw [val_padd, Nat.mod_eq_of_lt (lt_ln n)]
theorem val_lt : ∀ {l : List Int}, wf l → val l < B ^ l.length
  | [], _ => by simp [val]
  | x :: l, h => by
    have hx := h x (by simp)
    have ih := val_lt (l := l) (fun y hy => h y (by simp [hy]))
    simp only [val, List.length_cons, Nat.pow_succ]
    have h1 : x.toNat < B := by unfold B; omega
    have h2 : B * val l + B ≤ B ^ l.length * B := by
      rw [Nat.mul_comm (B ^ l.length) B, ← Nat.mul_succ]
      exact Nat.mul_le_mul_left _ ih
    omega
theorem dg_cons_zero {x : Int} {l : List Int} (h : 0 ≤ x ∧ x < 4294967296) : dg (val (x :: l)) 0 = x.toNat := by
  have h1 : x.toNat < B := by unfold B; omega
  simp [dg, val, Nat.mod_eq_of_lt h1]
theorem dg_cons_succ {x : Int} {l : List Int} (h : 0 ≤ x ∧ x < 4294967296) (i : Nat) : dg (val (x :: l)) (i + 1) = dg (val l) i := by
  have h1 : x.toNat < B := by unfold B; omega
  unfold dg
  rw [Nat.pow_succ, Nat.mul_comm (B ^ i) B, ← Nat.div_div_eq_div_mul]
  congr 2
  simp only [val]
  rw [Nat.add_mul_div_left _ _ B_pos, Nat.div_eq_of_lt h1, Nat.zero_add]
theorem padd_val : ∀ {l : List Int}, wf l → padd l.length (val l) = l
  | [], _ => rfl
  | x :: l, h => by
    have hx := h x (by simp)
    have ih := padd_val (l := l) (fun y hy => h y (by simp [hy]))
    simp only [List.length_cons, padd, List.range_succ_eq_map, List.map_cons, List.map_map]
    rw [dg_cons_zero hx]
    congr 1
    · omega
    · refine Eq.trans ?_ ih
      unfold padd
      apply List.map_congr_left
      intro i _
      simp only [Function.comp]
      rw [Nat.succ_eq_add_one, dg_cons_succ hx]
theorem rd_wf {l : List Int} (h : wf l) {i : Int} (h0 : 0 ≤ i) : l.getD i.toNat 0 = ((dg (val l) i.toNat : Nat) : Int) := by
  by_cases hl : i < l.length
  · have := rd_padd (k := l.length) (n := val l) h0 hl
    rwa [padd_val h] at this
  · rw [List.getD_eq_getElem?_getD, List.getElem?_eq_none (by omega)]
    have : dg (val l) i.toNat = 0 := by
      unfold dg
      rw [Nat.div_eq_of_lt (Nat.lt_of_lt_of_le (val_lt h) (Nat.pow_le_pow_right B_pos (by omega)))]
      rfl
    simp [this]
/-- A list whose last limb is not 0 has the limbs of its value. -/
theorem limbs_val {l : List Int} (h : wf l) (hl : l = [] ∨ l.getD (l.length - 1) 0 ≠ 0) : limbs (val l) = l := by
  have hle : ln (val l) ≤ l.length := ln_le.2 (val_lt h)
  have hge : l.length ≤ ln (val l) := by
    rcases hl with rfl | hl
    · simp
    · rcases Nat.lt_or_ge (ln (val l)) l.length with h1 | h1
      · exfalso
        apply hl
        have h2 : ln (val l) ≤ l.length - 1 := by omega
        have := rd_wf h (i := ((l.length - 1 : Nat) : Int)) (by omega)
        simp only [Int.toNat_natCast] at this
        rw [this, dg_big h2]; rfl
      · exact h1
  have : ln (val l) = l.length := Nat.le_antisymm hle hge
  unfold limbs
  rw [this, padd_val h]
theorem top_ne {n : Nat} (h : 0 < n) : dg n (ln n - 1) ≠ 0 := by
  intro h0
  have hp := ln_pos.2 h
  have h1 : n % B ^ ln n = n := Nat.mod_eq_of_lt (lt_ln n)
  have h2 := mod_succ n (ln n - 1)
  rw [show ln n - 1 + 1 = ln n by omega, h1, h0] at h2
  have h3 : n < B ^ (ln n - 1) := by
    have := Nat.mod_lt n (Bp_pos (ln n - 1))
    omega
  have := ln_le.2 h3
  omega
theorem limbs_inj {a b : Nat} (h : limbs a = limbs b) : a = b := by rw [← val_limbs a, ← val_limbs b, h]
theorem limbs_nil {n : Nat} : limbs n = [] ↔ n = 0 := by
  constructor
  · intro h; have := congrArg val h; rw [val_limbs] at this; simpa [val] using this
  · intro h; subst h; rfl
/-- Zeros at the end are cut off. -/
theorem padd_cut {k n : Nat} (h : n < B ^ k) : limbs n = (padd k n).take (ln n) := by
  have := ln_le.2 h
  unfold limbs padd
  rw [← List.map_take, List.take_range, Nat.min_eq_left this]
theorem padd_take {j k n : Nat} (h : j ≤ k) : (padd k n).take j = padd j n := by
  unfold padd
  rw [← List.map_take, List.take_range, Nat.min_eq_left h]
theorem padd_congr {k a b : Nat} (h : a % B ^ k = b % B ^ k) : padd k a = padd k b := by
  have ha := padd_val (wf_padd k a)
  have hb := padd_val (wf_padd k b)
  rw [val_padd, padd_length] at ha hb
  rw [← ha, ← hb, h]
end Go.Av

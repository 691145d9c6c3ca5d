import Derived.Test.YtckngipgcnhfpaaPm
/-! Plain arithmetic of limbs: order, products, short division. -/
set_option linter.unusedVariables false
namespace Go.Av
/-- the order of two numbers -/
def sg (a b : Nat) : Int := if a < b then -1 else if b < a then 1 else 0
theorem div_split (n k : Nat) : n / B ^ k = B * (n / B ^ (k + 1)) + dg n k := by
  rw [Nat.pow_succ, ← Nat.div_div_eq_div_mul]
  have := Nat.div_add_mod (n / B ^ k) B
  unfold dg; omega
theorem lt_of_div {a b p : Nat} (h : a / p < b / p) : a < b := by
  rcases Nat.lt_or_ge a b with h1 | h1
  · exact h1
  · have := Nat.div_le_div_right (c := p) h1; omega
theorem top_lt {a b k : Nat} (h : a / B ^ (k + 1) = b / B ^ (k + 1)) (h1 : dg a k < dg b k) : a < b := by
  refine lt_of_div (p := B ^ k) ?_
  rw [div_split, div_split b, h]; omega
theorem ln_lt {a b : Nat} (h : ln a < ln b) : a < b := by
  rcases Nat.lt_or_ge a b with h1 | h1
  · exact h1
  · have := ln_mono h1; omega
theorem sg_lt {a b : Nat} (h : a < b) : sg a b = -1 := by simp [sg, h]
theorem sg_gt {a b : Nat} (h : b < a) : sg a b = 1 := by simp [sg, h]; omega
theorem sg_eq (a : Nat) : sg a a = 0 := by simp [sg]

/-! lists that are written from above -/
def dz (k m n : Nat) : List Int := List.replicate k 0 ++ (padd m n).drop k
theorem dz_length {k m n : Nat} (h : k ≤ m) : (dz k m n).length = m := by simp [dz]; omega
theorem dz_full (m n : Nat) : dz m m n = List.replicate m 0 := by simp [dz]
theorem dz_zero (m n : Nat) : dz 0 m n = padd m n := by simp [dz]
theorem padd_get {k n i : Nat} (h : i < k) : (padd k n)[i]? = some ((dg n i : Nat) : Int) := by simp [padd, h]
theorem dz_set {k m n : Nat} (h : k < m) : (dz (k + 1) m n).set k ((dg n k : Nat) : Int) = dz k m n := by
  unfold dz
  rw [List.replicate_succ', List.append_assoc, List.set_append_right _ _ (by simp)]
  have : (padd m n).drop k = ((dg n k : Nat) : Int) :: (padd m n).drop (k + 1) := by
    have h1 := padd_get (n := n) h
    rw [List.getElem?_eq_some_iff] at h1
    obtain ⟨h2, h3⟩ := h1
    rw [List.drop_eq_getElem_cons h2, h3]
  rw [this]; simp

theorem short_step {a d k : Nat} (hd : 0 < d) (hb : d ≤ B) : (a / B ^ (k + 1) % d * B + dg a k) / d = dg (a / d) k ∧ (a / B ^ (k + 1) % d * B + dg a k) % d = a / B ^ k % d := by
  have h0 := div_split a k
  have h1 := Nat.div_add_mod (a / B ^ (k + 1)) d
  have h2 := Nat.mod_lt (a / B ^ (k + 1)) hd
  have h3 := dg_lt a k
  generalize a / B ^ (k + 1) / d = q at *
  generalize a / B ^ (k + 1) % d = r at *
  have h4 : r * B + dg a k < d * B := by
    have : (r + 1) * B ≤ d * B := Nat.mul_le_mul_right _ h2
    rw [Nat.succ_mul] at this; omega
  have h5 : a / B ^ k = d * (B * q) + (r * B + dg a k) := by
    rw [h0, ← h1, Nat.mul_add, Nat.mul_left_comm, Nat.mul_comm B r, Nat.add_assoc]
  constructor
  · have e : dg (a / d) k = a / d / B ^ k % B := rfl
    have h6 : (r * B + dg a k) / d < B := by rw [Nat.div_lt_iff_lt_mul hd, Nat.mul_comm B]; exact h4
    rw [e, Nat.div_div_eq_div_mul, Nat.mul_comm d, ← Nat.div_div_eq_div_mul, h5, Nat.mul_add_div hd, Nat.mul_add_mod, Nat.mod_eq_of_lt h6]
  · rw [h5, Nat.mul_add_mod]

/-! products -/
theorem val_set : ∀ {l : List Int} {i : Nat} {x : Int}, i < l.length → val (l.set i x) + B ^ i * (l.getD i 0).toNat = val l + B ^ i * x.toNat
  | y :: l, 0, x, _ => by simp [val]; omega
  | y :: l, i + 1, x, h => by
    have ih := val_set (l := l) (i := i) (x := x) (by simpa using h)
    simp only [List.set_cons_succ, val, List.getD_cons_succ, Nat.pow_succ]
    have := congrArg (B * ·) ih
    simp only [Nat.mul_add] at this
    rw [Nat.mul_comm (B ^ i) B, Nat.mul_assoc, Nat.mul_assoc]
    omega
theorem wf_set {l : List Int} (h : wf l) {i : Nat} {x : Int} (hx : 0 ≤ x ∧ x < 4294967296) : wf (l.set i x) := by
  intro y hy
  rcases List.mem_or_eq_of_mem_set hy with h1 | rfl
  · exact h y h1
  · exact hx
theorem wf_zero (n : Nat) : wf (List.replicate n 0) := by
  intro x hx; rw [List.mem_replicate] at hx; omega
theorem val_zero (n : Nat) : val (List.replicate n 0) = 0 := by
  induction n with
  | zero => rfl
  | succ n ih => simp [List.replicate_succ, val, ih]
/-- the state of a product's inner loop -/
structure PS (A V m i k : Nat) (o : List Int) (c : Nat) (lb : Nat) : Prop where
  w : wf o
  l : o.length = m
  z : ∀ j, i + lb ≤ j → o.getD j 0 = 0
  e : val o + B ^ (i + k) * c = (A % B ^ i) * V + B ^ i * (dg A i * (V % B ^ k))
  c : c < B
theorem PS.lim {A V m i k : Nat} {o : List Int} {c lb : Nat} (h : PS A V m i k o c lb) (hk : i + k < m) : dg A i * dg V k + (o.getD (i + k) 0).toNat + c < 18446744073709551616 ∧ 0 ≤ o.getD (i + k) 0 ∧ o.getD (i + k) 0 < 4294967296 := by
  have h1 := dg_lt A i
  have h2 := dg_lt V k
  have h3 := h.c
  have h5 : 0 ≤ o.getD (i + k) 0 ∧ o.getD (i + k) 0 < 4294967296 := by
    rw [List.getD_eq_getElem?_getD, List.getElem?_eq_getElem (by rw [h.l]; exact hk)]
    exact h.w _ (List.getElem_mem _)
  have h4 : dg A i * dg V k ≤ 4294967295 * 4294967295 := Nat.mul_le_mul (by unfold B at *; omega) (by unfold B at *; omega)
  unfold B at *
  omega
theorem PS.step {A V m i k : Nat} {o : List Int} {c lb s : Nat} (h : PS A V m i k o c lb) (hk : k < lb) (hm : i + lb ≤ m) (hs : s = dg A i * dg V k + (o.getD (i + k) 0).toNat + c) :
    PS A V m i (k + 1) (o.set (i + k) ((s % B : Nat) : Int)) (s / B) lb := by
  have hl := h.lim (by omega)
  rw [← hs] at hl
  refine ⟨wf_set h.w ?_, by simpa using h.l, fun j hj => ?_, ?_, ?_⟩
  · have := Nat.mod_lt s B_pos; unfold B at this ⊢; omega
  · have := h.z j hj
    rw [List.getD_eq_getElem?_getD] at this ⊢
    rwa [List.getElem?_set_ne (by omega)]
  · have h1 := val_set (l := o) (i := i + k) (x := ((s % B : Nat) : Int)) (by rw [h.l]; omega)
    have h2 := h.e
    have h3 := Nat.div_add_mod s B
    rw [Int.toNat_natCast] at h1
    rw [mod_succ, Nat.mul_add, Nat.mul_add, ← Nat.add_assoc i k 1, ← Nat.add_assoc (A % B ^ i * V), ← h2, Nat.pow_succ, Nat.mul_assoc]
    have h4 : B ^ i * (dg A i * (B ^ k * dg V k)) = B ^ (i + k) * (dg A i * dg V k) := by
      rw [Nat.pow_add, Nat.mul_assoc, Nat.mul_left_comm (dg A i)]
    rw [h4]
    have h5 : B ^ (i + k) * s = B ^ (i + k) * (dg A i * dg V k) + B ^ (i + k) * (o.getD (i + k) 0).toNat + B ^ (i + k) * c := by rw [hs, Nat.mul_add, Nat.mul_add]
    have h6 : B ^ (i + k) * s = B ^ (i + k) * (B * (s / B)) + B ^ (i + k) * (s % B) := by rw [← Nat.mul_add, h3]
    omega
  · have := hl.1
    have h3 := Nat.div_add_mod s B
    unfold B at *; omega
theorem PS.last {A V m i : Nat} {o : List Int} {c lb : Nat} (h : PS A V m i lb o c lb) (hV : V < B ^ lb) (hm : i + lb < m) :
    wf (o.set (i + lb) ((c : Nat) : Int)) ∧ (o.set (i + lb) ((c : Nat) : Int)).length = m ∧ val (o.set (i + lb) ((c : Nat) : Int)) = (A % B ^ (i + 1)) * V := by
  refine ⟨wf_set h.w ?_, by simpa using h.l, ?_⟩
  · have := h.c; unfold B at this; omega
  · have h1 := val_set (l := o) (i := i + lb) (x := ((c : Nat) : Int)) (by rw [h.l]; omega)
    have h2 := h.e
    have h3 := h.z (i + lb) (Nat.le_refl _)
    rw [h3, Int.toNat_natCast] at h1
    rw [Nat.mod_eq_of_lt hV] at h2
    rw [mod_succ, Nat.add_mul, Nat.mul_assoc]
    simp at h1
    omega
theorem PS.first {A V m i : Nat} {o : List Int} {lb : Nat} (hw : wf o) (hl : o.length = m) (hv : val o = (A % B ^ i) * V) (hV : V < B ^ lb) : PS A V m i 0 o 0 lb := by
  refine ⟨hw, hl, fun j hj => ?_, by simp [hv, Nat.mod_one], B_pos⟩
  have h1 := rd_wf hw (i := (j : Int)) (by omega)
  rw [Int.toNat_natCast] at h1
  rw [h1, dg_big]
  · rfl
  · rw [ln_le, hv]
    refine Nat.lt_of_lt_of_le (m := B ^ i * B ^ lb) ?_ ?_
    · exact Nat.mul_lt_mul_of_lt_of_le (Nat.mod_lt _ (Bp_pos i)) (Nat.le_of_lt hV) (Bp_pos lb)
    · rw [← Nat.pow_add]; exact Nat.pow_le_pow_right B_pos hj
end Go.Av

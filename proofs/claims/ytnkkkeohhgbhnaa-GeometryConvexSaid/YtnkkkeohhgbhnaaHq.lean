/- Contracts behind a law: no conditions beyond those in each statement. -/
import Derived.Test.YtnkkkeohhgbhnaaHp
set_option maxHeartbeats 8000000
set_option exponentiation.threshold 100000
set_option maxRecDepth 100000
set_option linter.unusedVariables false
set_option linter.unusedSimpArgs false
namespace Go.Av
open Go Go.Proofs

open Go.RowKit
/-! Is a polygon its own hull? -/
def rotP (l : List Pt) (k : Nat) : List Pt := l.drop k ++ l.take k
theorem rot_len (l : List Pt) {k : Nat} (h : k ≤ l.length) : (rotP l k).length = l.length := by
  unfold rotP
  rw [List.length_append, List.length_drop, List.length_take]
  omega
theorem at_get {l : List Pt} {k : Nat} (h : k < l.length) : at_ l (k : Int) = l[k] := by simp [at_, List.getD, h]
theorem at_rot {l : List Pt} {a i : Nat} (ha : a < l.length) (hi : i < l.length) : at_ (rotP l a) (i : Int) = at_ l (((a : Int) + (i : Int)) % (l.length : Int)) := by
  have hr := rot_len l (k := a) (by omega)
  rw [at_get (by omega)]
  have e1 : ((a : Int) + (i : Int)) % (l.length : Int) = (((a + i) % l.length : Nat) : Int) := by rw [Int.natCast_emod, Int.natCast_add]
  rw [e1, at_get (Nat.mod_lt _ (by omega))]
  by_cases h : i < l.length - a
  · have e2 : (a + i) % l.length = a + i := Nat.mod_eq_of_lt (by omega)
    have : (rotP l a)[i]? = l[(a + i) % l.length]? := by
      unfold rotP
      rw [e2, List.getElem?_append_left (by rw [List.length_drop]; omega), List.getElem?_drop]
    rw [List.getElem?_eq_getElem (by omega), List.getElem?_eq_getElem (Nat.mod_lt _ (by omega))] at this
    exact Option.some.inj this
  · have e2 : (a + i) % l.length = a + i - l.length := by
      rw [Nat.mod_eq_sub_mod (by omega)]
      exact Nat.mod_eq_of_lt (by omega)
    have : (rotP l a)[i]? = l[(a + i) % l.length]? := by
      unfold rotP
      rw [e2, List.getElem?_append_right (by rw [List.length_drop]; omega), List.length_drop, List.getElem?_take, if_pos (by omega)]
      congr 1
      omega
    rw [List.getElem?_eq_getElem (by omega), List.getElem?_eq_getElem (Nat.mod_lt _ (by omega))] at this
    exact Option.some.inj this
theorem at_ext {a b : List Pt} (hl : a.length = b.length) (h : ∀ k : Nat, k < a.length → at_ a (k : Int) = at_ b (k : Int)) : a = b := by
  refine List.ext_getElem hl (fun i h1 h2 => ?_)
  have := h i h1
  rwa [at_get h1, at_get h2] at this
def hIx (l : List Pt) : Nat := ix l (at_ (hullF l) 0)
def cvx (l : List Pt) : Bool := decide (hullF l = rotP l (hIx l))
theorem hull_head {l : List Pt} (h0 : l ≠ []) (hs : l.all smB = true) : 0 < (hullF l).length ∧ at_ (hullF l) 0 ∈ l := by
  obtain ⟨a, t, h⟩ := hull_is h0 hs
  rw [h.eq]
  refine ⟨by simp, ?_⟩
  have : at_ (a :: t) 0 = a := rfl
  rw [this]
  exact h.sub a (by rw [h.eq]; simp)
theorem hull_len {l : List Pt} (h0 : l ≠ []) (hs : l.all smB = true) : (hullF l).length ≤ l.length := by
  obtain ⟨a, t, h⟩ := hull_is h0 hs
  exact List.Nodup.length_le_of_subset h.nodup (fun x hx => h.sub x hx)
end Go.Av

/- Contracts behind a law: no conditions beyond those in each statement. -/
import Derived.Test.YtnkkkeohhgbhnaaJ4
import Derived.Test.YtnkkkeohhgbhnaaJ1
import Derived.Test.YtnkkkeohhgbhnaaJ3
set_option maxHeartbeats 8000000
set_option exponentiation.threshold 100000
set_option maxRecDepth 100000
set_option linter.unusedVariables false
set_option linter.unusedSimpArgs false
namespace Go.Av
open Go Go.Proofs
/-! slices.Reverse -/
theorem rd_rv {l : List Int} {i p : Nat} (h : p < l.length) : rd (rv l i) (p : Int) = if p < i ∨ l.length - i ≤ p then l.getD (l.length - 1 - p) 0 else l.getD p 0 := by
  unfold rd
  rw [Int.toNat_natCast, List.getD, List.getElem?_eq_getElem (by rw [rv_length]; exact h), rv_get h]
  rfl
/-! digits -/
/-! Format -/
def fmtL (p : Bool) (m : Nat) : List Int := (dI 10 m).map (fun d => 48 + d) ++ (if p then [45] else [])
def fmt (p : Bool) (m : Nat) : ByteArray := if m = 0 then ⟨#[48]⟩ else strOfNums (fmtL p m).reverse
theorem take_rd {l : List Int} {k : Nat} (h : k < l.length) (f : Int → Int) : (l.map f).take k ++ [f (rd l k)] = (l.map f).take (k + 1) := by
  unfold rd
  rw [Int.toNat_natCast, List.take_succ_eq_append_getElem (by simpa using h)]
  simp [List.getD, h]
theorem rd_mem {l : List Int} {k : Nat} (h : k < l.length) : rd l k ∈ l := by
  unfold rd
  rw [Int.toNat_natCast, List.getD, List.getElem?_eq_getElem h]
  exact List.getElem_mem h
end Go.Av

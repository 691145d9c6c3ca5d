/- Contracts behind a law: no conditions beyond those in each statement. -/
import Derived.Test.YtnkkkeohhgbhnaaHq
set_option maxHeartbeats 8000000
set_option exponentiation.threshold 100000
set_option maxRecDepth 100000
set_option linter.unusedVariables false
set_option linter.unusedSimpArgs false
namespace Go.Av
open Go Go.Proofs

open Go.RowKit
/-! Inside -/
def edg (l : List Pt) (p : Pt) (k : Nat) : Int := crossP (at_ l (k : Int)) (at_ l (((k : Int) + 1) % (l.length : Int))) p
def allE (l : List Pt) (p : Pt) : Bool := decide (∀ k : Nat, k < l.length → 0 ≤ edg l p k)
def insR (l : List Pt) (p : Pt) : Bool × Int := if chkR l ≠ 0 then (false, chkR l) else if ¬ sm p then (false, 3) else if l.length < 3 then (false, 7) else if cvx l = false then (false, 9) else (allE l p, 0)
theorem chk1 (p : Pt) : chkR [p] = if sm p then 0 else 3 := by
  simp only [chkR, witR, smB, List.length_cons, List.length_nil, List.all_cons, List.all_nil, Bool.and_true]
  rw [if_neg (by omega)]
  simp only [decide_eq_true_eq]
theorem wit1 (p : Pt) : witR [p] = if sm p then 0 else 3 := by
  simp only [witR, smB, List.all_cons, List.all_nil, Bool.and_true]
  simp only [decide_eq_true_eq]
end Go.Av

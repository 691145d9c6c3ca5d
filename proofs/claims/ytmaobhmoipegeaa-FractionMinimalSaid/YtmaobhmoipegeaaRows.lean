/-
  No cell of these rows narrows 'for every input' (looked for: loops, veiled, ifaces, maps, wideKeys, modest, calm, conditions, laid).
  DERIVED. THE GIVEN ROWS OF THIS SEAT. 6 by the template 'for every input the law returns true; each argument reads behind the call as it read before'; 0 by the template 'total and deterministic' (their statements: YtmaobhmoipegeaaTotals.lean).
  GIVEN WITH THE SEED: the statements are not yours to turn. If you find one false, say at which input.
  Laid BY PROGRAM, IN A SANDBOX (cutbox-rows.mjs): the forced cells as the released guide's own fill.sh prints them over the translation 0bb02d9b49039600… (all of the seat's roots in one cut). By AI agents, Wed Nov 11 2026. No macro, syntax, notation, axiom, sorry.
-/
import Derived.Test.YtmaobhmoipegeaaChecked
import GoSem.Claim
import GoSem.ClaimJoined
import GoSem.ClaimMapViews
import Derived.JoinedTies
import Derived.KernelRfl
namespace Go.Proofs.Ytmaobhmoipegeaa
/- THE CELL 'sum', in the pinned program and in every row, IS THE sha256 OF THE DUMP (.gsa) THAT YtmaobhmoipegeaaProg.lean LOADS. Nothing in Lean hashes anything: it is a label: what it is worth is what the hold of that sum in a sandbox is worth. -/
noncomputable def Try.pinned : Pinned := { name := "ytmaobhmoipegeaa", sum := "0bb02d9b490396000f310cfe9639e57ee61c573c94bad225e62979a5f1a1bfbe", checked := Try.checked }
namespace Rows
def none {H : Type} : Left H := { results := [], args := [] }

/-- 'barscanlaw03.FractionNews': WHATEVER THE INPUT: true; the input reads as it did. -/
def fractionNewsSpec : ChangeSpec := { name := "fractionNews", fn := fun _ => fun
  | [d1, d2, d3] => { results := [.lit (.bool true)], args := [d1, d2, d3] }
  | _ => none }
def fractionNewsRow : OpenClaim := { program := "ytmaobhmoipegeaa", sum := "0bb02d9b490396000f310cfe9639e57ee61c573c94bad225e62979a5f1a1bfbe", func := "barscan/barscanlaw03.FractionNews", spec := "fractionNews", inPlace := ["internal/bytealg.IndexByteString", "internal/bytealg.IndexString"], unfollowed := true, recurses := true, named := ["math/bits.overflowError", "internal/bytealg.MaxLen"], apart := false }
def FractionNewsSaid : Prop := fractionNewsRow.holds Try.pinned (OpenSpec.ofChange fractionNewsSpec)

/-- ITS FALSE NEIGHBOUR: 'it returns false'. Refute it at one input. -/
def fractionNewsWrong : ChangeSpec := { name := "fractionNews", fn := fun _ => fun
  | [d1, d2, d3] => { results := [.lit (.bool false)], args := [d1, d2, d3] }
  | _ => none }
def FractionNewsWrongFalsely : Prop := fractionNewsRow.holds Try.pinned (OpenSpec.ofChange fractionNewsWrong)

/-- 'barscanlaw03.FractionLimits': WHATEVER THE INPUT: true; the input reads as it did. -/
def fractionLimitsSpec : ChangeSpec := { name := "fractionLimits", fn := fun _ => fun
  | [d1, d2, d3] => { results := [.lit (.bool true)], args := [d1, d2, d3] }
  | _ => none }
def fractionLimitsRow : OpenClaim := { program := "ytmaobhmoipegeaa", sum := "0bb02d9b490396000f310cfe9639e57ee61c573c94bad225e62979a5f1a1bfbe", func := "barscan/barscanlaw03.FractionLimits", spec := "fractionLimits", inPlace := ["internal/bytealg.IndexByteString", "internal/bytealg.IndexString"], unfollowed := true, recurses := true, named := ["math/bits.overflowError", "internal/bytealg.MaxLen"], apart := false }
def FractionLimitsSaid : Prop := fractionLimitsRow.holds Try.pinned (OpenSpec.ofChange fractionLimitsSpec)

/-- ITS FALSE NEIGHBOUR: 'it returns false'. Refute it at one input. -/
def fractionLimitsWrong : ChangeSpec := { name := "fractionLimits", fn := fun _ => fun
  | [d1, d2, d3] => { results := [.lit (.bool false)], args := [d1, d2, d3] }
  | _ => none }
def FractionLimitsWrongFalsely : Prop := fractionLimitsRow.holds Try.pinned (OpenSpec.ofChange fractionLimitsWrong)

/-- 'barscanlaw03.FractionField': WHATEVER THE INPUT: true; the input reads as it did. -/
def fractionFieldSpec : ChangeSpec := { name := "fractionField", fn := fun _ => fun
  | [d1, d2, d3] => { results := [.lit (.bool true)], args := [d1, d2, d3] }
  | _ => none }
def fractionFieldRow : OpenClaim := { program := "ytmaobhmoipegeaa", sum := "0bb02d9b490396000f310cfe9639e57ee61c573c94bad225e62979a5f1a1bfbe", func := "barscan/barscanlaw03.FractionField", spec := "fractionField", inPlace := ["internal/bytealg.IndexByteString", "internal/bytealg.IndexString"], unfollowed := true, recurses := true, named := ["math/bits.overflowError", "internal/bytealg.MaxLen"], apart := false }
def FractionFieldSaid : Prop := fractionFieldRow.holds Try.pinned (OpenSpec.ofChange fractionFieldSpec)

/-- ITS FALSE NEIGHBOUR: 'it returns false'. Refute it at one input. -/
def fractionFieldWrong : ChangeSpec := { name := "fractionField", fn := fun _ => fun
  | [d1, d2, d3] => { results := [.lit (.bool false)], args := [d1, d2, d3] }
  | _ => none }
def FractionFieldWrongFalsely : Prop := fractionFieldRow.holds Try.pinned (OpenSpec.ofChange fractionFieldWrong)

/-- 'barscanlaw03.FractionOrder': WHATEVER THE INPUT: true; the input reads as it did. -/
def fractionOrderSpec : ChangeSpec := { name := "fractionOrder", fn := fun _ => fun
  | [d1, d2, d3] => { results := [.lit (.bool true)], args := [d1, d2, d3] }
  | _ => none }
def fractionOrderRow : OpenClaim := { program := "ytmaobhmoipegeaa", sum := "0bb02d9b490396000f310cfe9639e57ee61c573c94bad225e62979a5f1a1bfbe", func := "barscan/barscanlaw03.FractionOrder", spec := "fractionOrder", inPlace := ["internal/bytealg.IndexByteString", "internal/bytealg.IndexString"], unfollowed := true, recurses := true, named := ["math/bits.overflowError", "internal/bytealg.MaxLen"], apart := false }
def FractionOrderSaid : Prop := fractionOrderRow.holds Try.pinned (OpenSpec.ofChange fractionOrderSpec)

/-- ITS FALSE NEIGHBOUR: 'it returns false'. Refute it at one input. -/
def fractionOrderWrong : ChangeSpec := { name := "fractionOrder", fn := fun _ => fun
  | [d1, d2, d3] => { results := [.lit (.bool false)], args := [d1, d2, d3] }
  | _ => none }
def FractionOrderWrongFalsely : Prop := fractionOrderRow.holds Try.pinned (OpenSpec.ofChange fractionOrderWrong)

/-- 'barscanlaw03.FractionMinimal': WHATEVER THE INPUT: true; the input reads as it did. -/
def fractionMinimalSpec : ChangeSpec := { name := "fractionMinimal", fn := fun _ => fun
  | [d1, d2] => { results := [.lit (.bool true)], args := [d1, d2] }
  | _ => none }
def fractionMinimalRow : OpenClaim := { program := "ytmaobhmoipegeaa", sum := "0bb02d9b490396000f310cfe9639e57ee61c573c94bad225e62979a5f1a1bfbe", func := "barscan/barscanlaw03.FractionMinimal", spec := "fractionMinimal", inPlace := ["internal/bytealg.IndexByteString", "internal/bytealg.IndexString"], unfollowed := true, recurses := true, named := ["math/bits.overflowError", "internal/bytealg.MaxLen"], apart := false }
def FractionMinimalSaid : Prop := fractionMinimalRow.holds Try.pinned (OpenSpec.ofChange fractionMinimalSpec)

/-- ITS FALSE NEIGHBOUR: 'it returns false'. Refute it at one input. -/
def fractionMinimalWrong : ChangeSpec := { name := "fractionMinimal", fn := fun _ => fun
  | [d1, d2] => { results := [.lit (.bool false)], args := [d1, d2] }
  | _ => none }
def FractionMinimalWrongFalsely : Prop := fractionMinimalRow.holds Try.pinned (OpenSpec.ofChange fractionMinimalWrong)

/-- 'barscanlaw03.FractionNearest': WHATEVER THE INPUT: true; the input reads as it did. -/
def fractionNearestSpec : ChangeSpec := { name := "fractionNearest", fn := fun _ => fun
  | [d] => { results := [.lit (.bool true)], args := [d] }
  | _ => none }
def fractionNearestRow : OpenClaim := { program := "ytmaobhmoipegeaa", sum := "0bb02d9b490396000f310cfe9639e57ee61c573c94bad225e62979a5f1a1bfbe", func := "barscan/barscanlaw03.FractionNearest", spec := "fractionNearest", inPlace := ["internal/bytealg.IndexByteString", "internal/bytealg.IndexString"], unfollowed := true, recurses := true, named := ["math/bits.overflowError", "internal/bytealg.MaxLen"], apart := false }
def FractionNearestSaid : Prop := fractionNearestRow.holds Try.pinned (OpenSpec.ofChange fractionNearestSpec)

/-- ITS FALSE NEIGHBOUR: 'it returns false'. Refute it at one input. -/
def fractionNearestWrong : ChangeSpec := { name := "fractionNearest", fn := fun _ => fun
  | [d] => { results := [.lit (.bool false)], args := [d] }
  | _ => none }
def FractionNearestWrongFalsely : Prop := fractionNearestRow.holds Try.pinned (OpenSpec.ofChange fractionNearestWrong)

/- THE SECOND FORM. 'bulk': how many values and letters a reading holds, each counted each time it is reached (what is shared counts as often as it is met; a slice's spare places count too). A statement '..UptoSaid' is the law's where the arguments, and the package variables that the reading takes, are together of bulk at most 1048576: NARROWER than '..Said'. Prove '..Said' where nothing that the law and all that it calls make is longer than what came in: it says more and counts as full. Else prove '..UptoSaid'. A law counts once. -/
mutual
def uptoBulk {H : Type} : DataW H → Nat
  | .lit (.string bytes) => bytes.length + 1
  | .lit _ => 1
  | .nil => 1
  | .ptr d => uptoBulk d + 1
  | .slice elems spare => uptoBulkAll elems + uptoBulkAll spare + 1
  | .agg parts => uptoBulkAll parts + 1
  | .iface _ d => uptoBulk d + 1
  | .map entries => uptoBulkEntries entries + 1
  | .held _ => 1
def uptoBulkAll {H : Type} : List (DataW H) → Nat
  | [] => 0
  | d :: r => uptoBulk d + uptoBulkAll r
def uptoBulkEntries {H : Type} : List (Lit × DataW H) → Nat
  | [] => 0
  | x :: r => uptoBulkEntry x + uptoBulkEntries r
def uptoBulkEntry {H : Type} : Lit × DataW H → Nat
  | (.string bytes, d) => bytes.length + uptoBulk d + 1
  | (_, d) => uptoBulk d + 1
 end
def uptoSmall : (H : Type) → List (DataW H) → Bool := fun _ ds => decide (uptoBulkAll ds ≤ 1048576)
def OpenSpec.upto (s : _root_.Go.ChangeSpec) : _root_.Go.OpenSpec := { _root_.Go.OpenSpec.ofChange s with cond := some uptoSmall }

/-- 'barscanlaw03.FractionNews', WHERE WHAT IT READS IS OF BULK AT MOST 1048576: true; the input reads as it did. -/
def fractionNewsUptoRow : OpenClaim := { program := "ytmaobhmoipegeaa", sum := "0bb02d9b490396000f310cfe9639e57ee61c573c94bad225e62979a5f1a1bfbe", func := "barscan/barscanlaw03.FractionNews", spec := "fractionNews", inPlace := ["internal/bytealg.IndexByteString", "internal/bytealg.IndexString"], unfollowed := true, recurses := true, named := ["math/bits.overflowError", "internal/bytealg.MaxLen"], apart := false, narrowed := true }
def FractionNewsUptoSaid : Prop := fractionNewsUptoRow.holds Try.pinned (OpenSpec.upto fractionNewsSpec)

/-- 'barscanlaw03.FractionLimits', WHERE WHAT IT READS IS OF BULK AT MOST 1048576: true; the input reads as it did. -/
def fractionLimitsUptoRow : OpenClaim := { program := "ytmaobhmoipegeaa", sum := "0bb02d9b490396000f310cfe9639e57ee61c573c94bad225e62979a5f1a1bfbe", func := "barscan/barscanlaw03.FractionLimits", spec := "fractionLimits", inPlace := ["internal/bytealg.IndexByteString", "internal/bytealg.IndexString"], unfollowed := true, recurses := true, named := ["math/bits.overflowError", "internal/bytealg.MaxLen"], apart := false, narrowed := true }
def FractionLimitsUptoSaid : Prop := fractionLimitsUptoRow.holds Try.pinned (OpenSpec.upto fractionLimitsSpec)

/-- 'barscanlaw03.FractionField', WHERE WHAT IT READS IS OF BULK AT MOST 1048576: true; the input reads as it did. -/
def fractionFieldUptoRow : OpenClaim := { program := "ytmaobhmoipegeaa", sum := "0bb02d9b490396000f310cfe9639e57ee61c573c94bad225e62979a5f1a1bfbe", func := "barscan/barscanlaw03.FractionField", spec := "fractionField", inPlace := ["internal/bytealg.IndexByteString", "internal/bytealg.IndexString"], unfollowed := true, recurses := true, named := ["math/bits.overflowError", "internal/bytealg.MaxLen"], apart := false, narrowed := true }
def FractionFieldUptoSaid : Prop := fractionFieldUptoRow.holds Try.pinned (OpenSpec.upto fractionFieldSpec)

/-- 'barscanlaw03.FractionOrder', WHERE WHAT IT READS IS OF BULK AT MOST 1048576: true; the input reads as it did. -/
def fractionOrderUptoRow : OpenClaim := { program := "ytmaobhmoipegeaa", sum := "0bb02d9b490396000f310cfe9639e57ee61c573c94bad225e62979a5f1a1bfbe", func := "barscan/barscanlaw03.FractionOrder", spec := "fractionOrder", inPlace := ["internal/bytealg.IndexByteString", "internal/bytealg.IndexString"], unfollowed := true, recurses := true, named := ["math/bits.overflowError", "internal/bytealg.MaxLen"], apart := false, narrowed := true }
def FractionOrderUptoSaid : Prop := fractionOrderUptoRow.holds Try.pinned (OpenSpec.upto fractionOrderSpec)

/-- 'barscanlaw03.FractionMinimal', WHERE WHAT IT READS IS OF BULK AT MOST 1048576: true; the input reads as it did. -/
def fractionMinimalUptoRow : OpenClaim := { program := "ytmaobhmoipegeaa", sum := "0bb02d9b490396000f310cfe9639e57ee61c573c94bad225e62979a5f1a1bfbe", func := "barscan/barscanlaw03.FractionMinimal", spec := "fractionMinimal", inPlace := ["internal/bytealg.IndexByteString", "internal/bytealg.IndexString"], unfollowed := true, recurses := true, named := ["math/bits.overflowError", "internal/bytealg.MaxLen"], apart := false, narrowed := true }
def FractionMinimalUptoSaid : Prop := fractionMinimalUptoRow.holds Try.pinned (OpenSpec.upto fractionMinimalSpec)

/-- 'barscanlaw03.FractionNearest', WHERE WHAT IT READS IS OF BULK AT MOST 1048576: true; the input reads as it did. -/
def fractionNearestUptoRow : OpenClaim := { program := "ytmaobhmoipegeaa", sum := "0bb02d9b490396000f310cfe9639e57ee61c573c94bad225e62979a5f1a1bfbe", func := "barscan/barscanlaw03.FractionNearest", spec := "fractionNearest", inPlace := ["internal/bytealg.IndexByteString", "internal/bytealg.IndexString"], unfollowed := true, recurses := true, named := ["math/bits.overflowError", "internal/bytealg.MaxLen"], apart := false, narrowed := true }
def FractionNearestUptoSaid : Prop := fractionNearestUptoRow.holds Try.pinned (OpenSpec.upto fractionNearestSpec)

end Rows
end Go.Proofs.Ytmaobhmoipegeaa

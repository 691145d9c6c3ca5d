/- Contracts behind a law: no conditions beyond those in each statement. -/
import Derived.Test.YtnkkkeohhgbhnaaJ4
import Derived.Test.YtnkkkeohhgbhnaaJ5
set_option maxHeartbeats 8000000
set_option exponentiation.threshold 100000
set_option maxRecDepth 100000
set_option linter.unusedVariables false
set_option linter.unusedSimpArgs false
namespace Go.Av
open Go Go.Proofs

open Go.RowKit
/-! The reference's point of two lines, the law on it -/
abbrev mQ (x : Rat) : List PV := [Bo (decide (x.num < 0)), M x.num.natAbs, Bo false, M x.den]
abbrev fpM (x y : Rat) : PV := .ag [Bo (decide (x.num < 0)), M x.num.natAbs, Bo false, M x.den, Bo (decide (y.num < 0)), M y.num.natAbs, Bo false, M y.den]
def rmeetR (a b : Ln) : PV := if badL a b then .tp [fpZ, E_ 1] else if detD a b = 0 then .tp [fpZ, E_ 24] else .tp [fpM (Rat.divInt (detX a b) (detD a b)) (Rat.divInt (detY a b) (detD a b)), E_ 0]
theorem RNew_q (n d : Int) (hn : ln n.natAbs ≤ 4) (hd : ln d.natAbs ≤ 4) (h0 : d ≠ 0) : Con Try.prog 48 [IV n, IV d] (.tp [QV (Rat.divInt n d), E_ 0]) := by
  have hN := RNew_s (decide (n < 0)) (decide (d < 0)) n.natAbs d.natAbs (vld_iv (by omega)) (vld_iv (by omega)) (by omega)
  rwa [divInt_sgn n d h0, resM_ok (okQ_divB n d (by omega) (by omega) h0)] at hN
end Go.Av

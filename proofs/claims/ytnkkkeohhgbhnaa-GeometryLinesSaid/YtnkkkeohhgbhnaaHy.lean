/- Contracts behind a law: no conditions beyond those in each statement. -/
import Derived.Test.YtnkkkeohhgbhnaaJ5
import Derived.Test.YtnkkkeohhgbhnaaHw
set_option linter.unusedVariables false
namespace Go.Av
open Go Go.Proofs
theorem GLines_c (a0 a1 b0 b1 : Pt) : Con Try.prog 6 [pr a0 a1, pr b0 b1] (Bo true) := GLines_h alive_c a0 a1 b0 b1
end Go.Av

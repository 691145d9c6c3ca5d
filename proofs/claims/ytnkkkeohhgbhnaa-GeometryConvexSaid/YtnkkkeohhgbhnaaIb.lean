/- Contracts behind a law: no conditions beyond those in each statement. -/
import Derived.Test.YtnkkkeohhgbhnaaJ5
import Derived.Test.YtnkkkeohhgbhnaaIa
set_option linter.unusedVariables false
namespace Go.Av
open Go Go.Proofs
theorem GConvex_c (l : List Pt) (t : Int) : Con Try.prog 3 [.ss false 2 (pts l), I t] (Bo true) := GConvex_h alive_c l t
end Go.Av

/- Contracts behind a law: no conditions beyond those in each statement. -/
import Derived.Test.YtnkkkeohhgbhnaaJ5
import Derived.Test.YtnkkkeohhgbhnaaHl
set_option linter.unusedVariables false
namespace Go.Av
open Go Go.Proofs
theorem GHulls_c (l : List Pt) : Con Try.prog 5 [.ss false 2 (pts l)] (Bo true) := GHulls_h alive_c l
end Go.Av

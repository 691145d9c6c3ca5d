/- Contracts behind a law: no conditions beyond those in each statement. -/
import Derived.Test.YtnkkkeohhgbhnaaGreatJ5
import Derived.Test.YtnkkkeohhgbhnaaGreatHt
set_option linter.unusedVariables false
namespace Go.Av
open Go Go.Proofs
theorem GInsides_c (l : List Pt) (p : Pt) (t : Int) : Con Tryz.prog 3 [.ss false 2 (pts l), pt p, I t] (Bo true) := GInsides_h alive_c l p t
end Go.Av

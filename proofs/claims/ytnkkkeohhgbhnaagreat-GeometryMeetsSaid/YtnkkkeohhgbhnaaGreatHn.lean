/- Contracts behind a law: no conditions beyond those in each statement. -/
import Derived.Test.YtnkkkeohhgbhnaaGreatJ5
import Derived.Test.YtnkkkeohhgbhnaaGreatHf
set_option linter.unusedVariables false
namespace Go.Av
open Go Go.Proofs
theorem GMeets_c (a b : Ln) (ha : lnOk a) (hb : lnOk b) : Con Tryz.prog 4 [lnP a, lnP b] (Bo true) := GMeets_h alive_c a b ha hb
end Go.Av

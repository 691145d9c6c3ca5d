/- Contracts behind a law: no conditions beyond those in each statement. -/
import Derived.Test.YtnkkkeohhgbhnaaJ5
import Derived.Test.YtnkkkeohhgbhnaaHd
import Derived.Test.YtnkkkeohhgbhnaaHe
set_option linter.unusedVariables false
namespace Go.Av
open Go Go.Proofs
theorem GPoints_c (a b c : Pt) : Con Try.prog 4 [pt a, pt b, pt c] (Bo true) := GPoints_h alive_c a b c
theorem GCovers_c (x y w h x' y' w' h' : Int) (p : Pt) : Con Try.prog 8 [b4 x y w h, b4 x' y' w' h', pt p] (Bo true) := GCovers_h alive_c x y w h x' y' w' h' p.1 p.2
end Go.Av

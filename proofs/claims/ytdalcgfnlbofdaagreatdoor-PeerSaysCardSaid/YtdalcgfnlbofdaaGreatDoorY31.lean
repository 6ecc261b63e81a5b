import Derived.Test.YtdalcgfnlbofdaaGreatDoorY29
import Derived.Test.YtdalcgfnlbofdaaGreatDoorY30
import Derived.Test.YtdalcgfnlbofdaaGreatDoorY01
import Derived.Test.YtdalcgfnlbofdaaGreatDoorPc
set_option linter.unusedVariables false
set_option linter.unusedSimpArgs false
namespace Go.Proofs.YtdalcgfnlbofdaaGreatDoor
open Go Go.Lf Go.Proofs
attribute [local irreducible] Lf.rg Lf.ro Lf.PWp Lf.SOp Lf.ACall Lf.Scoped Lf.dg Lf.dw
set_option maxRecDepth 20000
set_option maxHeartbeats 4000000
structure DS where
 (i s : Nat) (n : Int) (p : List (List UInt8))
end Go.Proofs.YtdalcgfnlbofdaaGreatDoor

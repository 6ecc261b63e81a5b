import Derived.Test.YtdalcgfnlbofdaaGreatDoorY17
import Derived.Test.YtdalcgfnlbofdaaGreatDoorY01
import Derived.Test.YtdalcgfnlbofdaaGreatDoorY27
import Derived.Test.YtdalcgfnlbofdaaGreatDoorPc
set_option linter.unusedVariables false
set_option linter.unusedSimpArgs false
namespace Go.Proofs.YtdalcgfnlbofdaaGreatDoor
open Go Go.Lf Go.Proofs
attribute [local irreducible] Lf.rg Lf.ro Lf.PWp Lf.SOp Lf.ACall Lf.Scoped Lf.dg Lf.dw
set_option maxRecDepth 20000
set_option maxHeartbeats 4000000
end Go.Proofs.YtdalcgfnlbofdaaGreatDoor

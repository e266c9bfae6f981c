/- It is proved that the law FnScenesMoved holds: for all lists of bytes the drawn scene's shape at a time has the least of the distances that its things have where their keys place them; it holds under no condition beyond those of the given statement. -/
import Derived.Test.YtmlolnaannoifaaLaw1
import Derived.Test.YtmlolnaannoifaaRows
namespace Go.Proofs.Ytmlolnaannoifaa

theorem fnScenesMoved : Rows.FnScenesMovedSaid := fnScenesMoved_holds h3
end Go.Proofs.Ytmlolnaannoifaa

/- Closed facts. -/
import Derived.Test.YtoknehglgeiopaaGreatDoorTa
set_option linter.all false
namespace Go.Ab
section
set_option maxRecDepth 100000
open Go Go.Proofs Go.Proofs.YtoknehglgeiopaaGreatDoor
def KE1:varsNamedLaterB Tryz.prog (varsId Tryz.prog) mH=true:=by kernel_rfl
end
end Go.Ab

/- Closed facts. -/
import Derived.Test.YtlahelaeeahggaaGreatDoorTa
set_option linter.all false
namespace Go.Ab
section
set_option maxRecDepth 100000
open Go Go.Proofs Go.Proofs.YtlahelaeeahggaaGreatDoor
def NV:varsNamedLaterB Tryz.prog (varsId Tryz.prog) jZ=true:=by kernel_rfl
end
end Go.Ab

/- Closed facts. -/
import Derived.JoinedCond
import Derived.KernelRfl
import Derived.Test.YtoknehglgeiopaaGreatDoorRows
set_option linter.all false
namespace Go.Ab
section
set_option maxRecDepth 100000
set_option maxHeartbeats 20000000
open Go Go.Proofs Go.Proofs.YtoknehglgeiopaaGreatDoor
def avt:(Rows.translateStmtsRow.inPlace==Tryz.pinned.checked.prog.inPlace 3)=true:=by kernel_rfl
def ajg:(Rows.translateStmtsRow.unfollowed==Tryz.pinned.checked.prog.unfollowed 3)=true:=by kernel_rfl
def avd:(Rows.translateStmtsRow.recurses==Tryz.pinned.checked.prog.recurses 3)=true:=by kernel_rfl
def abk:(Rows.translateStmtsRow.named==Tryz.pinned.checked.prog.varsNamed 3)=true:=by kernel_rfl
end
end Go.Ab

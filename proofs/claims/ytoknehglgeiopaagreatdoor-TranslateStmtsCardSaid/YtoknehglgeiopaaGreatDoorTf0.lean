/- Closed facts. -/
import Derived.Test.YtoknehglgeiopaaGreatDoorTa
set_option linter.all false
namespace Go.Ab
section
set_option maxRecDepth 100000
open Go Go.Proofs Go.Proofs.YtoknehglgeiopaaGreatDoor
def T36:Tryz.prog.worded (varsWordLater true)=true:=by kernel_rfl
def T20:Tryz.prog.worded (varsWordLater !true)=false:=by kernel_rfl
def T17:Tryz.prog.worded rootWordLater=true:=by kernel_rfl
def Q22:mH.map (λx=>Tryz.prog.kindOfLater x.1)=ake.map some:=by kernel_rfl
def KG4:(Tryz.prog.funcNamed "gosem.cut.vars").isSome=true:=by kernel_rfl
def KE9:Tryz.pinned.checked.prog.headLifts.contains "ownunsafe"=false:=by kernel_rfl
def KE4:Tryz.pinned.checked.prog.pinnedFits "unicode/utf8.first"=true:=by kernel_rfl
end
end Go.Ab

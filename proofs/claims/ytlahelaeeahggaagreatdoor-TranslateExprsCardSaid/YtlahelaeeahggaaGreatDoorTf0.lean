/- Closed facts. -/
import Derived.Test.YtlahelaeeahggaaGreatDoorTa
set_option linter.all false
namespace Go.Ab
section
set_option maxRecDepth 100000
open Go Go.Proofs Go.Proofs.YtlahelaeeahggaaGreatDoor
def NN:Tryz.prog.worded (varsWordLater true)=true:=by kernel_rfl
def NO:Tryz.prog.worded (varsWordLater !true)=false:=by kernel_rfl
def NP:Tryz.prog.worded rootWordLater=true:=by kernel_rfl
def NQ:jZ.map (λx=>Tryz.prog.kindOfLater x.1)=DU.map some:=by kernel_rfl
def NR:(Tryz.prog.funcNamed "gosem.cut.vars").isSome=true:=by kernel_rfl
def NT:Tryz.pinned.checked.prog.headLifts.contains "ownunsafe"=false:=by kernel_rfl
def NU:Tryz.pinned.checked.prog.pinnedFits "unicode/utf8.first"=true:=by kernel_rfl
end
end Go.Ab

/- Closed facts. -/
import Derived.Test.YtoknehglgeiopaaGreatDoorX1
import Derived.Test.YtoknehglgeiopaaGreatDoorTa
set_option linter.all false
namespace Go.Ab
section
set_option maxRecDepth 100000
open Go Go.Proofs Go.Proofs.YtoknehglgeiopaaGreatDoor
def abb:∀os tape,(lP Tryz.prog 95 os tape λw=>w.memory.var? Tryz.prog "schemalens/lens.kinds")=some FC:=λ_ _=>by kernel_rfl
def agL(e:TypeId×Value->List UInt8)(w:World):DataW.trod e Tryz.prog w 0 (λ_=>true) true 8 159 FD=some (FE e,[]):=by kernel_rfl
def fl1:(funcsListed mH).map (·.1)=["schemalens/lens.kinds"]:=by kernel_rfl
def fl2:(funcsListed mH).map (·.2.funcsOut)=[B6.funcsOut]:=by kernel_rfl
def gl0:Tryz.prog.globalNamed "schemalens/lens.kinds"=some 0:=by kernel_rfl
def ty0:(Tryz.prog.globals[0]?).map (·.type)=some 159:=by kernel_rfl
def alv:FC.toList=FD:=by kernel_rfl
def ahv(os:Os)(tape:Tape):(lP Tryz.prog 95 os tape λw=>funcsRun Tryz.prog w.memory 8 ((funcsListed mH).map (·.1)))=some ((funcsListed mH).map (·.2.funcsOut)):=by
 have a:=abb os tape;rw[fl1,fl2];unfold lP at a |-;split at a
 .simp only[funcsRun,gl0,ty0,a,alv,agL,Ri]
 .cases a
end
end Go.Ab

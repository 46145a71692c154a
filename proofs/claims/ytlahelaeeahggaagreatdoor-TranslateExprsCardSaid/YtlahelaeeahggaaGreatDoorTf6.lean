/- Closed facts. -/
import Derived.Test.YtlahelaeeahggaaGreatDoorX1
import Derived.Test.YtlahelaeeahggaaGreatDoorTa
set_option linter.all false
namespace Go.Ab
section
set_option maxRecDepth 100000
open Go Go.Proofs Go.Proofs.YtlahelaeeahggaaGreatDoor
def J8:∀os tape,(jB Tryz.prog 95 os tape λw=>w.memory.var? Tryz.prog "schemalens/lens.kinds")=some Ap:=λ_ _=>by kernel_rfl
def N0(e:TypeId×Value->List UInt8)(w:World):DataW.trod e Tryz.prog w 0 (λ_=>true) true 8 207 Aq=some (Ar e,[]):=by kernel_rfl
def fl1:(funcsListed jZ).map (·.1)=["schemalens/lens.kinds"]:=by kernel_rfl
def fl2:(funcsListed jZ).map (·.2.funcsOut)=[vQ.funcsOut]:=by kernel_rfl
def gl0:Tryz.prog.globalNamed "schemalens/lens.kinds"=some 0:=by kernel_rfl
def ty0:(Tryz.prog.globals[0]?).map (·.type)=some 207:=by kernel_rfl
def kv:Ap.toList=Aq:=by kernel_rfl
def SG(os:Os)(tape:Tape):(jB Tryz.prog 95 os tape λw=>funcsRun Tryz.prog w.memory 8 ((funcsListed jZ).map (·.1)))=some ((funcsListed jZ).map (·.2.funcsOut)):=by
 have a:=J8 os tape;rw[fl1,fl2];unfold jB at a |-;split at a
 ·simp only[funcsRun,gl0,ty0,a,kv,N0,KN]
 ·cases a
end
end Go.Ab

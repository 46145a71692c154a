/- Closed facts. -/
import Derived.KernelRfl
import Derived.SevenTiedAt
import Derived.Test.YtoknehglgeiopaaGreatDoorRows
set_option linter.all false
namespace Go.Ab
section
set_option maxRecDepth 100000
open Go Go.Proofs Go.Proofs.YtoknehglgeiopaaGreatDoor
def kw1:Rows.translateStmtsRow.wfByText (OpenSpec.ofChange Rows.translateStmtsSpec)=true:=by kernel_rfl
def kw2:Tryz.pinned.checked.prog.mainIs=some (true,"2581bf2179a4b09db45a58a91d90e1a7e1ca8f1314b3ab57b4741e996626942d".toList):=by kernel_rfl
def kw3:true=Tryz.pinned.checked.prog.looks []:=by kernel_rfl
def kw4:Tryz.f3.params.all (λt=> !Tryz.pinned.checked.prog.wantsStandIn t)=true:=by kernel_rfl
def ng0:((Tryz.prog.funcs.toList.drop 0).take 100).any Func.goes=false:=by kernel_rfl
def ng1:((Tryz.prog.funcs.toList.drop 100).take 100).any Func.goes=false:=by kernel_rfl
def ng2:((Tryz.prog.funcs.toList.drop 200).take 100).any Func.goes=false:=by kernel_rfl
def ng3:((Tryz.prog.funcs.toList.drop 300).take 100).any Func.goes=false:=by kernel_rfl
def ng4:((Tryz.prog.funcs.toList.drop 400).take 100).any Func.goes=false:=by kernel_rfl
def ng5:((Tryz.prog.funcs.toList.drop 500).take 100).any Func.goes=false:=by kernel_rfl
def ng6:((Tryz.prog.funcs.toList.drop 600).take 100).any Func.goes=false:=by kernel_rfl
def ng7:(Tryz.prog.funcs.toList.drop 700).any Func.goes=false:=by kernel_rfl
def anyS{l:List Func}{n m k:Nat}(e:n+m=k)(a:((l.drop n).take m).any Func.goes=false)(b:(l.drop k).any Func.goes=false):(l.drop n).any Func.goes=false:=by
 rw[<-List.take_append_drop m (l.drop n),List.any_append,a,List.drop_drop,e,b];rfl
def ag1:Tryz.pinned.checked.prog.funcs.any Func.goes=false:=by
 show Tryz.prog.funcs.any Func.goes=false
 rw[<-Array.any_toList,<-List.drop_zero (l:=Tryz.prog.funcs.toList)];exact anyS rfl ng0 (anyS rfl ng1 (anyS rfl ng2 (anyS rfl ng3 (anyS rfl ng4 (anyS rfl ng5 (anyS rfl ng6 ng7))))))
def alV{P:Program}(h:P.funcs.any Func.goes=false)(f:FuncId):P.goes f=false:=by
 have k:∀g:FuncId,(P.funcs[g]?).any Func.goes=false:=λg=>by
  cases e:P.funcs[g]? with
  |none=>rfl
  |some fn=>exact Bool.eq_false_iff.2 λc=>absurd c (by simpa using(Array.any_eq_false'.1 h) fn (Array.mem_of_getElem? e))
 unfold Program.goes;simp only[k,h,Bool.and_false,Bool.or_false];simp
def kw5{P:Program}{c:OpenClaim}{f:FuncId}(h:P.funcNamed c.func=some f)(hs:c.start= .entering)(x:P.funcs.any Func.goes=false):false=c.goesBy P:=by
 unfold OpenClaim.goesBy Program.goesAt Program.goesFrom;rw[h,hs];simp[alV x]
end
end Go.Ab

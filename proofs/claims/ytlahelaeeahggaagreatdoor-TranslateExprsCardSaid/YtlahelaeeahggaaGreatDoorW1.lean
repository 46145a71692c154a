/- Closed facts. -/
import Derived.KernelRfl
import Derived.SevenTiedAt
import Derived.Test.YtlahelaeeahggaaGreatDoorRows
set_option linter.all false
namespace Go.Ab
section
set_option maxRecDepth 100000
open Go Go.Proofs Go.Proofs.YtlahelaeeahggaaGreatDoor
def kw1:Rows.translateExprsRow.wfByText (OpenSpec.ofChange Rows.translateExprsSpec)=true:=by kernel_rfl
def kw2:Tryz.pinned.checked.prog.mainIs=some (true,"7d12ead46a534531e1fb227770028b710d2bf951f4aa01df89c9731d35008cd4".toList):=by kernel_rfl
def kw3:true=Tryz.pinned.checked.prog.looks []:=by kernel_rfl
def kw4:Tryz.f3.params.all (λt=> !Tryz.pinned.checked.prog.wantsStandIn t)=true:=by kernel_rfl
end
section
set_option maxRecDepth 100000
open Go Go.Proofs Go.Proofs.YtlahelaeeahggaaGreatDoor
def ng0:((Tryz.prog.funcs.toList.drop 0).take 100).any Func.goes=false:=by kernel_rfl
def ng1:((Tryz.prog.funcs.toList.drop 100).take 100).any Func.goes=false:=by kernel_rfl
def ng2:((Tryz.prog.funcs.toList.drop 200).take 100).any Func.goes=false:=by kernel_rfl
def ng3:((Tryz.prog.funcs.toList.drop 300).take 100).any Func.goes=false:=by kernel_rfl
def ng4:((Tryz.prog.funcs.toList.drop 400).take 100).any Func.goes=false:=by kernel_rfl
def ng5:((Tryz.prog.funcs.toList.drop 500).take 100).any Func.goes=false:=by kernel_rfl
def ng6:((Tryz.prog.funcs.toList.drop 600).take 100).any Func.goes=false:=by kernel_rfl
def ng7:(Tryz.prog.funcs.toList.drop 700).any Func.goes=false:=by kernel_rfl
def vS{l:List Func}{n m k:Nat}(e:n+m=k)(a:((l.drop n).take m).any Func.goes=false)(b:(l.drop k).any Func.goes=false):(l.drop n).any Func.goes=false:=by
 rw[<-List.take_append_drop m (l.drop n),List.any_append,a,List.drop_drop,e,b];rfl
def N1:Tryz.pinned.checked.prog.funcs.any Func.goes=false:=by
 show Tryz.prog.funcs.any Func.goes=false
 rw[<-Array.any_toList,<-List.drop_zero (l:=Tryz.prog.funcs.toList)];exact vS rfl ng0 (vS rfl ng1 (vS rfl ng2 (vS rfl ng3 (vS rfl ng4 (vS rfl ng5 (vS rfl ng6 ng7))))))
def SI{P:Program}(h:P.funcs.any Func.goes=false)(f:FuncId):P.goes f=false:=by
 have k:∀g:FuncId,(P.funcs[g]?).any Func.goes=false:=λg=>by
  cases e:P.funcs[g]? with
  |none=>rfl
  |some fn=>exact Bool.eq_false_iff.2 λc=>absurd c (by simpa using(Array.any_eq_false'.1 h) fn (Array.mem_of_getElem? e))
 unfold Program.goes;simp only[k,h,Bool.and_false,Bool.or_false];simp
def kw5{P:Program}{c:OpenClaim}{f:FuncId}(h:P.funcNamed c.func=some f)(hs:c.start= .entering)(hg:P.funcs.any Func.goes=false):false=c.goesBy P:=by
 unfold OpenClaim.goesBy Program.goesAt Program.goesFrom;rw[h,hs];simp[SI hg]
end
end Go.Ab

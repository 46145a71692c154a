/- Closed facts. -/
import Derived.JoinedCond
import Derived.KernelRfl
import Derived.Test.YtlahelaeeahggaaGreatDoorRows
set_option linter.all false
namespace Go.Ab
section
set_option maxRecDepth 100000
set_option maxHeartbeats 20000000
open Go Go.Proofs Go.Proofs.YtlahelaeeahggaaGreatDoor
def J7:joinedFacts Tryz.pinned.checked.prog 3 Tryz.f3 (OpenSpec.ofChange Rows.translateExprsSpec).bare Rows.translateExprsRow=true:=by
 unfold joinedFacts;simp only[Bool.and_eq_true]
 repeat' apply And.intro
 all_goals as_aux_lemma=>kernel_rfl
def SE:Tryz.f3.isWrapper Tryz.pinned.checked.prog Rows.translateExprsRow.wrapper Rows.translateExprsRow.mainSum:=by
 unfold Func.isWrapper;first|(rw[if_pos (by decide+kernel)];kernel_rfl)|(rw[if_neg (by decide+kernel)];exact⟨rfl,rfl⟩)
def SF:Tryz.f3.isInstance Tryz.pinned.checked.prog Rows.translateExprsRow.origin Rows.translateExprsRow.targs:=of_decide_eq_true (by kernel_rfl)
def vR:Tryz.pinned.checked.prog.funcNamed Rows.translateExprsRow.func=some 3:=by kernel_rfl
end
end Go.Ab

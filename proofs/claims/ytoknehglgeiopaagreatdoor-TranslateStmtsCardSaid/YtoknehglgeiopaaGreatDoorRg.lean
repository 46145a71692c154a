/- Closed facts. -/
import Derived.Test.YtoknehglgeiopaaGreatDoorRh
set_option linter.all false
namespace Go.Ab
section
set_option maxRecDepth 100000
set_option maxHeartbeats 20000000
open Go Go.Proofs Go.Proofs.YtoknehglgeiopaaGreatDoor
def abj:joinedFacts Tryz.pinned.checked.prog 3 Tryz.f3 (OpenSpec.ofChange Rows.translateStmtsSpec).bare Rows.translateStmtsRow=true:=by
 unfold joinedFacts;simp only[Bool.and_eq_true]
 repeat' apply And.intro
 all_goals first|with_reducible exact avt|with_reducible exact ajg|with_reducible exact avd|with_reducible exact abk|as_aux_lemma=>kernel_rfl
def agl:Tryz.f3.isWrapper Tryz.pinned.checked.prog Rows.translateStmtsRow.wrapper Rows.translateStmtsRow.mainSum:=by
 unfold Func.isWrapper;first|(rw[if_pos (by decide+kernel)];kernel_rfl)|(rw[if_neg (by decide+kernel)];exact⟨rfl,rfl⟩)
def agK:Tryz.f3.isInstance Tryz.pinned.checked.prog Rows.translateStmtsRow.origin Rows.translateStmtsRow.targs:=of_decide_eq_true (by kernel_rfl)
def B8:Tryz.pinned.checked.prog.funcNamed Rows.translateStmtsRow.func=some 3:=by kernel_rfl
end
end Go.Ab

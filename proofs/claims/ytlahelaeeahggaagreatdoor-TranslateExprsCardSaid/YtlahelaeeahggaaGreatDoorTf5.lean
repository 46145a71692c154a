/- Closed facts. -/
import Derived.Test.YtlahelaeeahggaaGreatDoorTa
set_option linter.all false
namespace Go.Ab
section
set_option maxRecDepth 100000
open Go Go.Proofs Go.Proofs.YtlahelaeeahggaaGreatDoor
def NZ:∀os tape,(jB Tryz.prog 95 os tape λw=>some ((jZ.filter λx=>x.2.handleName?.isSome&&x.2.funcsIn?.isNone).all (handleAtB Tryz.prog w.memory)))=some true:=λ_ _=>by kernel_rfl
end
end Go.Ab

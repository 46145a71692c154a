/- Closed facts. -/
import Derived.Test.YtoknehglgeiopaaGreatDoorTa
set_option linter.all false
namespace Go.Ab
section
set_option maxRecDepth 100000
open Go Go.Proofs Go.Proofs.YtoknehglgeiopaaGreatDoor
def ah0:∀os tape,(lP Tryz.prog 95 os tape λw=>some ((mH.filter λx=>x.2.handleName?.isSome&&x.2.funcsIn?.isNone).all (handleAtB Tryz.prog w.memory)))=some true:=λ_ _=>by kernel_rfl
end
end Go.Ab

/- Closed facts. -/
import Derived.Test.YtoknehglgeiopaaGreatDoorTa
set_option linter.all false
namespace Go.Ab
section
set_option maxRecDepth 100000
open Go Go.Proofs Go.Proofs.YtoknehglgeiopaaGreatDoor
def alb:∀os tape,(lP Tryz.prog 95 os tape λw=>(nj Tryz.prog 8 mH w).map λx=>laidRowsB Tryz.prog w.memory x.2)=some true:=λ_ _=>by kernel_rfl
end
end Go.Ab

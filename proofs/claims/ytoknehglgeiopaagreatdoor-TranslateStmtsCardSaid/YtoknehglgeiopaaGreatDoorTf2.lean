/- Closed facts. -/
import Derived.Test.YtoknehglgeiopaaGreatDoorTa
set_option linter.all false
namespace Go.Ab
section
set_option maxRecDepth 100000
open Go Go.Proofs Go.Proofs.YtoknehglgeiopaaGreatDoor
def F35:∀os tape,(lP Tryz.prog 95 os tape λw=>(nj Tryz.prog 8 mH w).map (·.1))=some (mH.filter λx=>x.2.handleName?.isNone):=λ_ _=>by kernel_rfl
end
end Go.Ab

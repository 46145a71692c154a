/- Closed facts. -/
import Derived.Test.YtlahelaeeahggaaGreatDoorTa
set_option linter.all false
namespace Go.Ab
section
set_option maxRecDepth 100000
open Go Go.Proofs Go.Proofs.YtlahelaeeahggaaGreatDoor
def NY:∀os tape,(jB Tryz.prog 95 os tape λw=>(kD Tryz.prog 8 jZ w).map λx=>laidRowsB Tryz.prog w.memory x.2)=some true:=λ_ _=>by kernel_rfl
end
end Go.Ab

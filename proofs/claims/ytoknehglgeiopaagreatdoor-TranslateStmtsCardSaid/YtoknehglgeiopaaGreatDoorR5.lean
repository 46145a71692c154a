/- TranslateStmts, the card: for every argument that the row allows, the law returns true. No further conditions. -/
import Derived.Test.YtoknehglgeiopaaGreatDoorCards
import Derived.Test.YtoknehglgeiopaaGreatDoorR3
import Derived.Test.YtoknehglgeiopaaGreatDoorR4
import Derived.Test.YtoknehglgeiopaaGreatDoorW1
set_option linter.all false
set_option maxHeartbeats 20000000
open Go Go.RowKit Go.Proofs
namespace Go.Ab
section
set_option maxRecDepth 100000
open Go Go.Proofs Go.Proofs.YtoknehglgeiopaaGreatDoor
def aiK:Rows.TranslateStmtsCardSaid:=
 Claim7.holds_tied_plain_at .later [] _ true (true,"2581bf2179a4b09db45a58a91d90e1a7e1ca8f1314b3ab57b4741e996626942d") true
  said (λ_ h=>by cases h) kw1 (λ_ h=>by cases h) ahm rfl ⟨rfl,rfl⟩ kw2 rfl
  (λf fn y x=>by
   obtain rfl:f=3:=Option.some.inj (y.symm.trans B8);obtain rfl:fn=Tryz.f3:=Option.some.inj (x.symm.trans Tryz.func3);exact⟨kw3,λj t z=>by simpa using Array.all_eq_true_iff_forall_mem.1 kw4 t (Array.mem_of_getElem? z)⟩)
  (kw5 B8 rfl ag1)
end
end Go.Ab
namespace Go.Proofs.YtoknehglgeiopaaGreatDoor
theorem translateStmts_card : Rows.TranslateStmtsCardSaid := Go.Ab.aiK
end Go.Proofs.YtoknehglgeiopaaGreatDoor

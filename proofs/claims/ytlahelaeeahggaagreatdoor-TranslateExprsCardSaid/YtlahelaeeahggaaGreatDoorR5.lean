/- TranslateExprs, the card: for every argument that the row allows, the law returns true. No further conditions. -/
import Derived.Test.YtlahelaeeahggaaGreatDoorCards
import Derived.Test.YtlahelaeeahggaaGreatDoorR3
import Derived.Test.YtlahelaeeahggaaGreatDoorR4
import Derived.Test.YtlahelaeeahggaaGreatDoorW1
set_option linter.all false
set_option maxHeartbeats 20000000
open Go Go.RowKit Go.Proofs
namespace Go.Ab
section
set_option maxRecDepth 100000
open Go Go.Proofs Go.Proofs.YtlahelaeeahggaaGreatDoor
def acl:Rows.TranslateExprsCardSaid:=
 Claim7.holds_tied_plain_at .later [] _ true (true,"7d12ead46a534531e1fb227770028b710d2bf951f4aa01df89c9731d35008cd4") true
  YX (λ_ h=>by cases h) kw1 (λ_ h=>by cases h) jV rfl ⟨rfl,rfl⟩ kw2 rfl
  (λf fn hf hfn=>by
   obtain rfl:f=3:=Option.some.inj (hf.symm.trans vR);obtain rfl:fn=Tryz.f3:=Option.some.inj (hfn.symm.trans Tryz.func3);exact⟨kw3,λj t ht=>by simpa using Array.all_eq_true_iff_forall_mem.1 kw4 t (Array.mem_of_getElem? ht)⟩)
  (kw5 vR rfl N1)
end
end Go.Ab
namespace Go.Proofs.YtlahelaeeahggaaGreatDoor
theorem translateExprs_card : Rows.TranslateExprsCardSaid := Go.Ab.acl
end Go.Proofs.YtlahelaeeahggaaGreatDoor

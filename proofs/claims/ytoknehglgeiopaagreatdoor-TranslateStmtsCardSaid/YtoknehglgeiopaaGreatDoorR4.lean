/- The row and its card. -/
import Derived.Test.YtoknehglgeiopaaGreatDoorTf0
import Derived.Test.YtoknehglgeiopaaGreatDoorTf1
import Derived.Test.YtoknehglgeiopaaGreatDoorTf2
import Derived.Test.YtoknehglgeiopaaGreatDoorTf3
import Derived.Test.YtoknehglgeiopaaGreatDoorTf4
import Derived.Test.YtoknehglgeiopaaGreatDoorTf5
import Derived.Test.YtoknehglgeiopaaGreatDoorTf6
set_option linter.all false
open Go Go.RowKit Go.Proofs
namespace Go.Ab
section
set_option maxRecDepth 100000
open Go Go.Proofs Go.Proofs.YtoknehglgeiopaaGreatDoor
def agq:Tryz.pinned.checked.prog.listedFits [("math/bits.deBruijn32tab",Rows.laid_math_bits_deBruijn32tab),("math/bits.deBruijn64tab",Rows.laid_math_bits_deBruijn64tab),("internal/strconv.uint64pow10",Rows.laid_internal_strconv_uint64pow10),("unicode/utf8.acceptRanges",Rows.laid_unicode_utf8_acceptRanges),("strconv.ErrRange",Rows.laid_strconv_ErrRange),("strconv.ErrSyntax",Rows.laid_strconv_ErrSyntax),("schemalens/lexer.keywords",Rows.laid_schemalens_lexer_keywords),("schemalens/lexer.symbols",Rows.laid_schemalens_lexer_symbols),("schemalens/lens.kinds",Rows.laid_schemalens_lens_kinds),("unicode/utf8.first",Rows.laid_unicode_utf8_first)]=true:=by
 unfold Program.listedFits;rw[KE9]
 kernel_rfl
def tie:Tryz.prog.laidByTextLater mH ake true:=Program.laidByTextLater_by_one 95 8 65 T36 T20 T17 Q22 KG4 KE1 λos tape=>afx (F35 os tape) (F30 os tape) (alb os tape) (ah0 os tape) (ahv os tape)
def ahm:Rows.translateStmtsRow.laidByTextAt .later Tryz.pinned [.data,.data,.data,.data,.sentinel,.sentinel,.widerDeep,.data,.funcs,.pinned] true:=
 OpenClaim.laidByTextAt_pinned rfl rfl tie rfl rfl rfl rfl (λy x _e=>by
  simp only[Rows.translateStmtsRow,List.zip_cons_cons,List.zip_nil_right,List.mem_cons,List.mem_nil_iff,or_false]at x;rcases x with rfl|rfl|rfl|rfl|rfl|rfl|rfl|rfl|rfl|rfl
  .cases _e
  .cases _e
  .cases _e
  .cases _e
  .cases _e
  .cases _e
  .cases _e
  .cases _e
  .cases _e
  .exact⟨KE4,by kernel_rfl⟩) agq
end
end Go.Ab

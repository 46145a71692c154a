/- The row and its card. -/
import Derived.Test.YtlahelaeeahggaaGreatDoorTf0
import Derived.Test.YtlahelaeeahggaaGreatDoorTf1
import Derived.Test.YtlahelaeeahggaaGreatDoorTf2
import Derived.Test.YtlahelaeeahggaaGreatDoorTf3
import Derived.Test.YtlahelaeeahggaaGreatDoorTf4
import Derived.Test.YtlahelaeeahggaaGreatDoorTf5
import Derived.Test.YtlahelaeeahggaaGreatDoorTf6
set_option linter.all false
open Go Go.RowKit Go.Proofs
namespace Go.Ab
section
set_option maxRecDepth 100000
open Go Go.Proofs Go.Proofs.YtlahelaeeahggaaGreatDoor
def SH:Tryz.pinned.checked.prog.listedFits [("math/bits.deBruijn32tab",Rows.laid_math_bits_deBruijn32tab),("math/bits.deBruijn64tab",Rows.laid_math_bits_deBruijn64tab),("internal/strconv.uint64pow10",Rows.laid_internal_strconv_uint64pow10),("unicode/utf8.acceptRanges",Rows.laid_unicode_utf8_acceptRanges),("strconv.ErrRange",Rows.laid_strconv_ErrRange),("strconv.ErrSyntax",Rows.laid_strconv_ErrSyntax),("schemalens/lexer.keywords",Rows.laid_schemalens_lexer_keywords),("schemalens/lexer.symbols",Rows.laid_schemalens_lexer_symbols),("schemalens/lens.kinds",Rows.laid_schemalens_lens_kinds),("unicode/utf8.first",Rows.laid_unicode_utf8_first)]=true:=by
 unfold Program.listedFits;rw[NT]
 kernel_rfl
end
section
set_option maxRecDepth 100000
open Go Go.Proofs Go.Proofs.YtlahelaeeahggaaGreatDoor
def tie:Tryz.prog.laidByTextLater jZ DU true:=Program.laidByTextLater_by_one 95 8 65 NN NO NP NQ NR NV λos tape=>YY (NW os tape) (NX os tape) (NY os tape) (NZ os tape) (SG os tape)
def jV:Rows.translateExprsRow.laidByTextAt .later Tryz.pinned [.data,.data,.data,.data,.sentinel,.sentinel,.widerDeep,.data,.funcs,.pinned] true:=
 OpenClaim.laidByTextAt_pinned rfl rfl tie rfl rfl rfl rfl (λy hy _e=>by
  simp only[Rows.translateExprsRow,List.zip_cons_cons,List.zip_nil_right,List.mem_cons,List.mem_nil_iff,or_false]at hy;rcases hy with rfl|rfl|rfl|rfl|rfl|rfl|rfl|rfl|rfl|rfl
  ·cases _e
  ·cases _e
  ·cases _e
  ·cases _e
  ·cases _e
  ·cases _e
  ·cases _e
  ·cases _e
  ·cases _e
  ·exact⟨NU,by kernel_rfl⟩) SH
end
end Go.Ab

/- Closed facts. -/
import Derived.KernelRfl
import Derived.LaidByTextLater
import Derived.LaidOnce
import Derived.LaidSub
import Derived.SevenTiedAt
import Derived.Test.YtoknehglgeiopaaGreatDoorRows
set_option linter.all false
namespace Go.Ab
section
set_option maxRecDepth 100000
open Go Go.Proofs Go.Proofs.YtoknehglgeiopaaGreatDoor
noncomputable def lP{X:Type}(P:Program)(n:Nat)(os:Os)(tape:Tape)(f:World->Option X):Option X:=
 match runN P n (Machine.entering P (World.unlaid P os) tape (varsId P) ⟨#[],#[],[]⟩)with
 |.ended (.done _) w=>f w
 |_=>none
noncomputable abbrev nj(P:Program)(fuel:Nat)(laid:List (String×DataW Unit))(w:World):=DataW.laidRun P w.memory fuel ((laid.filter λx=>x.2.handleName?.isNone).map (·.1))
def afx{P:Program}{n fuel M:Nat}{laid:List (String×DataW Unit)}{os:Os}{tape:Tape}{L:List (String×DataW Unit)}{F:List (DataW (List UInt8))}(a:(lP P n os tape λw=>(nj P fuel laid w).map (·.1))=some L)(b:(lP P n os tape λw=>(nj P fuel laid w).map λx=>nodupBits M x.2 0)=some true)(c:(lP P n os tape λw=>(nj P fuel laid w).map λx=>laidRowsB P w.memory x.2)=some true)(d:(lP P n os tape λw=>some ((laid.filter λx=>x.2.handleName?.isSome&&x.2.funcsIn?.isNone).all (handleAtB P w.memory)))=some true)(e:(lP P n os tape λw=>funcsRun P w.memory fuel ((funcsListed laid).map (·.1)))=some F):doorLeaves P n fuel M laid os tape=some (L,F):=by
 unfold lP at a b c d e;unfold doorLeaves;split
 .rename_i v w y;simp only[y]at a b c d e;obtain⟨x,hx,rfl⟩:=Option.map_eq_some_iff.1 a;simp only[nj]at hx;simp only[nj,hx,Option.map_some,Option.some.injEq]at b c d;simp only[hx,Option.bind_some,b,c,d,Bool.and_self,if_true,e,Option.map_some]
 .rename_i y;split at a
  .rename_i v w z;exact absurd z (y v w)
  .cases a
def mH:List (String×DataW Unit):=[("math/bits.deBruijn32tab",Rows.laid_math_bits_deBruijn32tab),("math/bits.deBruijn64tab",Rows.laid_math_bits_deBruijn64tab),("internal/strconv.uint64pow10",Rows.laid_internal_strconv_uint64pow10),("unicode/utf8.acceptRanges",Rows.laid_unicode_utf8_acceptRanges),("strconv.ErrRange",Rows.laid_strconv_ErrRange),("strconv.ErrSyntax",Rows.laid_strconv_ErrSyntax),("schemalens/lexer.keywords",Rows.laid_schemalens_lexer_keywords),("schemalens/lexer.symbols",Rows.laid_schemalens_lexer_symbols),("schemalens/lens.kinds",Rows.laid_schemalens_lens_kinds)]
def ake:List LaidKind:=[.data,.data,.data,.data,.sentinel,.sentinel,.widerDeep,.data,.funcs]
end
end Go.Ab

/- The row and its card. -/
import Derived.LaidHandle
import Derived.LaidMore
import Derived.LaidSub
import Derived.Lib.LaidU8
import Derived.OpenShut
import Derived.Test.YtoknehglgeiopaaGreatDoorRows
import Derived.Test.YtoknehglgeiopaaGreatDoorA5
set_option linter.all false
open Go Go.RowKit Go.Proofs
namespace Go.Ab
section
open Go Go.RowKit Go.Proofs Go.Proofs.YtoknehglgeiopaaGreatDoor
def Cn(W:World)(b:Nat):U Value:=match W.heap[b]? with
 |some (.cells c _ _)=>c.toList
 |_=>[]
def A6{W:World}{n:String}{g:Nat}{cs:Array Value}(x:Tryz.prog.globalNamed n=some g)(h:W.var? Tryz.prog n=some cs):Cn W g=cs.toList:=by
 unfold World.var? at h;rw[x]at h;simp only[B2]at h;unfold Cn;split at h
 .rename_i e;rw[e];simp at h;rw[h]
 .simp at h
def strs{H:Type}{aq:TypeId×Value->H}{P:Program}{w:World}{base:Nat}{sp:Nat->At}{held:At}{fuel n:Nat}{t e:TypeId}{cs:U Value}{l:U Z}{p:U MemPlace}(f:P.underlying t=some (.array n e))(g:P.underlying e=some .string)(j:P.cellsOf e=1)(r:P.cellsOf t=n)(h:DataW.trod aq P w base sp held fuel t cs=some (.agg (l.map λs=>.lit (.string s.data.toList)),p)):cs=l.map .string:=by
 obtain⟨xs,m,rfl,hx,u,a,k⟩:=DataW.trod_array f h;simp only[K7,DataW.agg.injEq]at hx;have o:l.length=n:=by have:=JV List.length hx.1;simpa[a]using this
 refine Lf λi=>?_
 by_cases b:i<n
 .have c:=k i b;rw[j,Nat.mul_one]at c;obtain⟨y,d⟩:∃y,xs[i]?=some y:=⟨xs[i]' B9,K6 _⟩;rw[d]at c;obtain⟨s,e1,e2,_⟩:=DataW.trod_string g c;have e3:=JV (λz=>z[i]?) hx.1;simp only[K9,d,Jm]at e3;have x:l[i]?=some (l[i]' B9):=K6 _;rw[x]at e3;simp only[Jm,Hs]at e3;rw[e2]at e3;simp only[DataW.lit.injEq,Lit.string.injEq]at e3;have q:l[i]' B9=s:=by
   have:(l[i]' B9).data=s.data:=Array.ext' e3;cases hs:l[i]' B9;cases s;rw[hs]at this;simp_all
  rw[K9,x,Jm,q];have:=JV (λz=>z[0]?) e1;simpa using this
 .rw[Ll B9,Ll Ar]
def qQ{W:World}{fuel i f0:Nat}{cs:U Value}{x:U (DataW (U UInt8))}{p:U MemPlace}{b:UInt8}{r:U UInt8}{rest:U (DataW (U UInt8))}(hp:x[i]?=some (.agg (.held (b::r)::rest)))(A:i<8)(c:((List.range Tryz.prog.funcs.size).filter λf=>(Tryz.prog.funcs[f]?).any (·.name.toUTF8.data.toList==b::r))=[f0])(h:DataW.trod (funcToken Tryz.prog) Tryz.prog W 0 (λ_=>true) true fuel 159 cs=some (.agg x,p)):cs.length=24/\cs[3*i]?=some (.func (.func f0) #[] #[]):=by
 have d:Tryz.prog.underlying 159=some (.array 8 158):=Tryz.underlying159;have g:Tryz.prog.cellsOf 158=3:=by kernel_rfl
 have j:Tryz.prog.cellsOf 159=24:=by kernel_rfl
 have l:Tryz.prog.cellsOf 154=1:=by kernel_rfl
 obtain⟨xs,m,rfl,hx,t,C,o⟩:=DataW.trod_array d h;simp only[K7,DataW.agg.injEq]at hx;rw[j]at t;refine⟨t,?_⟩;have u:=o i A;obtain⟨y,v⟩:∃y,xs[i]?=some y:=⟨xs[i]' B9,K6 _⟩;rw[hx.1,K9,v,Jm,Hs]at hp;rw[v,g]at u;obtain⟨s,n,rfl,D,_,F,H⟩:=DataW.trod_struct Tryz.underlying158 u;have a:=JV Prod.fst D;rw[hp]at a;simp only[DataW.agg.injEq]at a;have w:=H 0 _ rfl;obtain⟨q,hq⟩:∃q,s[0]?=some (.held (b::r),q):=by
  cases s with
  |nil=>simp at a
  |cons z s=>simp only[Hx,List.cons.injEq]at a;exact⟨z.2,by rw[a.1];rfl⟩
 rw[hq]at w;have K:cs[3*i]?=some (cs[3*i]' B9):=K6 _;have e:((((cs.drop (i*3)).take 3).drop 0).take 1)=[cs[3*i]' B9]:=by
  refine Lf λk=>?_
  cases k with
  |zero=>simp[List.getElem?_take,L1,Nat.mul_comm i 3]
  |succ k=>rw[Ll (by simp only[JB];omega),Ll NP]
 have L:DataW.trod (funcToken Tryz.prog) Tryz.prog W 0 (λ_=>true) true n 154 [cs[3*i]' B9]=some (.held (b::r),q):=by
  rw[<-e,<-l];exact w
 rw[K,func_of_trod (f0:=f0) Tryz.underlying154 c L]
def H8{g:AV}:(l:U Z)->VL g (l.map G.str) (l.map .string)
 | []=>by simp[VL]
 |s::l=>by simp only[Hx,VL];exact⟨_,_,rfl,by simp[ac],H8 l⟩
def to{S:Nm->Prop}:(l:U Z)->hH S (l.map G.str)
 | []=>by simp[hH]
 |s::l=>by simp only[Hx,hH];exact⟨by simp[G.aM],to l⟩
abbrev qR:=Rows.translateStmtsRow.laid
def aaX{W:World}(h:laidMetH Tryz.prog qR W):Cn W 1=RQ.map .string:=by
 have y:=(laidMetH_iff.1 h).1;obtain⟨g,t,cs,fuel,p,x,z,a,hd⟩:=Lib.laidMet.reads y (n:= "schemalens/lexer.keywords") (d:=Rows.laid_schemalens_lexer_keywords) (Lk.2 ⟨by simp[qR,Rows.translateStmtsRow],rfl⟩);obtain rfl:=GZ ((show Tryz.prog.globalNamed "schemalens/lexer.keywords"=some 1 by kernel_rfl).symm.trans x);obtain rfl:=GZ ((show(Tryz.prog.globals[1]?).map (·.type)=some 344 by kernel_rfl).symm.trans z);rw[A6 x a];exact strs Tryz.underlying344 Tryz.underlying9 ZF ZF (show _=some (DataW.agg (RQ.map λs=>.lit (.string s.data.toList)),p)from hd)
def aaY{W:World}(h:laidMetH Tryz.prog qR W):Cn W 9=ZK.map .string:=by
 have y:=(laidMetH_iff.1 h).1;obtain⟨g,t,cs,fuel,p,x,z,a,hd⟩:=Lib.laidMet.reads y (n:= "schemalens/lexer.symbols") (d:=Rows.laid_schemalens_lexer_symbols) (Lk.2 ⟨by simp[qR,Rows.translateStmtsRow],rfl⟩);obtain rfl:=GZ ((show Tryz.prog.globalNamed "schemalens/lexer.symbols"=some 9 by kernel_rfl).symm.trans x);obtain rfl:=GZ ((show(Tryz.prog.globals[9]?).map (·.type)=some 475 by kernel_rfl).symm.trans z);rw[A6 x a];exact strs Tryz.underlying475 Tryz.underlying9 ZF ZF (show _=some (DataW.agg (ZK.map λs=>.lit (.string s.data.toList)),p)from hd)
def aaZ:U (DataW (U UInt8))->Prop:=λ_=>True
def kinds{W:World}(h:laidMetH Tryz.prog qR W):(Cn W 0).length=24/\∀i,i<8->(Cn W 0)[3*i]?=some (.func (.func (538+3*i)) #[] #[]):=by
 obtain⟨d,x⟩:∃d,(Rows.laid_schemalens_lens_kinds:DataW Unit)= .iface "func table" d:=⟨_,rfl⟩;obtain⟨g,t,cs,fuel,p,y,z,a,hd⟩:=h.funcs (n:= "schemalens/lens.kinds") (d:=d) (by rw[<-x];simp[qR,Rows.translateStmtsRow]);obtain rfl:=GZ ((show Tryz.prog.globalNamed "schemalens/lens.kinds"=some 0 by kernel_rfl).symm.trans y);obtain rfl:=GZ ((show(Tryz.prog.globals[0]?).map (·.type)=some 159 by kernel_rfl).symm.trans z);rw[A6 y a];unfold Rows.laid_schemalens_lens_kinds at x;injection x with _ x
 subst x;simp only[DataW.funcsOut,DataW.funcsOutAll]at hd;have f0:=qQ (i:=0) (f0:=538) rfl VQ ZF hd;have b:=qQ (i:=1) (f0:=541) rfl VQ ZF hd;have c:=qQ (i:=2) (f0:=544) rfl VQ ZF hd;have f3:=qQ (i:=3) (f0:=547) rfl VQ ZF hd;have e:=qQ (i:=4) (f0:=550) rfl VQ ZF hd;have f:=qQ (i:=5) (f0:=553) rfl VQ ZF hd;have j:=qQ (i:=6) (f0:=556) rfl VQ ZF hd;have k:=qQ (i:=7) (f0:=559) rfl VQ ZF hd;refine⟨f0.1,λi l=>?_⟩
 match i,l with
 |0,_=>exact f0.2
 |1,_=>exact b.2
 |2,_=>exact c.2
 |3,_=>exact f3.2
 |4,_=>exact e.2
 |5,_=>exact f.2
 |6,_=>exact j.2
 |7,_=>exact k.2
end
end Go.Ab

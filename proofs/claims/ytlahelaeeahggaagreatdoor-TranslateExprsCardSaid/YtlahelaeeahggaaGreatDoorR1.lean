/- The row and its card. -/
import Derived.LaidHandle
import Derived.LaidMore
import Derived.LaidSub
import Derived.Lib.LaidU8
import Derived.OpenShut
import Derived.Test.YtlahelaeeahggaaGreatDoorRows
import Derived.Test.YtlahelaeeahggaaGreatDoorA12
set_option linter.all false
open Go Go.RowKit Go.Proofs
namespace Go.Ab
section
open Go Go.RowKit Go.Proofs Go.Proofs.YtlahelaeeahggaaGreatDoor
def wl(W:World)(b:Nat):amx Value:=match W.heap[b]? with
 |some (.cells c _ _)=>c.toList
 |_=>[]
def uZ{W:World}{n:String}{g:Nat}{cs:Array Value}(hg:Tryz.prog.globalNamed n=some g)(h:W.var? Tryz.prog n=some cs):wl W g=cs.toList:=by
 unfold World.var? at h;rw[hg]at h;simp only[amD]at h;unfold wl;split at h
 ·rename_i e;rw[e];simp at h;rw[h]
 ·simp at h
def strs{H:Type}{ak:TypeId×Value->H}{P:Program}{w:World}{cj:Nat}{sp:Nat->amz}{held:amz}{fuel n:Nat}{t e:TypeId}{cs:amx Value}{l:amx amw}{p:amx MemPlace}(ht:P.underlying t=some (.array n e))(he:P.underlying e=some .string)(hc:P.cellsOf e=1)(hn:P.cellsOf t=n)
 (h:DataW.trod ak P w cj sp held fuel t cs=some (.agg (l.map λs=>.lit (.string s.data.toList)),p)):cs=l.map .string:=by
 obtain⟨xs,m,rfl,hx,hl,hxl,hi⟩:=DataW.trod_array ht h;simp only[ank,DataW.agg.injEq]at hx;have hll:l.length=n:=by have:=anB List.length hx.1;simpa[hxl]using this
 refine anZ λi=>?_
 by_cases hin:i<n
 ·have h1:=hi i hin;rw[hc,Nat.mul_one]at h1;obtain⟨y,hy⟩:∃y,xs[i]?=some y:=⟨xs[i]'(by omega),anG _⟩;rw[hy]at h1;obtain⟨s,e1,e2,_⟩:=DataW.trod_string he h1;have e3:=anB (λz=>z[i]?) hx.1;simp only[anK,hy,ang]at e3;have hli:l[i]?=some (l[i]'(by omega)):=anG _;rw[hli]at e3;simp only[ang,amT]at e3;rw[e2]at e3;simp only[DataW.lit.injEq,Lit.string.injEq]at e3;have es:l[i]'(by omega)=s:=by
   have:(l[i]'(by omega)).data=s.data:=Array.ext' e3;cases hs:l[i]'(by omega);cases s;rw[hs]at this;simp_all
  rw[anK,hli,ang,es];have:=anB (λz=>z[0]?) e1;simpa using this
 ·rw[an9 (by omega),an9 (by simp;omega)]
def nw{W:World}{fuel i f0:Nat}{cs:amx Value}{acp:amx (DataW (amx UInt8))}{p:amx MemPlace}{b:UInt8}{r:amx UInt8}{rest:amx (DataW (amx UInt8))}(hp:acp[i]?=some (.agg (.held (b::r)::rest)))(hi:i<8)
 (afj:((List.range Tryz.prog.funcs.size).filter λf=>(Tryz.prog.funcs[f]?).any (·.name.toUTF8.data.toList==b::r))=[f0])
 (h:DataW.trod (funcToken Tryz.prog) Tryz.prog W 0 (λ_=>true) true fuel 207 cs=some (.agg acp,p)):cs.length=24/\cs[3*i]?=some (.func (.func f0) #[] #[]):=by
 have aii:Tryz.prog.underlying 207=some (.array 8 206):=Tryz.underlying207;have aij:Tryz.prog.cellsOf 206=3:=by kernel_rfl
 have aik:Tryz.prog.cellsOf 207=24:=by kernel_rfl
 have ail:Tryz.prog.cellsOf 202=1:=by kernel_rfl
 obtain⟨xs,m,rfl,hx,hl,hxl,hel⟩:=DataW.trod_array aii h;simp only[ank,DataW.agg.injEq]at hx;rw[aik]at hl;refine⟨hl,?_⟩;have h1:=hel i hi;obtain⟨y,hy⟩:∃y,xs[i]?=some y:=⟨xs[i]'(by omega),anG _⟩;rw[hx.1,anK,hy,ang,amT]at hp;rw[hy,aij]at h1;obtain⟨zs,n,rfl,hz,_,hzl,hf⟩:=DataW.trod_struct Tryz.underlying206 h1;have hz1:=anB Prod.fst hz;rw[hp]at hz1;simp only[DataW.agg.injEq]at hz1;have h2:=hf 0 _ rfl;obtain⟨q,hq⟩:∃q,zs[0]?=some (.held (b::r),q):=by
  cases zs with
  |nil=>simp at hz1
  |cons z zs=>simp only[amV,List.cons.injEq]at hz1;exact⟨z.2,by rw[hz1.1];rfl⟩
 rw[hq]at h2;have hv:cs[3*i]?=some (cs[3*i]'(by omega)):=anG _;have e:((((cs.drop (i*3)).take 3).drop 0).take 1)=[cs[3*i]'(by omega)]:=by
  refine anZ λk=>?_
  cases k with
  |zero=>simp[List.getElem?_take,an7,Nat.mul_comm i 3]
  |succ k=>rw[an9 (by simp only[ant];omega),an9 (by simp)]
 have h3:DataW.trod (funcToken Tryz.prog) Tryz.prog W 0 (λ_=>true) true n 202 [cs[3*i]'(by omega)]=some (.held (b::r),q):=by
  rw[<-e,<-ail];exact h2
 rw[hv,func_of_trod (f0:=f0) Tryz.underlying202 afj h3]
end
section
open Go Go.RowKit Go.Proofs Go.Proofs.YtlahelaeeahggaaGreatDoor
def Cx{g:G}:(l:amx amw)->VL g (l.map AV.an) (l.map .string)
 | []=>by simp[VL]
 |s::l=>by simp only[amV,VL];exact⟨_,_,rfl,by simp[V],Cx l⟩
def oU{S:Nm->Prop}:(l:amx amw)->AV.bP S (l.map AV.an)
 | []=>by simp[AV.bP]
 |s::l=>by simp only[amV,AV.bP];exact⟨by simp[AV.under],oU l⟩
abbrev nA:=Rows.translateExprsRow.laid
def Uk{W:World}(h:laidMetH Tryz.prog nA W):wl W 1=Ll.map .string:=by
 have h1:=(laidMetH_iff.1 h).1;obtain⟨g,t,cs,fuel,p,hg,ht,hv,hd⟩:=Lib.laidMet.reads h1 (n:= "schemalens/lexer.keywords") (d:=Rows.laid_schemalens_lexer_keywords) (aot.2 ⟨by simp[nA,Rows.translateExprsRow],rfl⟩);obtain rfl:=am5 ((show Tryz.prog.globalNamed "schemalens/lexer.keywords"=some 1 by kernel_rfl).symm.trans hg);obtain rfl:=am5 ((show(Tryz.prog.globals[1]?).map (·.type)=some 335 by kernel_rfl).symm.trans ht);rw[uZ hg hv];exact strs Tryz.underlying335 Tryz.underlying9 (by kernel_rfl) (by kernel_rfl) (show _=some (DataW.agg (Ll.map λs=>.lit (.string s.data.toList)),p)from hd)
def Ul{W:World}(h:laidMetH Tryz.prog nA W):wl W 9=ST.map .string:=by
 have h1:=(laidMetH_iff.1 h).1;obtain⟨g,t,cs,fuel,p,hg,ht,hv,hd⟩:=Lib.laidMet.reads h1 (n:= "schemalens/lexer.symbols") (d:=Rows.laid_schemalens_lexer_symbols) (aot.2 ⟨by simp[nA,Rows.translateExprsRow],rfl⟩);obtain rfl:=am5 ((show Tryz.prog.globalNamed "schemalens/lexer.symbols"=some 9 by kernel_rfl).symm.trans hg);obtain rfl:=am5 ((show(Tryz.prog.globals[9]?).map (·.type)=some 474 by kernel_rfl).symm.trans ht);rw[uZ hg hv];exact strs Tryz.underlying474 Tryz.underlying9 (by kernel_rfl) (by kernel_rfl) (show _=some (DataW.agg (ST.map λs=>.lit (.string s.data.toList)),p)from hd)
def kinds{W:World}(h:laidMetH Tryz.prog nA W):(wl W 0).length=24/\∀i,i<8->(wl W 0)[3*i]?=some (.func (.func (526+3*i)) #[] #[]):=by
 obtain⟨d,hd0⟩:∃d,(Rows.laid_schemalens_lens_kinds:DataW Unit)= .iface "func table" d:=⟨_,rfl⟩;obtain⟨g,t,cs,fuel,p,hg,ht,hv,hd⟩:=h.funcs (n:= "schemalens/lens.kinds") (d:=d) (by rw[<-hd0];simp[nA,Rows.translateExprsRow]);obtain rfl:=am5 ((show Tryz.prog.globalNamed "schemalens/lens.kinds"=some 0 by kernel_rfl).symm.trans hg);obtain rfl:=am5 ((show(Tryz.prog.globals[0]?).map (·.type)=some 207 by kernel_rfl).symm.trans ht);rw[uZ hg hv];unfold Rows.laid_schemalens_lens_kinds at hd0;injection hd0 with _ hd0
 subst hd0;simp only[DataW.funcsOut,DataW.funcsOutAll]at hd;have f0:=nw (i:=0) (f0:=526) rfl (by decide) (by kernel_rfl) hd;have f1:=nw (i:=1) (f0:=529) rfl (by decide) (by kernel_rfl) hd;have f2:=nw (i:=2) (f0:=532) rfl (by decide) (by kernel_rfl) hd;have f3:=nw (i:=3) (f0:=535) rfl (by decide) (by kernel_rfl) hd;have f4:=nw (i:=4) (f0:=538) rfl (by decide) (by kernel_rfl) hd;have f5:=nw (i:=5) (f0:=541) rfl (by decide) (by kernel_rfl) hd;have f6:=nw (i:=6) (f0:=544) rfl (by decide) (by kernel_rfl) hd;have f7:=nw (i:=7) (f0:=547) rfl (by decide) (by kernel_rfl) hd;refine⟨f0.1,λi hi=>?_⟩
 match i,hi with
 |0,_=>exact f0.2
 |1,_=>exact f1.2
 |2,_=>exact f2.2
 |3,_=>exact f3.2
 |4,_=>exact f4.2
 |5,_=>exact f5.2
 |6,_=>exact f6.2
 |7,_=>exact f7.2
end
end Go.Ab

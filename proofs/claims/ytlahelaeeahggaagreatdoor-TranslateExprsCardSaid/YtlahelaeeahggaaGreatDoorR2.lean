/- The row and its card. -/
import Derived.ChangeSame
import Derived.ProofKit
import Derived.Test.YtlahelaeeahggaaGreatDoorR1
import Derived.Test.YtlahelaeeahggaaGreatDoorP6
set_option linter.all false
set_option maxHeartbeats 20000000
open Go Go.RowKit Go.Proofs
namespace Go.Ab
section
set_option maxRecDepth 100000
open Go Go.RowKit Go.Proofs Go.Proofs.YtlahelaeeahggaaGreatDoor Go.ChangeShapes Go.WideShapes Go.ChangeAt
def VLn{g:G}:VL g [] []:=by simp[VL]
def VLc{g:G}{x:AV}{v:Value}{xs:amx AV}{vs:amx Value}(h:V g x v)(k:VL g xs vs):VL g (x::xs) (v::vs):=by simp only[VL];exact⟨v,vs,rfl,h,k⟩
def gok{W:World}(h:laidMetH Tryz.prog nA W){g:G}(hf:g.fz=wl W):lJ g gE:=by
 intro k cs hk;unfold gE at hk;split at hk
 ·simp only[amT]at hk;subst hk;obtain⟨hl,hk⟩:=kinds h;rw[hf];refine⟨by simp[Uj,AV.bP,AV.under],wl W 0,?_,anf⟩;have k0:=hk 0 (by decide);have k1:=hk 1 (by decide);have k2:=hk 2 (by decide);have k3:=hk 3 (by decide);have k4:=hk 4 (by decide);have k5:=hk 5 (by decide);have k6:=hk 6 (by decide);have k7:=hk 7 (by decide);generalize wl W 0=l at*
  match l,hl with
  | [a0,a1,a2,a3,a4,a5,a6,a7,a8,a9,a10,a11,a12,a13,a14,a15,a16,a17,a18,a19,a20,a21,a22,a23],_=>
   simp at k0 k1 k2 k3 k4 k5 k6 k7;subst k0 k1 k2 k3 k4 k5 k6 k7;unfold Uj
   repeat' first|exact VLn|(refine VLc (by simp[V,VL]) ?_)
 ·simp only[amT]at hk;subst hk;exact⟨oU _,_,Cx Ll,by rw[hf,Uk h];exact anf⟩
 ·simp only[amT]at hk;subst hk;exact⟨oU _,_,Cx ST,by rw[hf,Ul h];exact anf⟩
 ·simp at hk
def KM{g:G}:(zs:amx Int)->VE g 1 (zs.map (AV.int .i64)) (zs.map (Value.int .i64))
 | []=>by simp[VE]
 |z::zs=>by
  simp only[amV,VE];exact⟨.int .i64 z,_,by simp[Value.cells],⟨by simp[Value.cells],by simp[Value.cells,Value.oneCell']⟩,by simp[V],KM zs⟩
def pre{α:Type}{l m:amx α}(h:∀i,i<l.length->m[i]?=l[i]?):l<+:m:=by
 refine⟨m.drop l.length,anZ λi=>?_⟩;by_cases hi:i<l.length
 ·rw[an8 hi,h i hi]
 ·rw[List.getElem?_append_right (by omega),an7];congr 1;omega
def Ao{W:World}{p:Addr}{v:Value}(h:W.cell? p=some v):p.block<W.heap.size:=by
 unfold World.cell? at h;cases he:W.heap[p.block]? with
 |none=>simp[he]at h
 |some o=>exact(anD.1 he).1
def sH{H:Type}{ak:TypeId×Value->H}{W:World}{cj:Nat}{v:Value}{d:DataW H}{p:amx MemPlace}(hv:Value.okWide Tryz.prog W .any cj 22 v)
 (h:DataW.Trod ak Tryz.prog W 0 (λ_=>true) true 22 v d p) (hb:∀es sp,d= .slice es sp->(es.length+sp.length)*8<=reachBytes):∃zs:amx Int,zs.length<2 ^ 62/\(∀z∈zs,kj z)/\(∀g:G,g.fz=wl W->V g (.sl 1 .no (zs.map (AV.int .i64))) v)/\
  ∀W',Below W.heap.size W W'->∀sp:Nat->amz,(∀x∈p,sp x.block=true)->DataW.Trod ak Tryz.prog W' 0 sp true 22 v d p:=by
 have hc:Tryz.prog.cellsOf 3=1:=by kernel_rfl
 obtain⟨a0,afv,afw,rfl⟩:=okWide_slice Tryz.underlying22 hv;obtain⟨fuel,hf⟩:=h;rcases open_ints Tryz.underlying22 Tryz.underlying3 hc hf with⟨hcs,hx⟩|⟨a,len,cap,zs,hcs,_,hle,aiW,acJ,hx,cell,wf⟩
 ·simp[Value.cells]at hcs;obtain⟨rfl,rfl,rfl⟩:=hcs;simp only[ank]at hx;obtain⟨rfl,rfl⟩:=hx;refine⟨[],by simp,by simp,λg _=>?_,λW' _ sp _=>?_⟩
  ·simp only[aoO,V];exact⟨none,0,rfl,by simp,by simp,by simp,by simp,trivial⟩
  ·exact shut_slice_nil Tryz.underlying22
 ·simp[Value.cells]at hcs;obtain⟨rfl,rfl,rfl⟩:=hcs;simp only[ank]at hx;obtain⟨rfl,rfl⟩:=hx;have acv:a.spot=none:=by
   have:=hv;simp only[Value.okWide,Tryz.underlying22,Cell.okWide,Cell.ok,World.has]at this;exact this.2.2.2.1
  simp only[am0]at acJ;have ale:0<afw->a.block<W.heap.size:=λh=>by
   have:=cell 0 (by omega);exact Ao this
  refine⟨zs.take afv,?_,λz hz=>?_,λg hg=>?_,λW' hB sp hsp=>?_⟩
  ·have:=hb _ _ rfl;simp only[lits,amJ,ant,anR,reachBytes]at this |-;omega
  ·have:=wf z (anX hz);simp[Lit.wf,IntKind.min,IntKind.max,IntKind.signed,IntKind.bits]at this;exact⟨by omega,by omega⟩
  ·simp only[V];refine⟨some a,afw,by simp;omega,⟨by simp;omega,?_⟩,by simp,λ_=>⟨a.block,a.off,(zs.take afv).map (Value.int .i64),?_,KM _,pre λi hi=>?_⟩,by simpa using acv,trivial⟩
   ·have:=hb _ _ rfl;simp only[lits,amJ,ant,anR,reachBytes]at this |-;omega
   ·obtain⟨b,off,spot⟩:=a;simp only at acv;subst acv;rfl
   ·simp only[amJ,ant]at hi;have:=cell i (by omega);rw[hg,an7];obtain⟨b,off,spot⟩:=a;simp only at acv;subst acv;rw[add_plain]at this;unfold World.cell? at this;simp only[anK,List.getElem?_take];have hzi:zs[i]?=some (zs[i]'(by omega)):=anG _;rw[amH (by omega),hzi];unfold wl;cases he:W.heap[b]? with
    |none=>simp[he]at this
    |some o=>
     cases o with
     |cells c t fr=>simp[he]at this |-;rw[this];simp[List.getD,hzi]
     |_=>simp[he]at this
  ·have hz:zs.length=(if sp a.block then afw else afv):=by
    by_cases h0:afw=0
    ·have:afv=0:=by omega
     subst h0 this;split<;>omega
    ·have:=hsp (.cell a.block a.off) (MemPlace.mem_row.2 ⟨0,by omega,by simp⟩);simp only[MemPlace.block]at this;rw[this];simpa using acJ
   refine⟨0+2,?_⟩;have:=shut_ints (enc:=ak) (w:=W') (base:=0) (spare:=sp) (held:=true) 0 Tryz.underlying22 Tryz.underlying3 hc (anp _) hle aiW hz (λi hi=>by
    rw[hB.cell (Ao (cell i hi))];exact cell i hi) wf
   simpa[Value.cells]using this
def DT(H:Type)(ak:TypeId×Value->H)(W:World)(cj:Nat)(args:Array Value)(ds gs:amx (DataW H))(aem:amx MemPlace)
 (ad6:∀(j:Nat)t v,Tryz.f3.params[j]?=some t->args[j]?=some v->Value.okWide Tryz.prog W .any cj t v)
 (hW:DataW.Whole ak Tryz.prog Tryz.f3.params.toList Rows.translateExprsSpec.vars false W args.toList ds gs aem)
 (hsz:(DataW.weightsEach Tryz.prog (Tryz.f3.params.toList++(OpenSpec.ofChange Rows.translateExprsSpec).bare.plain.varTypes Tryz.prog) (ds++gs)).all (· <=reachBytes)=true) (hL:laidMetH Tryz.prog nA W):
 Calls Tryz.prog 3 args W λe W'=>∃v,e= .returned v/\Rows.translateExprsSpec.post ak Tryz.prog Tryz.f3 false true false false W args v W':=by
 have hW':=hW;obtain⟨p,q,hA0,hV,rfl,hfz,hnd⟩:=hW;have hA:DataW.TrodAll ak Tryz.prog W 0 (λ_=>true) true Tryz.f3.params.toList args.toList ds p:=hA0;rw[Tryz.params3]at hA ad6 hsz;obtain⟨v0,vs0,d0,ds0,p0,q0,ae2,rfl,rfl,h0,r0⟩:=trodAll_cons hA;obtain⟨v1,vs1,d1,ds1,p1,q1,rfl,rfl,rfl,h1,r1⟩:=trodAll_cons r0;obtain⟨v2,vs2,d2,ds2,p2,q2,rfl,rfl,rfl,h2,r2⟩:=trodAll_cons r1;obtain⟨v3,vs3,d3,ds3,p3,q3,rfl,rfl,rfl,h3,r3⟩:=trodAll_cons r2;obtain⟨v4,vs4,d4,ds4,p4,q4,rfl,rfl,rfl,h4,r4⟩:=trodAll_cons r3;obtain⟨rfl,rfl,rfl⟩:=trodAll_nil r4;obtain rfl:args=#[v0,v1,v2,v3,v4]:=by cases args;simp_all
 obtain⟨rfl,rfl⟩:=trodVars_none hV;have age:Tryz.prog.bytesOf 3=8:=by kernel_rfl
 have sz:∀(j:Nat){es sp:amx (DataW H)},([22,22,22,22,3]++(OpenSpec.ofChange Rows.translateExprsSpec).bare.plain.varTypes Tryz.prog)[j]?=some 22->([d0,d1,d2,d3,d4]++[])[j]?=some (.slice es sp)->(es.length+sp.length)*8<=reachBytes:=λj es sp ht hd=>by
  have:=sized_slice hsz (j:=j) ht hd Tryz.underlying22
  rwa [age]at this
 obtain⟨l,hl1,hl2,hl3,hl4⟩:=sH (ad6 0 22 v0 rfl rfl) h0 (λes sp e=>sz 0 rfl (by rw[e];rfl));obtain⟨m,hm1,hm2,hm3,hm4⟩:=sH (ad6 1 22 v1 rfl rfl) h1 (λes sp e=>sz 1 rfl (by rw[e];rfl));obtain⟨k,hk1,hk2,hk3,hk4⟩:=sH (ad6 2 22 v2 rfl rfl) h2 (λes sp e=>sz 2 rfl (by rw[e];rfl));obtain⟨q,hq1,hq2,hq3,hq4⟩:=sH (ad6 3 22 v3 rfl rfl) h3 (λes sp e=>sz 3 rfl (by rw[e];rfl));obtain⟨n,rfl,rfl,rfl,hwf⟩:=open_int Tryz.underlying3 (ad6 4 3 v4 rfl rfl) h4;have C:=(t3 (L3 (np:=n) hl1 hl2 hm2 hk2 hq2)).2
 let g:G:=⟨W.heap.size,W,wl W,λ_=>False,λ_=>0,λ_=>⟨none,0,0⟩⟩
 have hg:g.fz=wl W:=rfl;have hrel:eW g W (aM ([]++[])) Hp.empty:=by
  have he:bz (aM ([]++[])) Hp.empty=Hp.empty:=by funext j;simp[bz,aM,Hp.empty]
  refine⟨?_,λj=>.inl (by simp[aM,Hp.empty])⟩;rw[he];refine⟨λj=>by simp[g,Hp.empty],Below.refl _ _,amW _,λb hb=>?_,λj o h=>by simp[Hp.empty]at h,λj o b h=>by simp[Hp.empty]at h,λi j o p b h=>by simp[Hp.empty]at h⟩;simp only[g,wl]at hb |-;cases he:W.heap[b]? with
  |none=>simp[he]at hb
  |some o=>
   cases o with
   |cells c t fr=>exact⟨c,t,fr,rfl,anf⟩
   |_=>simp[he]at hb
 have:=C g Hp.empty W #[v0,v1,v2,v3,.int .i64 n] (λj h=>by simp[Hp.empty]at h) hrel (gok hL hg) (by
  simp only[VL];exact⟨_,_,rfl,hl3 g hg,_,_,rfl,hm3 g hg,_,_,rfl,hk3 g hg,_,_,rfl,hq3 g hg,_,_,rfl,by simp[V],rfl⟩)
 refine this.mono λe W'⟨v,g',x,hp',he,hle,hr,hv,hx⟩=>?_
 obtain⟨hx,_⟩:=hx;subst hx;simp only[V]at hv;subst hv;have hB:Below W.heap.size W W':=by have:=hr.rel.hU;rwa [hle.cj,hle.w0]at this
 have hold:∀x∈p0++(p1++(p2++(p3++([]++[]))))++[],(λb=>decide (b<W.heap.size)) x.block=true:=λx hx=>by simpa using hW'.lt x hx
 have hm:∀x,x∈p0\/x∈p1\/x∈p2\/x∈p3->(λb=>decide (b<W.heap.size)) x.block=true:=λx hx=>hold x (by rcases hx with h|h|h|h<;>simp[h])
 refine⟨_,he,_,_,_,[],p0++(p1++(p2++(p3++([]++[])))),[],hW',trodAll_cons_mk (shut_bool Tryz.underlying4 _) trodAll_mk0,?_,rfl,hB.frame _,λh=>by cases h⟩;exact trodAll_cons_mk (hl4 W' hB _ λx h=>hm x (.inl h)) (trodAll_cons_mk (hm4 W' hB _ λx h=>hm x (.inr (.inl h))) (trodAll_cons_mk (hk4 W' hB _ λx h=>hm x (.inr (.inr (.inl h)))) (trodAll_cons_mk (hq4 W' hB _ λx h=>hm x (.inr (.inr (.inr h)))) (trodAll_cons_mk (shut_int Tryz.underlying3 hwf) trodAll_mk0))))
end
end Go.Ab

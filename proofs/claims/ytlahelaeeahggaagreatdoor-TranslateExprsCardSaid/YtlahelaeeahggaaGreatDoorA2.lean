/- The logic of the walk. -/
import Derived.Laws.Strings
import Derived.Laws.Tables
import Derived.Tactics
import Derived.Test.YtlahelaeeahggaaGreatDoorA1
set_option linter.all false
open Go Go.RowKit
namespace Go.Ab
section
variable {P:Program}
def G.eU(g:G)(j:Nm)(t:TI):G:={g with dc:=λi=>i=j\/g.dc i,tl:=λi=>if i=j then t else g.tl i}
def G.sX(g:G){j:Nm}(t:TI)(hj:¬g.dc j):G.Le g (g.eU j t)where
 cj:=rfl
 w0:=rfl
 fz _:=anf
 dc _ h:=.inr h
 cg _ _:=rfl
 tl i hi:=by left;simp only[G.eU];rw[amL (λe=>hj (by rw[<-e];exact hi))]
def de.ij{g:G}{w:World}{hp:Hp}(r:de g w hp){j:Nm}(hj:hp j=none){sz:Nat}{xs:amx AV}{v:Value}(h:V g (.sl sz .eD xs) v):
 ∃g',G.Le g g'/\de g' w (cE hp j (.tail sz xs.length))/\V g' (.sl sz (.tail j) xs) v:=by
 have h':=h;simp only[V]at h;obtain⟨a,cap,rfl,h1,h0,h2,h3,h4⟩:=h;have hcap:cap=xs.length:=h4;subst hcap
 let t:TI:=⟨a,xs.length,xs.length⟩
 have hle:=G.sX g (j:=j) t (r.cu hj);have htn:(g.eU j t).tl j=t:=by simp[G.eU]
 refine⟨g.eU j t,hle,?_,?_⟩
 ·have hk:∀k p,cE hp j (.tail sz xs.length) k=some p->(k≠j/\hp k=some p)\/(k=j/\p= .tail sz xs.length):=by
   intro k p hk;by_cases e:k=j
   ·subst e;rw[aZ]at hk;simp at hk;exact .inr ⟨rfl,hk.symm⟩
   ·rw[aT _ _ e]at hk;exact .inl ⟨e,hk⟩
  have htl:∀k,k≠j->(g.eU j t).tl k=g.tl k:=by
   intro k hk;simp only[G.eU];rw[amL hk]
  have acs:∀k p,hp k=some p->k≠j->cX (g.eU j t) k p=cX g k p:=λk p hk hne=>fy p hle (r.cM hk) (htl k hne)
  have aeP:cX (g.eU j t) j (.tail sz xs.length)=none:=by
   simp[cX,htn,t]
  refine⟨λk=>?_,r.hU,r.size,r.fz,?_,?_,?_⟩
  ·by_cases e:k=j
   ·subst e;simp[G.eU,cE]
   ·simp only[G.eU,aT _ _ e,e,false_or];exact r.dc k
  ·intro k p hkp;rcases hk k p hkp with⟨hne,hp'⟩|⟨rfl,rfl⟩
   ·exact(r.eP k p hp').kR hle (r.cM hp') (htl k hne) λb _=>⟨rfl,rfl⟩
   ·exact⟨by rw[htn],by rw[htn];exact amW _,by rw[htn];intro h;simp[t]at h⟩
  ·intro k p b hkp hb;rcases hk k p hkp with⟨hne,hp'⟩|⟨rfl,rfl⟩
   ·rw[acs k p hp' hne]at hb;exact r.dI k p b hp' hb
   ·rw[aeP]at hb;simp at hb
  ·intro k l p q b hkp hlq hb hb';rcases hk k p hkp with⟨hne,hp'⟩|⟨rfl,rfl⟩
   ·rcases hk l q hlq with⟨hne',hq'⟩|⟨rfl,rfl⟩
    ·rw[acs k p hp' hne]at hb;rw[acs l q hq' hne']at hb';exact r.hX k l p q b hp' hq' hb hb'
    ·rw[aeP]at hb';simp at hb'
   ·rw[aeP]at hb;simp at hb
 ·have:=V.mono hle _ _ h';simp only[V]at this |-;obtain⟨a',cap',e,k1,k0,k2,k3,_⟩:=this;simp at e;obtain⟨rfl,rfl⟩:=e;refine⟨a,xs.length,rfl,k1,k0,k2,k3,?_,?_,λ_=>?_⟩
  ·simp[G.eU]
  ·rw[htn];exact amW _
  ·rw[htn];exact⟨rfl,rfl⟩
def bk.under(S:Nm->Prop):bk->Prop
 |.cells cs=>AV.bP S cs
 |.map es=>∀x∈es,x.1.under S/\x.2.under S
 |.ot _ _=>True
 |.sJ i=>S i
 |.br _ xs=>AV.bP S xs
 |.tail _ _=>True
def cv.cut{g:G}{m:Nm->Prop}:(xs:amx (AV×AV))->(es:amx MapEntry)->cv g xs es->(∀x∈xs,x.1.under m/\x.2.under m)->cv (g.cut m) xs es
 | [],es,e,_=>e
 |x::xs,es,e,u=>by
  simp only[cv]at e |-;obtain⟨y,rest,rfl,h1,h2,h3⟩:=e;have:=u x (by simp);exact⟨y,rest,rfl,V.cut _ _ h1 this.1,V.cut _ _ h2 this.2,cv.cut xs rest h3 (λz hz=>u z (by simp[hz]))⟩
def cv.under{g:G}:(xs:amx (AV×AV))->(es:amx MapEntry)->cv g xs es->∀x∈xs,x.1.under g.dc/\x.2.under g.dc
 | [],es,e=>by simp
 |x::xs,es,e=>by
  simp only[cv]at e;obtain⟨y,rest,rfl,h1,h2,h3⟩:=e;intro z hz;rcases amE.1 hz with rfl|hz
  ·exact⟨V.under _ _ h1,V.under _ _ h2⟩
  ·exact cv.under xs rest h3 z hz
def dH.under{g:G}{w:World}{j:Nm}{o:bk}(h:dH g w j o):o.under g.dc:=by
 cases o with
 |cells cs=>obtain⟨vs,_,_,hv,_⟩:=h;exact VL.under _ _ hv
 |map es=>obtain⟨acz,_,he,_⟩:=h;exact cv.under _ _ he
 |tail=>trivial
 |ot=>trivial
 |sJ i=>exact h.1
 |br sz xs=>
  cases xs with
  |nil=>simp only[bk.under,AV.bP]
  |cons x xs=>obtain⟨vs,_,_,hv,_⟩:=h (by simp);exact VE.under _ _ _ hv
def At(hp' hp:Hp):Prop:=∀j o,hp' j=some o->hp j=some o
def de.cut{g:G}{w:World}{hp hp':Hp}(r:de g w hp)(hs:At hp' hp)(hu:∀j o,hp' j=some o->o.under (λi=>(hp' i).isSome=true)):
 de (g.cut (λi=>(hp' i).isSome=true)) w hp':=by
 have acs:∀k p,cX (g.cut (λi=>(hp' i).isSome=true)) k p=cX g k p:=λk p=>by cases p<;>rfl
 refine⟨λj=>Iff.rfl,r.hU,r.size,r.fz,?_,?_,?_⟩
 ·intro k p h;have ho:=r.eP k p (hs k p h);have hun:=hu k p h;cases p with
  |cells cs=>
   obtain⟨vs,rest,elem,e1,e2,e3⟩:=ho;exact⟨vs,rest,elem,VL.cut _ _ e1 hun,e2,e3⟩
  |map es=>
   obtain⟨acz,acC,e1,e2,e3⟩:=ho;exact⟨acz,acC,cv.cut _ _ e1 hun,e2,e3⟩
  |tail sz n=>exact ho
  |ot s pos=>exact ho
  |sJ i=>exact⟨hun,ho.2⟩
  |br sz xs=>
   intro hne;obtain⟨vs,rest,elem,e1,e2,e3⟩:=ho hne;exact⟨vs,rest,elem,VE.cut _ _ _ e1 hun,e2,e3⟩
 ·intro k p b h hb;rw[acs]at hb;exact r.dI k p b (hs k p h) hb
 ·intro k l p q b h h' hb hb';rw[acs]at hb hb';exact r.hX k l p q b (hs k p h) (hs l q h') hb hb'
def G.Le.cut{g h:G}(l:G.Le g h){S:Nm->Prop}(h1:∀j,g.dc j->S j):G.Le g (h.cut S)where
 cj:=l.cj
 w0:=l.w0
 fz:=l.fz
 dc:=h1
 cg:=l.cg
 tl:=l.tl
mutual
inductive Sub:AV->AV->Prop
 |refl (x:AV):Sub x x
 |any (x:AV):Sub x .any
 |sl {sz:Nat} {tok ads:iA} {xs ys:List AV}:bC xs ys->(tok=ads\/ads= .no)->Sub (.sl sz tok xs) (.sl sz ads ys)
 |nil {sz sz':Nat} {tok ads:iA}:(tok=ads\/ads= .no)->Sub (.sl sz tok []) (.sl sz' ads [])
 |agg {cs ds:List AV}:bC cs ds->Sub (.agg cs) (.agg ds)
 |bR {cs ds:List AV}:bC cs ds->Sub (.bR cs) (.bR ds)
 |aQ {cs ds:List AV} {off:Nat}:bC cs ds->Sub (.aQ cs off) (.aQ ds off)
inductive bC:List AV->List AV->Prop
 |refl (xs:List AV):bC xs xs
 |cons {x y:AV} {xs ys:List AV}:Sub x y->bC xs ys->bC (x::xs) (y::ys)
end
def dw.sY{g:G}{n:Nat}{a:amy Addr}{cap:Nat}{tok ads:iA}(h:dw g n a cap tok)(e:tok=ads\/ads= .no):dw g n a cap ads:=by
 rcases e with rfl|rfl
 ·exact h
 ·trivial
theorem bC.length{xs ys:amx AV}(h:bC xs ys):xs.length=ys.length:=by
 induction xs generalizing ys with
 |nil=>cases h;rfl
 |cons x xs ih=>cases h with
  |refl=>rfl
  |cons _ h=>simp[ih h]
mutual
theorem V.sub {g:G}:{x y:AV}->Sub x y->(v:Value)->V g x v->V g y v
 |_,_,.refl _,v,h=>h
 |_,_,.any _,v,h=>by simp only[V]
 |_,_,.sl s t,v,h=>by
  simp only[V]at h |-;obtain⟨a,cap,rfl,h1,h0,h2,h3,h4⟩:=h;have hl:=s.length;refine⟨a,cap,by rw[hl],by rw[<-hl];exact h1,h0,λhne=>?_,h3,by rw[<-hl];exact h4.sY t⟩;obtain⟨b,off,vals,rfl,hv,hp⟩:=h2 (by intro e;rw[e]at hl;simp at hl;exact hne (anu hl.symm));exact⟨b,off,vals,rfl,VE.sub s _ _ hv,hp⟩
 |_,_,.nil t,v,h=>by
  simp only[V]at h |-;obtain⟨a,cap,rfl,h1,h0,h2,h3,h4⟩:=h;exact⟨a,cap,rfl,h1,h0,λhne=>absurd rfl hne,h3,h4.sY t⟩
 |_,_,.agg s,v,h=>by
  simp only[V]at h |-;obtain⟨a,rfl,h1⟩:=h;exact⟨a,rfl,VL.sub s _ h1⟩
 |_,_,.bR s,v,h=>by
  simp only[V]at h |-;obtain⟨a,rfl,h1⟩:=h;exact⟨a,rfl,VL.sub s _ h1⟩
 |_,_,.aQ s,v,h=>by
  simp only[V]at h |-;obtain⟨b,o,vals,rfl,hv,hp⟩:=h;exact⟨b,o,vals,rfl,VL.sub s _ hv,hp⟩
theorem VL.sub {g:G}:{xs ys:amx AV}->bC xs ys->(vs:amx Value)->VL g xs vs->VL g ys vs
 |_,_,.refl _,vs,h=>h
 |_,_,.cons s t,vs,h=>by
  simp only[VL]at h |-;obtain⟨v,rest,rfl,h1,h2⟩:=h;exact⟨v,rest,rfl,V.sub s v h1,VL.sub t rest h2⟩
theorem VE.sub {g:G}:{xs ys:amx AV}->bC xs ys->(sz:Nat)->(vs:amx Value)->VE g sz xs vs->VE g sz ys vs
 |_,_,.refl _,sz,vs,h=>h
 |_,_,.cons s t,sz,vs,h=>by
  simp only[VE]at h |-;obtain⟨v,rest,rfl,h0,h1,h2⟩:=h;exact⟨v,rest,rfl,h0,V.sub s v h1,VE.sub t sz rest h2⟩
end
def bz(a b:Hp):Hp:=λj=>match a j with
 |some o=>some o
 |none=>b j
def fe(a b:Hp):Prop:=∀j,a j=none\/b j=none
theorem aH{a b:Hp}{j:Nm}{o:bk}(h:a j=some o):bz a b j=some o:=by simp[bz,h]
theorem bD{a b:Hp}{j:Nm}(h:a j=none):bz a b j=b j:=by simp[bz,h]
def bp{a b:Hp}{j:Nm}{o:bk}:cE (bz a b) j o=bz (cE a j o) b:=by
 funext i;by_cases e:i=j
 ·subst e;rw[aZ];rw[aH (aZ _ _ _)]
 grind [aT,bz]
theorem fe.cE{a b:Hp}(h:fe a b){j:Nm}{o:bk}(hj:b j=none):fe (cE a j o) b:=λi=>by
 by_cases e:i=j
 ·subst e;exact .inr hj
 ·rw[aT _ _ e];exact h i
def fe.fE{a b:Hp}(h:fe a b){j:Nm}{o p:bk}(hj:a j=some p):fe (Ab.cE a j o) b:=h.cE (by
 rcases h j with e|e
 ·rw[hj]at e;simp at e
 ·exact e)
def fe.none{a b:Hp}(h:fe a b){j:Nm}{p:bk}(hj:a j=some p):b j= .none:=by
 rcases h j with e|e
 ·rw[hj]at e;simp at e
 ·exact e
def bX{a b:Hp}{j:Nm}(h:a j=none)(k:b j=none):bz a b j=none:=by simp[bz,h,k]
def jE{a b c:Hp}:bz (bz a b) c=bz a (bz b c):=by
 funext j
 grind [bz]
theorem At.bz{a b:Hp}(c:Hp)(h:At a b)(hd:fe b c):At (bz a c) (bz b c):=λj o hj=>by
 cases ha:a j with
 |some p=>rw[aH ha]at hj;rw[<-hj];exact aH (h j p ha)
 |none=>
  rw[bD ha]at hj;cases hb:b j with
  |some q=>rcases hd j with e|e<;>simp_all
  |none=>rw[bD hb];exact hj
end
section
variable {P:Program}
abbrev Tm:=amx (Nat×AV)
abbrev GE:=Nat->amy (amx AV)
def lJ(g:G)(ge:GE):Prop:=∀k cs,ge k=some cs->AV.bP (λ_=>False) cs/\∃vals,VL g cs vals/\vals<+:g.fz k
def lJ.ou{S:Nm->Prop}{g h:G}{ge:GE}(l:G.kW S g h)(e:lJ g ge):lJ h ge:=λk cs hk=>by
 obtain⟨u,vals,h1,h2⟩:=e k cs hk;exact⟨u,vals,VL.sR ⟨l.cj,l.w0,l.fz,λ_ h=>h.elim,λ_ h=>h.elim,λ_ h=>h.elim⟩ h1 u,h2.trans (l.fz k)⟩
theorem lJ.mono{g h:G}{ge:GE}(l:G.Le g h)(e:lJ g ge):lJ h ge:=e.ou (l.some λ_=>False)
def lh(d:Nat):Nm->Prop:=λj=>j.1<d
def get:Tm->Nat->AV
 | [],_=>.any
 |(i,x)::r,t=>cond (Nat.beq i t) x (get r t)
theorem eV(i:Nat)(x:AV)(r:Tm)(t:Nat):get ((i,x)::r) t=if i=t then x else get r t:=by
 simp only[get];simp_all
def VT(g:G)(N:Nat)(tm:Tm)(tmps:Array Value):Prop:=tmps.size=N/\∀t,V g (get tm t) (tmps.getD t undef)
theorem VT.mono{g h:G}{N:Nat}{tm:Tm}{tmps:Array Value}(l:G.Le g h)(e:VT g N tm tmps):VT h N tm tmps:=⟨e.1,λt=>V.mono l _ _ (e.2 t)⟩
abbrev ff:=Exit->Tm->Hp->Prop
def Hp.in(hp:Hp)(F:Nm->Prop):Prop:=∀j,(hp j).isSome=true->F j
structure uC(d:Nat)(fr:Hp):Prop where
 aF:Hp.in fr (lh d)
 gT:∀j o,fr j=some o->o.under (lh d)
structure eW(g:G)(w:World)(hp fr:Hp):Prop where
 rel:de g w (bz hp fr)
 cw:fe hp fr
def pt(d:Nat)(g:G)(fr:Hp)(N:Nat)(Q:ff):Exit->Act->World->Prop:=λe a w=>
 ∃g' tm hp,G.kW (lh d) g g'/\eW g' w hp fr/\VT g' N tm a.tmps/\a.defers=[]/\Q e tm hp
def bB(P:Program)(ge:GE)(d N:Nat)(c:Code)(Q:ff)(tm:Tm)(hp:Hp):Prop:=∀g fr w a,uC d fr->eW g w hp fr->lJ g ge->VT g N tm a.tmps->a.defers=[]->c.wp P (pt d g fr N Q) a w
def pt.le{d:Nat}{g h:G}{fr:Hp}{N:Nat}{Q:ff}(l:G.kW (lh d) g h){e:Exit}{a:Act}{w:World}(x:pt d h fr N Q e a w):pt d g fr N Q e a w:=by
 obtain⟨g',tm,hp,h1,h2⟩:=x;exact⟨g',tm,hp,l.trans h1,h2⟩
section agB
variable {ge:GE}{d N:Nat}{Q:ff}{tm:Tm}{hp:Hp}
theorem bB.mono{c:Code}{Q':ff}(h:bB P ge d N c Q tm hp)(hq:∀e tm hp,Q e tm hp->Q' e tm hp):bB P ge d N c Q' tm hp:=λg fr w a f r k v dd=>anS (h g fr w a f r k v dd) λ_ _ _⟨g',tm,hp,h1,h2,h3,h4,h5⟩=>⟨g',tm,hp,h1,h2,h3,h4,hq _ _ _ h5⟩
def bB.skip(h:Q .normal tm hp):bB P ge d N .skip Q tm hp:=λg _ _ _ _ r _ v dd=>wp_skip ⟨g,tm,hp,G.kW.refl _ g,r,v,dd,h⟩
def bB.label{l:Nat}(h:Q .normal tm hp):bB P ge d N (.label l) Q tm hp:=λg _ _ _ _ r _ v dd=>wp_label ⟨g,tm,hp,G.kW.refl _ g,r,v,dd,h⟩
def bB.exit{id:Nat}(h:Q (.exit id) tm hp):bB P ge d N (.exit id) Q tm hp:=λg _ _ _ _ r _ v dd=>wp_exit ⟨g,tm,hp,G.kW.refl _ g,r,v,dd,h⟩
def bB.ret(h:Q .ret tm hp):bB P ge d N .ret Q tm hp:=λg _ _ _ _ r _ v dd=>wp_ret ⟨g,tm,hp,G.kW.refl _ g,r,v,dd,h⟩
def Ot(P:Program)(ge:GE)(d N:Nat)(y:Code)(Q:ff):ff:=λe tm hp=>match e with
 |.normal=>bB P ge d N y Q tm hp
 |e=>Q e tm hp
def bB.seq{x y:Code}(h:bB P ge d N x (Ot P ge d N y Q) tm hp):bB P ge d N (.seq x y) Q tm hp:=by
 intro g fr w a f r k v dd;refine wp_seq (anS (h g fr w a f r k v dd) λe a' w'⟨g',tm',hp',h1,h2,h3,h4,h5⟩=>?_);cases e with
 |normal=>exact anS (h5 g' fr w' a' f h2 (k.ou h1) h3 h4) λ_ _ _ x=>x.le h1
 |_=>exact⟨g',tm',hp',h1,h2,h3,h4,h5⟩
def iC(id:Nat)(Q:ff):ff:=λe tm hp=>match e with
 |.exit id'=>if id'=id then Q .normal tm hp else Q (.exit id') tm hp
 |e=>Q e tm hp
def bB.block{id:Nat}{c:Code}(h:bB P ge d N c (iC id Q) tm hp):bB P ge d N (.block id c) Q tm hp:=by
 intro g fr w a f r k v dd;refine wp_block (anS (h g fr w a f r k v dd) λe a' w'⟨g',tm',hp',h1,h2,h3,h4,h5⟩=>?_);cases e with
 |exit id'=>
  simp only[Exit.inBlock];simp only[iC]at h5;split
  ·rename_i e;rw[amH e]at h5;exact⟨g',tm',hp',h1,h2,h3,h4,h5⟩
  ·rename_i e;rw[amL e]at h5;exact⟨g',tm',hp',h1,h2,h3,h4,h5⟩
 |_=>exact⟨g',tm',hp',h1,h2,h3,h4,h5⟩
def pQ(I:Nat->Tm->Hp->Prop)(n:Nat)(Q:ff):ff:=λe tm hp=>match e with
 |.normal=>∃m,m<n/\I m tm hp
 |e=>Q e tm hp
def bB.loop{c:Code}(I:Nat->Tm->Hp->Prop)(n:Nat)(h0:I n tm hp)
 (round:∀n tm hp,I n tm hp->bB P ge d N c (pQ I n Q) tm hp):bB P ge d N (.loop c) Q tm hp:=by
 intro g fr w a f r k v dd
 let Inv:Nat->Act->World->Prop:=λn a w=>∃g' tm hp,G.kW (lh d) g g'/\eW g' w hp fr/\VT g' N tm a.tmps/\a.defers=[]/\I n tm hp
 have dec:∀p:Prop,Decidable p:=λp=>Classical.propDecidable p
 let μ:Act->World->Nat:=λa w=>if h:∃n,Inv n a w then Classical.choose (p:=λn=>Inv n a w/\∀m,Inv m a w->n<=m) (by
  have:∀n,Inv n a w->∃n,Inv n a w/\∀m,Inv m a w->n<=m:=by
   intro n
   induction n using Nat.strongRecOn with
   |_ n ih=>
    intro hn;by_cases hm:∃m,m<n/\Inv m a w
    ·obtain⟨m,hlt,hm⟩:=hm;exact ih m hlt hm
    ·exact⟨n,hn,λm hm'=>aoT λhlt=>hm ⟨m,hlt,hm'⟩⟩
  obtain⟨n,hn⟩:=h;exact this n hn)else 0
 have hμ:∀a w,(∃n,Inv n a w)->Inv (μ a w) a w/\∀m,Inv m a w->μ a w<=m:=by
  intro a w h;simp only[μ,dif_pos h];exact Classical.choose_spec (p:=λn=>Inv n a w/\∀m,Inv m a w->n<=m) _
 refine wp_loop (λa w=>∃n,Inv n a w) μ ⟨n,g,tm,hp,G.kW.refl _ g,r,v,dd,h0⟩ ?_;intro a w hI;obtain⟨⟨g',tm',hp',h1,h2,h3,h4,h5⟩,_⟩:=hμ a w hI;refine anS (round _ tm' hp' h5 g' fr w a f h2 (k.ou h1) h3 h4) λe a' w'⟨g2,tm2,hp2,k1,k2,k3,k4,k5⟩=>?_
 cases e with
 |normal=>
  obtain⟨m,hm,hIm⟩:=k5;have afQ:Inv m a' w':=⟨g2,tm2,hp2,h1.trans k1,k2,k3,k4,hIm⟩;exact⟨⟨m,afQ⟩,Nat.lt_of_le_of_lt ((hμ a' w' ⟨m,afQ⟩).2 m afQ) hm⟩
 |_=>exact⟨g2,tm2,hp2,h1.trans k1,k2,k3,k4,k5⟩
def bB.uD{c:Code}{tm':Tm}{hp':Hp}(h:bB P ge d N c Q tm' hp')
 (hw:∀g fr w tmps,uC d fr->eW g w hp fr->VT g N tm tmps->∃g',G.kW (lh d) g g'/\eW g' w hp' fr/\VT g' N tm' tmps):bB P ge d N c Q tm hp:=by
 intro g fr w a f r k v dd;obtain⟨g',h1,h2,h3⟩:=hw g fr w a.tmps f r v;exact anS (h g' fr w a f h2 (k.ou h1) h3 dd) λ_ _ _ x=>x.le h1
end agB
def dx(P:Program)(ge:GE)(d:Nat)(f:FuncId)(args:amx AV)(hp:Hp)(R:AV->Hp->Prop):Prop:=
 ∀g fr w vs,Hp.in fr (lh d)->eW g w hp fr->lJ g ge->VL g args vs.toList->
  Calls P f vs w λe w'=>∃v g' x hp',e= .returned v/\G.Le g g'/\eW g' w' hp' fr/\V g' x v/\R x hp'
end
section
variable {P:Program}
def put(tm:Tm)(d:amy Tmp)(x:AV):Tm:=
 match d with
 |none=>tm
 |some d=>(d,x)::tm
def gg:Value->AV
 |.bool b=>.bool b
 |.int k n=>.int k n
 |.string s=>.an s
 |.pointer none=>.dY
 |.slice none 0 0=>.sl 0 .eD []
 |.map none=>.dq
 |.nilFunc=>.cy
 |.nilIface=>.nilIface
 |_=>.any
def ow:Value->AV
 |.agg cs=>.agg (cs.toList.map gg)
 |.tuple cs=>if cs.size=0 then .bR []else .any
 |v=>gg v
def bH(ge:GE)(tm:Tm):Operand->AV
 |.tmp t=>get tm t
 |.const v=>ow v
 |.global k=>match ge k with
  |some cs=>.aQ cs 0
  |none=>.any
 |.func f=>.fn (.func f) [] []
def sZ(g:G)(v:Value):V g (gg v) v:=by
 unfold gg;split<;>simp only[V];exact⟨none,0,rfl,by simp,by simp,by simp,by simp,rfl⟩
def gM(g:G):(vs:amx Value)->VL g (vs.map gg) vs
 | []=>by simp[VL]
 |v::vs=>by simp only[amV,VL];exact⟨v,vs,rfl,sZ g v,gM g vs⟩
def nO(g:G)(v:Value):V g (ow v) v:=by
 unfold ow;split
 ·simp only[V];exact⟨_,rfl,gM g _⟩
 ·rename_i cs;split
  ·rename_i h;simp only[V];have:cs=#[]:=by simpa using h
   exact⟨cs,rfl,by simp[this,VL]⟩
  ·simp only[V]
 ·exact sZ g v
def VT.get{g:G}{N:Nat}{tm:Tm}{tmps:Array Value}(h:VT g N tm tmps)(t:Nat):V g (get tm t) (tmps.getD t undef):=h.2 t
def VT.bH{g:G}{N:Nat}{tm:Tm}{a:Act}{ge:GE}(h:VT g N tm a.tmps)(k:lJ g ge)(x:Operand):V g (bH ge tm x) (a.eval x):=by
 cases x with
 |tmp t=>exact h.get t
 |const v=>exact nO g v
 |global n=>
  simp only[Ab.bH];split
  ·rename_i cs hc;obtain⟨_,vals,h1,h2⟩:=k n cs hc;simp only[V,Act.eval];exact⟨n,0,vals,rfl,h1,by simpa using h2⟩
  ·simp only[V]
 |func f=>simp only[Ab.bH,V,Act.eval];exact⟨#[],#[],rfl,by simp[VL],by simp[VL]⟩
theorem VT.put{g:G}{N:Nat}{tm:Tm}{a:Act}{d:amy Tmp}{x:AV}{v:Value}(h:VT g N tm a.tmps)(hv:V g x v)(hd:∀k,d=some k->k<N):
 VT g N (put tm d x) (a.put d v).tmps:=by
 cases d with
 |none=>exact h
 |some d=>
  refine⟨by simpa[Act.put]using h.1,λt=>?_⟩;simp only[Ab.put,eV,Act.put];by_cases e:d=t
  ·subst e;rw[amH rfl,am1,aoz (by rw[h.1];exact hd d rfl)];exact hv
  ·rw[amL e,am1,aoA e,<-am1];exact h.2 t
def uE(g:G)(ge:GE)(tm:Tm)(o:Oper)(a:Act):Prop:=∀y∈o.op.operands,V g (bH ge tm y) (a.eval y)
def VT.BS{g:G}{N:Nat}{tm:Tm}{a:Act}{ge:GE}(h:VT g N tm a.tmps)(k:lJ g ge)(o:Oper):uE g ge tm o a:=λy _=>h.bH k y
def ep(P:Program)(ge:GE)(F:Nm->Prop)(o:Oper)(tm:Tm)(hp:Hp)(K:AV->Hp->Prop):Prop:=
 ∀g fr w a Q,Hp.in fr F->eW g w hp fr->lJ g ge->uE g ge tm o a->
  o.wp P a w (λa' w'=>∃v g' x hp',a'=a.put o.dst v/\G.Le g g'/\eW g' w' hp' fr/\V g' x v/\K x hp') Q
def gz(N:Nat)(d:amy Tmp):amz:=match d with|some d=>decide (d<N)|none=>true
def jF{N:Nat}{d:amy Tmp}(h:gz N d=true):∀k,d=some k->k<N:=by
 grind [gz]
def kE(g:G):V g (.bR []) undef:=by simp only[V];exact⟨#[],rfl,by simp[VL]⟩
end
section
variable {P:Program}{ge:GE}{F:Nm->Prop}{tm:Tm}{hp:Hp}{K:AV->Hp->Prop}{o:Oper}
def dy{fr:Hp}{j:Nm}(h:Hp.in fr F)(hj:¬F j):fr j=none:=by
 cases e:fr j with
 |none=>rfl
 |some o=>exact absurd (h j (by simp[e])) hj
def ep.value(h:∀(g:G)(fr:Hp)(w:World)(a:Act),Hp.in fr F->eW g w hp fr->lJ g ge->uE g ge tm o a->
 ∃v w' g' x hp',(execOp a.eval o).run P w= .ok (.value v) w'/\G.Le g g'/\eW g' w' hp' fr/\V g' x v/\K x hp'):ep P ge F o tm hp K:=by
 intro g fr w a Q f r k v;obtain⟨u,w',g',x,hp',e,h1,h2,h3,h4⟩:=h g fr w a f r k v;simp only[Oper.wp,e,Oper.upon];exact⟨u,g',x,hp',rfl,h1,h2,h3,h4⟩
def ep.skip(h:∀(g:G)(fr:Hp)(w:World)(a:Act),Hp.in fr F->eW g w hp fr->lJ g ge->uE g ge tm o a->
 ∃w' g' hp',(execOp a.eval o).run P w= .ok .skip w'/\G.Le g g'/\eW g' w' hp' fr/\K (.bR []) hp'):ep P ge F o tm hp K:=by
 intro g fr w a Q f r k v;obtain⟨w',g',hp',e,h1,h2,h4⟩:=h g fr w a f r k v;simp only[Oper.wp,e,Oper.upon];exact⟨undef,g',.bR [],hp',rfl,h1,h2,kE _,h4⟩
def Ev(P:Program)(ge:GE)(o:Oper)(tm:Tm)(S:Hp->Prop)(x:AV):Prop:=∀(g:G)(w:World)(a:Act)(hq:Hp),S hq->de g w hq->lJ g ge->uE g ge tm o a->∃v w' g',(execOp a.eval o).run P w= .ok (.value v) w'/\G.Le g g'/\de g' w' hq/\V g' x v
def Up(S:Hp->Prop):Prop:=∀hp hq,At hp hq->S hp->S hq
def Up.true:Up (λ_=>True):=λ_ _ _ _=>trivial
def Ev.still{S:Hp->Prop}{x:AV}(h:∀(g:G)(w:World)(a:Act)(hq:Hp),S hq->de g w hq->lJ g ge->uE g ge tm o a->∃v,(execOp a.eval o).run P w= .ok (.value v) w/\V g x v):Ev P ge o tm S x:=
 λg w a hq l r k v=>by
  grind [G.Le.refl]
def ep.ev{S:Hp->Prop}{x:AV}(e:Ev P ge o tm S x)(hu:Up S)(hl:S hp)(hk:K x hp):ep P ge F o tm hp K:=
 .value λg fr w a f r k v=>by
  obtain⟨u,w',g',h1,h2,h3,h4⟩:=e g w a _ (hu _ _ (λj o hj=>aH hj) hl) r.rel k v;exact⟨u,w',g',x,hp,h1,h2,⟨h3,r.cw⟩,h4,hk⟩
variable {S:Hp->Prop}
def Ev.move{x:Operand}(ho:o.op= .move x):Ev P ge o tm S (bH ge tm x):=.still (λg w a hq hl r k v=>⟨a.eval x,by simp[execOp,ho],v x (by simp[ho,Op.operands])⟩)
def Ev.assign{x:Operand}(ho:o.op= .assign x):Ev P ge o tm S (bH ge tm x):=.still (λg w a hq hl r k v=>⟨a.eval x,by simp[execOp,ho],v x (by simp[ho,Op.operands])⟩)
def Ev.pick{c x y:Operand}(ho:o.op= .pick c x y){t:amz}(hc:bH ge tm c= .bool t):Ev P ge o tm S (if t then bH ge tm x else bH ge tm y):=by
 refine .still (λg w a hq hl r k v=>⟨if t then a.eval x else a.eval y,?_,?_⟩)
 ·have:=v c (by simp[ho,Op.operands]);rw[hc]at this;simp only[V]at this;cases t<;>simp[execOp,ho,this,asBool]
 ·cases t
  ·exact v y (by simp[ho,Op.operands])
  ·exact v x (by simp[ho,Op.operands])
def eQ(P:Program)(hp:Hp)(t:TypeId):AV->amy AV
 |.ptr j off=>match hp j with
  |some (.cells cs)=>(fM P t).bind λag=>(cQ P t).bind λn=>cut ag n cs off
  |_=>none
 |.aQ (c::cs) off=>(fM P t).bind λag=>(cQ P t).bind λn=>cut ag n (c::cs) off
 |_=>none
def km{hp hq:Hp}(h:At hp hq){t:TypeId}{x y:AV}(hx:eQ P hp t x=some y):eQ P hq t x=some y:=by
 unfold eQ at hx |-;split at hx
 ·split at hx
  ·rename_i cs hj;simp only[h _ _ hj];exact hx
  ·simp at hx
 ·exact hx
 ·simp at hx
def Up.load{t:TypeId}{x y:AV}:Up (λhq=>eQ P hq t x=some y):=λ_ _ h e=>km h e
def Ev.load{t:TypeId}{x:Operand}{y:AV}(ho:o.op= .load t x):Ev P ge o tm (λhq=>eQ P hq t (bH ge tm x)=some y) y:=by
 refine .still (λg w a hq hx r k v=>?_);have hv:=v x (by simp[ho,Op.operands]);unfold eQ at hx;split at hx
 ·rename_i j off e;rw[e]at hv;simp only[V]at hv;split at hx
  ·rename_i cs hj;cases ha:fM P t with
   |none=>simp[ha]at hx
   |some ag=>
    cases hn:cQ P t with
    |none=>simp[ha,hn]at hx
    |some n=>
     simp[ha,hn]at hx;obtain⟨u,h1,h2⟩:=r.sS ha hn hj hx;exact⟨u,by simp[execOp,ho,Instr.loadAt,hv.2,Instr.sureAddr,h1],h2⟩
  ·simp at hx
 ·rename_i c cs off e;rw[e]at hv;cases ha:fM P t with
  |none=>simp[ha]at hx
  |some ag=>
   cases hn:cQ P t with
   |none=>simp[ha,hn]at hx
   |some n=>
    simp[ha,hn]at hx;obtain⟨q,u,h0,h1,h2⟩:=r.ne ha hn hv hx (by simp);exact⟨u,by simp[execOp,ho,Instr.loadAt,h0,Instr.sureAddr,h1],h2⟩
 ·simp at hx
def ep.store{t:TypeId}{x y:Operand}{j:Nm}{off n:Nat}{cs:amx AV}(ho:o.op= .store t x y)(hx:bH ge tm x= .ptr j off)(hj:hp j=some (.cells cs))
 (hn:cQ P t=some n) (hs:(bH ge tm y).cells.all AV.dV=true) (hl:(bH ge tm y).cells.length=n) (hle:off+n<=cs.length)
 (hk:K (.bR []) (cE hp j (.cells (eH cs off (bH ge tm y).cells)))):ep P ge F o tm hp K:=by
 refine .skip λg fr w a f r k v=>?_
 have hv:=v x (by simp[ho,Op.operands]);rw[hx]at hv;simp only[V]at hv;obtain⟨w',h1,h2⟩:=r.rel.As hn (aH hj) (v y (by simp[ho,Op.operands])) hs hl hle;rw[bp]at h2;exact⟨w',g,_,by simp[execOp,ho,Instr.storeAt,hv.2,Instr.sureAddr,h1],G.Le.refl g,⟨h2,r.cw.fE hj⟩,hk⟩
def li(t:TypeId)(v:Value)(w:World):(newVar t v).run P w= .ok ⟨w.heap.size,0,none⟩ (w.alloc (.cells v.cells t)):=rfl
def ep.box{t:TypeId}{x:Operand}(j:Nm)(ho:o.op= .box t x)(hj:hp j=none)(hF:¬F j)(hs:(bH ge tm x).cells.all AV.dV=true)
 (hk:K (.ptr j 0) (cE hp j (.cells (bH ge tm x).cells))):ep P ge F o tm hp K:=by
 refine .value λg fr w a f r k v=>?_
 have hv:=(v x (by simp[ho,Op.operands])).cells hs;have hfr:=dy f hF;have hjn:=bX hj hfr;refine⟨.pointer (some ⟨w.heap.size,0,none⟩),w.alloc (.cells (a.eval x).cells t),g.push j w.heap.size,_,_,?_,G.dA g _ (r.rel.cu hjn),⟨bp▸r.rel.lg hjn _ _ t hv r.rel.hZ,r.cw.cE hfr⟩,?_,hk⟩
 ·simp[execOp,ho,Instr.box,li]
 ·simp[V,G.push]
def ia(P:Program)(t:TypeId):amy (amx AV):=((P.info? t).bind (·.zero)).map λv=>v.cells.toList.map gg
def gX{t:TypeId}{cs:amx AV}(h:ia P t=some cs)(w:World):∃v,(zeroValue t).run P w= .ok v w/\cs=v.cells.toList.map gg:=by
 unfold ia at h;cases hi:P.info? t with
 |none=>simp[hi]at h
 |some i=>
  cases hz:i.zero with
  |none=>simp[hi,hz]at h
  |some v=>
   simp[hi,hz]at h;exact⟨v,by simp[zeroValue,typeInfo,hi,hz],by simp[<-h]⟩
def ep.alloc{t:TypeId}{cs:amx AV}(j:Nm)(ho:o.op= .alloc t)(hj:hp j=none)(hF:¬F j)(hz:ia P t=some cs)(hk:K (.ptr j 0) (cE hp j (.cells cs))):ep P ge F o tm hp K:=by
 refine .value λg fr w a f r k v=>?_
 obtain⟨z,h1,rfl⟩:=gX hz w;have hfr:=dy f hF;have hjn:=bX hj hfr;refine⟨.pointer (some ⟨w.heap.size,0,none⟩),w.alloc (.cells z.cells t),g.push j w.heap.size,_,_,?_,G.dA g _ (r.rel.cu hjn),⟨bp▸r.rel.lg hjn _ _ t (gM g _) r.rel.hZ,r.cw.cE hfr⟩,?_,hk⟩
 ·simp[execOp,ho,Instr.alloc,h1,li]
 ·simp[V,G.push]
end
section
variable {P:Program}{ge:GE}{F:Nm->Prop}{S:Hp->Prop}{tm:Tm}{hp:Hp}{K:AV->Hp->Prop}{o:Oper}
def iO(P:Program)(s:TypeId)(f:Nat):amy (Nat×TypeId):=
 match P.underlying s with
 |some (.struct fs)=>(fs[f]?).map λx=>(x.offset,x.type)
 |_=>none
def lQ{s:TypeId}{f off:Nat}{t:TypeId}(h:iO P s f=some (off,t)):
 ∃fs x,P.underlying s=some (.struct fs)/\fs[f]?=some x/\x.offset=off/\x.type=t:=by
 unfold iO at h;split at h
 ·rename_i fs e
  grind
 ·simp at h
def AV.mK(n:Nat):AV->amy AV
 |.ptr j off=>some (.ptr j (off+n))
 |.aQ cs off=>some (.aQ cs (off+n))
 |_=>none
def V.mK{g:G}{x y:AV}{n:Nat}{v:Value}(h:V g x v)(e:x.mK n=some y):∃b o,v= .pointer (some ⟨b,o,none⟩)/\V g y (.pointer (some ⟨b,o+n,none⟩)):=by
 cases x<;>simp[AV.mK]at e
 ·subst e;simp only[V]at h |-;exact⟨_,_,h.2,h.1,rfl⟩
 ·subst e;simp only[V]at h |-;obtain⟨b,o,vals,rfl,h1,h2⟩:=h;exact⟨b,_,rfl,b,o,vals,by simp[aoj],h1,h2⟩
def Ev.fieldAddr{s:TypeId}{x:Operand}{f off n:Nat}{t:TypeId}{y:AV}(ho:o.op= .fieldAddr s x f)(hf:iO P s f=some (off,t))(hn:cQ P t=some (n+1))
 (hy:(bH ge tm x).mK off=some y):Ev P ge o tm S y:=by
 refine .still (λg w a _ _ r k v=>?_);obtain⟨fs,fx,h1,h2,h3,h4⟩:=lQ hf;obtain⟨b,q,h5,h6⟩:=(v x (by simp[ho,Op.operands])).mK hy;refine⟨_,?_,h6⟩;have hsz:=dt (P:=P) hn w;simp only[execOp,ho,Instr.fieldAt,amM,amI h1,amN,h2,h5,Instr.sureAddr,am2,fieldPlace,h4,hsz,Nat.add_one_ne_zero,anj,h3,am8]
def Ev.field{s:TypeId}{x:Operand}{f off n:Nat}{t:TypeId}{ag:amz}{cs:amx AV}{y:AV}(ho:o.op= .field s x f)(hf:iO P s f=some (off,t))(hn:cQ P t=some n)(ha:fM P t=some ag)
 (hx:bH ge tm x= .agg cs) (hy:cut ag n cs off=some y):Ev P ge o tm S y:=by
 refine .still (λg w a _ _ r k v=>?_);obtain⟨fs,fx,h1,h2,h3,h4⟩:=lQ hf;have hv:=v x (by simp[ho,Op.operands]);rw[hx]at hv;simp only[V]at hv;obtain⟨br,e,hl⟩:=hv;have hag:=jh (P:=P) ha w;have hsz:=dt (P:=P) hn w;have hlen:=VL.length _ _ hl;simp only[execOp,ho,Instr.field,amM,amI h1,amN,h2,e,asAgg,am2,part,h3,h4,hag];cases ag with
 |true=>
  simp only[cut,am0]at hy;split at hy
  ·simp at hy;subst hy;refine⟨.agg (br.extract off (off+n)),?_,?_⟩
   ·simp[hsz]
   ·simp only[V];refine⟨_,rfl,?_⟩;have:(br.extract off (off+n)).toList=(br.toList.drop off).take n:=by
     simp[Array.toList_extract]
    rw[this];exact VL.take n _ _ (VL.drop off _ _ hl)
  ·simp at hy
 |false=>
  simp only[cut,anY,anj]at hy;obtain⟨u,h5,h6⟩:=VL.get _ _ hl off y hy;refine⟨u,?_,h6⟩;have h5':br[off]?=some u:=by rw[<-h5];simp
  simp[h5']
def Ev.extract{x:Operand}{i:Nat}{cs:amx AV}{y:AV}(ho:o.op= .extract x i)(hx:bH ge tm x= .bR cs)(hy:cs[i]?=some y):Ev P ge o tm S y:=by
 refine .still (λg w a _ _ r k v=>?_);have hv:=v x (by simp[ho,Op.operands]);rw[hx]at hv;simp only[V]at hv;obtain⟨br,e,hl⟩:=hv;obtain⟨u,h5,h6⟩:=VL.get _ _ hl i y hy;refine⟨u,?_,h6⟩;have h5':br[i]?=some u:=by rw[<-h5];simp
 simp[execOp,ho,Instr.extract,e,h5']
def vT{g:G}{f:Operand->AV}{h:Operand->Value}:(l:amx Operand)->(∀x∈l,V g (f x) (h x))->VL g (l.map f) (l.map h)
 | [],_=>by simp[VL]
 |x::l,hv=>by simp only[amV,VL];exact⟨_,_,rfl,hv x (by simp),vT l (λy hy=>hv y (by simp[hy]))⟩
def Ev.makeFunc{fn:Fn}{first acr:Array Operand}(ho:o.op= .makeFunc fn first acr):Ev P ge o tm S (.fn fn (first.toList.map (bH ge tm)) (acr.toList.map (bH ge tm))):=by
 refine .still (λg w a _ _ r k v=>⟨.func fn (first.map a.eval) (acr.map a.eval),by simp[execOp,ho,Instr.makeFunc],?_⟩);simp only[V];exact⟨_,_,rfl,by simpa using vT first.toList (λx hx=>v x (by simp[ho,Op.operands];exact .inl (by simpa using hx))),by simpa using vT acr.toList (λx hx=>v x (by simp[ho,Op.operands];exact .inr (by simpa using hx)))⟩
def Ev.makeInterface{t:TypeId}{x:Operand}{d:TypeDesc}(ho:o.op= .makeInterface t x)(hu:P.underlying t=some d)(hd:(d matches .interface _)=false):Ev P ge o tm S (.iface t (bH ge tm x)):=by
 refine .still (λg w a _ _ r k v=>⟨.iface t (a.eval x),?_,?_⟩)
 ·simp only[execOp,ho,Instr.makeInterface,amM,amI hu,amN];cases d<;>simp_all
 ·simp only[V];exact⟨_,rfl,v x (by simp[ho,Op.operands])⟩
def qr(op:BinOp)(k:IntKind)(a b:Int):amy AV:=
 match op with
 |.add=>some (.int k (k.wrap (a+b)))
 |.sub=>some (.int k (k.wrap (a - b)))
 |.mul=>some (.int k (k.wrap (a*b)))
 |.and=>some (.int k (k.wrap (BitVec.ofInt k.bits a &&& BitVec.ofInt k.bits b).toNat))
 |.or=>some (.int k (k.wrap (BitVec.ofInt k.bits a ||| BitVec.ofInt k.bits b).toNat))
 |.eql=>some (.bool (a==b))
 |.neq=>some (.bool (a != b))
 |.lss=>some (.bool (decide (a<b)))
 |.leq=>some (.bool (decide (a<=b)))
 |.gtr=>some (.bool (decide (a>b)))
 |.geq=>some (.bool (decide (a>=b)))
 |_=>none
def Ev.KO{op:BinOp}{t t':TypeId}{x y:Operand}{k:IntKind}{a b:Int}{z:AV}(ho:o.op= .binOp op t x y t')(hx:bH ge tm x= .int k a)(hy:bH ge tm y= .int k b)
 (hz:qr op k a b=some z):Ev P ge o tm S z:=by
 refine .still (λg w act _ _ r kk v=>?_);have h1:=v x (by simp[ho,Op.operands]);have h2:=v y (by simp[ho,Op.operands]);rw[hx]at h1;rw[hy]at h2;simp only[V]at h1 h2;cases op<;>simp[qr]at hz<;>subst hz<;>simp only[V]<;>
  exact⟨_,by simp[execOp,ho,h1,h2,eqGuard,binOp,Op.intArith,Op.intCmp,Op.intBits],rfl⟩
def bZ(a b:amw):amz:=a.data.toList==b.data.toList
def uk(a b:amw):amz:=Op.bytesLess a.data.toList b.data.toList
def D9(a b:amw):(a.toList==b.toList)=bZ a b:=by rw[ByteArray.toList_eq,ByteArray.toList_eq];rfl
def Ea(a b:amw):Op.bytesLess a.toList b.toList=uk a b:=by rw[ByteArray.toList_eq,ByteArray.toList_eq];rfl
def qu(op:BinOp)(x y:amw):amy AV:=
 match op with
 |.eql=>some (.bool (bZ x y))
 |.neq=>some (.bool (!bZ x y))
 |.lss=>some (.bool (uk x y))
 |.leq=>some (.bool (uk x y||bZ x y))
 |.gtr=>some (.bool (!(uk x y||bZ x y)))
 |.geq=>some (.bool (!uk x y))
 |_=>none
def Ev.KP{op:BinOp}{t t':TypeId}{x y:Operand}{a b:amw}{z:AV}(ho:o.op= .binOp op t x y t')(hx:bH ge tm x= .an a)(hy:bH ge tm y= .an b)
 (hz:qu op a b=some z):Ev P ge o tm S z:=by
 refine .still (λg w act _ _ r kk v=>?_);have h1:=v x (by simp[ho,Op.operands]);have h2:=v y (by simp[ho,Op.operands]);rw[hx]at h1;rw[hy]at h2;simp only[V]at h1 h2;cases op<;>simp[qu]at hz<;>subst hz<;>simp only[V]<;>
  exact⟨_,by simp[execOp,ho,h1,h2,eqGuard,binOp,Op.stringOp,D9,Ea],rfl⟩
def Ev.KQ{t t':TypeId}{x y:Operand}{a b:amw}(ho:o.op= .binOp .add t x y t')(hx:bH ge tm x= .an a)(hy:bH ge tm y= .an b)
 (hz:a.size+b.size<=9223372036854775807):Ev P ge o tm S (.an (a++b)):=by
 refine .still (λg w act _ _ r kk v=>?_);have h1:=v x (by simp[ho,Op.operands]);have h2:=v y (by simp[ho,Op.operands]);rw[hx]at h1;rw[hy]at h2;simp only[V]at h1 h2 |-;refine⟨_,?_,rfl⟩;simp[execOp,ho,h1,h2,eqGuard,binOp,Op.stringOp];omega
def Ev.Ou{t:TypeId}{x:Operand}{b:amz}(ho:o.op= .unOp .not t x)(hx:bH ge tm x= .bool b):Ev P ge o tm S (.bool (!b)):=by
 refine .still (λg w act _ _ r kk v=>?_);have h1:=v x (by simp[ho,Op.operands]);rw[hx]at h1;simp only[V]at h1 |-;exact⟨_,by simp[execOp,ho,h1,Op.unary],rfl⟩
def Ev.Ov{t:TypeId}{x:Operand}{k:IntKind}{n:Int}(ho:o.op= .unOp .neg t x)(hx:bH ge tm x= .int k n):Ev P ge o tm S (.int k (k.wrap (0 - n))):=by
 refine .still (λg w act _ _ r kk v=>?_);have h1:=v x (by simp[ho,Op.operands]);rw[hx]at h1;simp only[V]at h1 |-;exact⟨_,by simp[execOp,ho,h1,Op.unary,Op.intArith],rfl⟩
def Ev.KR{t t':TypeId}{x y:Operand}{k k':IntKind}{a b:Int}(ho:o.op= .binOp .shr t x y t')(hx:bH ge tm x= .int k a)(hy:bH ge tm y= .int k' b)
 (hb:0<=b):Ev P ge o tm S (.int k (a.fdiv (2 ^ min b.toNat k.bits))):=by
 refine .still (λg w act _ _ r kk v=>?_);have h1:=v x (by simp[ho,Op.operands]);have h2:=v y (by simp[ho,Op.operands]);rw[hx]at h1;rw[hy]at h2;simp only[V]at h1 h2;have hb':¬b<0:=by omega
 exact⟨.int k (a.fdiv (2 ^ min b.toNat k.bits)),by simp[execOp,ho,h1,h2,eqGuard,binOp,Op.shift,hb'],by simp only[V]⟩
def Ev.KS{t t':TypeId}{x y:Operand}{k k':IntKind}{a b:Int}(ho:o.op= .binOp .shl t x y t')(hx:bH ge tm x= .int k a)(hy:bH ge tm y= .int k' b)
 (hb:0<=b):Ev P ge o tm S (.int k (k.wrap (a*2 ^ min b.toNat k.bits))):=by
 refine .still (λg w act _ _ r kk v=>?_);have h1:=v x (by simp[ho,Op.operands]);have h2:=v y (by simp[ho,Op.operands]);rw[hx]at h1;rw[hy]at h2;simp only[V]at h1 h2;have hb':¬b<0:=by omega
 exact⟨.int k (k.wrap (a*2 ^ min b.toNat k.bits)),by simp[execOp,ho,h1,h2,eqGuard,binOp,Op.shift,hb'],by simp only[V]⟩
end
section
variable {P:Program}{ge:GE}{F:Nm->Prop}{S:Hp->Prop}{tm:Tm}{hp:Hp}{K:AV->Hp->Prop}{o:Oper}
def cF(P:Program)(t:TypeId):amy (TypeId×Nat):=
 match P.underlying t with
 |some (.slice e)=>(cQ P e).map λn=>(e,n)
 |_=>none
def da{t e:TypeId}{sz:Nat}(h:cF P t=some (e,sz)):P.underlying t=some (.slice e)/\cQ P e=some sz:=by
 unfold cF at h;split at h
 ·rename_i e' he;cases hn:cQ P e' with
  |none=>simp[hn]at h
  |some n=>simp[hn]at h;obtain⟨rfl,rfl⟩:=h;exact⟨he,hn⟩
 ·simp at h
def VE.get{g:G}{sz:Nat}:(xs:amx AV)->(vs:amx Value)->VE g sz xs vs->(i:Nat)->(x:AV)->xs[i]?=some x->
 ∃v,V g x v/\v.cells.size=sz/\(∀u∈v.cells.toList,u.oneCell'=true)/\v.cells.toList<+:vs.drop (i*sz)
 | [],vs,e,i,x,h=>by simp at h
 |y::xs,vs,e,i,x,h=>by
  simp only[VE]at e;obtain⟨v,rest,rfl,h0,h1,h2⟩:=e;cases i with
  |zero=>
   simp at h;subst h;exact⟨v,h1,h0.1,h0.2,by simp⟩
  |succ i=>
   obtain⟨u,k1,k2,k3,k4⟩:=VE.get xs rest h2 i x (by simpa using h);refine⟨u,k1,k2,k3,?_⟩;have:(i+1)*sz=v.cells.toList.length+i*sz:=by
    have:=h0.1;simp only[aoQ]at this;rw[this,am6];omega
   rw[this,<-List.drop_drop,List.drop_left];exact k4
def Ev.indexAddr{t e:TypeId}{x y:Operand}{k:IntKind}{i:Int}{sz:Nat}{tok:iA}{xs0 xs:amx AV}{z:AV}(ho:o.op= .indexAddr t x y)
 (ht:cF P t=some (e,sz)) (hx:bH ge tm x= .sl sz tok xs0) (dW:bC xs0 xs) (hy:bH ge tm y= .int k i) (h0:0<=i) (hz:xs[i.toNat]?=some z) (hs:z.cells.all AV.dV=true):Ev P ge o tm S (.aQ z.cells 0):=by
 refine .still (λg w act _ _ r kk v=>?_);obtain⟨hu,hsz⟩:=da ht;have h1:=v x (by simp[ho,Op.operands]);have h2:=v y (by simp[ho,Op.operands]);rw[hx]at h1;have h1:=V.sub (Sub.sl dW (.inl rfl)) _ h1;rw[hy]at h2;have hlt:=fC hz;simp only[V]at h1 h2;obtain⟨a,cap,e1,hc,hn,adU,_,_⟩:=h1;obtain⟨b,off,vals,rfl,hve,ac8⟩:=adU (by intro e;subst e;simp at hz);obtain⟨u,k1,k2,k3,k4⟩:=VE.get _ _ hve _ _ hz;refine⟨.pointer (some ⟨b,off+i.toNat*sz,none⟩),?_,?_⟩
 ·have hr:0<=i/\i<(xs.length:Int):=by omega
  simp[execOp,ho,h2,e1,Instr.indexAt,asIntOf,amI hu,hr,dt hsz,am8]
 ·simp only[V];refine⟨b,off+i.toNat*sz,u.cells.toList,by simp,V.cells k1 hs,?_⟩;rw[<-List.drop_drop];exact k4.trans (ee ac8 _)
def Ev.qv{t e:TypeId}{x y:Operand}{k:IntKind}{i:Int}{j:Nm}{sz n:Nat}(ho:o.op= .indexAddr t x y)
 (ht:cF P t=some (e,sz)) (hx:bH ge tm x= .ms j sz n) (hy:bH ge tm y= .int k i) (h0:0<=i) (hi:i<n):Ev P ge o tm S (.ptr j (i.toNat*sz)):=by
 refine .still (λg w act _ _ r kk v=>?_);obtain⟨hu,hsz⟩:=da ht;have h1:=v x (by simp[ho,Op.operands]);have h2:=v y (by simp[ho,Op.operands]);rw[hx]at h1;rw[hy]at h2;simp only[V]at h1 h2 |-;obtain⟨hj,a,cap,e1,hc,_,ha,_⟩:=h1;have ha:=ha (by omega);subst ha;exact⟨.pointer (some ⟨g.cg j,i.toNat*sz,none⟩),by simp[execOp,ho,h2,e1,Instr.indexAt,asIntOf,amI hu,h0,hi,dt hsz,am8],hj,rfl⟩
def Ev.qx{t e:TypeId}{x y:Operand}{k:IntKind}{i:Int}{j:Nm}{sz n len:Nat}(ho:o.op= .indexAddr t x y)
 (hu:P.underlying t=some (.array len e)) (hsz:cQ P e=some sz) (hx:bH ge tm x= .ptr j n) (hy:bH ge tm y= .int k i) (h0:0<=i) (hi:i<len):Ev P ge o tm S (.ptr j (n+i.toNat*sz)):=by
 refine .still (λg w act _ _ r kk v=>?_);have h1:=v x (by simp[ho,Op.operands]);have h2:=v y (by simp[ho,Op.operands]);rw[hx]at h1;rw[hy]at h2;simp only[V]at h1 h2 |-;obtain⟨hj,e1⟩:=h1;exact⟨.pointer (some ⟨g.cg j,n+i.toNat*sz,none⟩),by simp[execOp,ho,h2,e1,Instr.indexAt,Instr.sureAddr,asIntOf,amI hu,h0,hi,dt hsz,am8],hj,rfl⟩
def Ev.len{t e:TypeId}{x:Operand}{sz:Nat}{tok:iA}{xs0 xs:amx AV}(ho:o.op= .call {callee:=.builtin .len,args:=#[x],argTypes:=#[t]})
 (hu:P.underlying t=some (.slice e)) (hx:bH ge tm x= .sl sz tok xs0) (dW:bC xs0 xs):Ev P ge o tm S (.int .i64 xs.length):=by
 refine .still (λg w act _ _ r kk v=>?_);have h1:=v x (by simp[ho,Op.operands,Call.operands]);rw[hx]at h1;have h1:=V.sub (Sub.sl dW (.inl rfl)) _ h1;simp only[V]at h1 |-;obtain⟨a,cap,e1,_⟩:=h1;exact⟨_,by simp[execOp,ho,resolve,invoke,builtin,Builtin.len_,e1,goInt,amI hu],rfl⟩
def Ev.KU{t:TypeId}{x:Operand}{s:amw}(ho:o.op= .call {callee:=.builtin .len,args:=#[x],argTypes:=#[t]})
 (hu:P.underlying t=some .string) (hx:bH ge tm x= .an s):Ev P ge o tm S (.int .i64 s.size):=by
 refine .still (λg w act _ _ r kk v=>?_);have h1:=v x (by simp[ho,Op.operands,Call.operands]);rw[hx]at h1;simp only[V]at h1 |-;exact⟨_,by simp[execOp,ho,resolve,invoke,builtin,Builtin.len_,h1,goInt,amI hu],rfl⟩
def ep.append{t e:TypeId}{x y:Operand}{j:Nm}{sz bytes n:Nat}{tok:iA}{xs ys:amx AV}(ho:o.op= .call {callee:=.builtin .append,args:=#[x,y],argTypes:=#[t,t]})
 (T:lP P t e sz bytes) (hx:bH ge tm x= .sl sz (.tail j) xs) (hy:bH ge tm y= .sl sz tok ys) (hj:hp j=some (.tail sz n)) (hn:xs.length=n)
 (hb:(xs.length+ys.length)*bytes<=140737488355328) (hm:xs.length+ys.length<=4611686018427387904)
 (hk:K (.sl sz (.tail j) (xs++ys)) (cE hp j (.tail sz (n+ys.length)))):ep P ge F o tm hp K:=by
 refine .value λg fr w act f r kk v=>?_
 have h1:=v x (by simp[ho,Op.operands,Call.operands]);have h2:=v y (by simp[ho,Op.operands,Call.operands]);rw[hx]at h1;rw[hy]at h2;obtain⟨u,w',g',e1,e2,e3,e4⟩:=r.rel.append (ty:=o.type) T (aH hj) h1 hn h2 hb hm;rw[bp]at e3;exact⟨u,w',g',_,_,by simp[execOp,ho,resolve,invoke,builtin,e1],e2,⟨e3,r.cw.fE hj⟩,e4,hk⟩
def ep.uF{t e:TypeId}{x y:Operand}{sz sz0 bytes:Nat}{tok:iA}{xs ys:amx AV}(j:Nm)(hj:hp j=none)(hF:¬F j)(ho:o.op= .call {callee:=.builtin .append,args:=#[x,y],argTypes:=#[t,t]})
 (T:lP P t e sz bytes) (hx:bH ge tm x= .sl sz0 .eD xs) (hsz:xs=[]\/sz0=sz) (hy:bH ge tm y= .sl sz tok ys)
 (hb:(xs.length+ys.length)*bytes<=140737488355328) (hm:xs.length+ys.length<=4611686018427387904)
 (hk:K (.sl sz (.tail j) (xs++ys)) (cE hp j (.tail sz (xs.length+ys.length)))):ep P ge F o tm hp K:=by
 refine .value λg fr w act f r kk v=>?_
 have h1:=v x (by simp[ho,Op.operands,Call.operands]);have h2:=v y (by simp[ho,Op.operands,Call.operands]);rw[hx]at h1;rw[hy]at h2;have h1':V g (.sl sz .eD xs) (act.eval x):=by
  rcases hsz with rfl|rfl
  ·exact V.sub (.nil (.inl rfl)) _ h1
  ·exact h1
 have hfr:=dy f hF;obtain⟨g1,l1,r1,v1⟩:=r.rel.ij (bX hj hfr) h1';obtain⟨u,w',g',e1,e2,e3,e4⟩:=r1.append (ty:=o.type) (j:=j) (n:=xs.length) T (aZ _ _ _) v1 rfl (V.mono l1 _ _ h2) hb hm;refine⟨u,w',g',_,_,by simp[execOp,ho,resolve,invoke,builtin,e1],l1.trans e2,⟨?_,r.cw.cE hfr⟩,e4,hk⟩;have:cE (cE (bz hp fr) j (.tail sz xs.length)) j (.tail sz (xs.length+ys.length))=bz (cE hp j (.tail sz (xs.length+ys.length))) fr:=by
  rw[<-bp];funext i;simp only[cE];split<;>rfl
 rw[<-this];exact e3
end
section
variable {P:Program}{ge:GE}{F:Nm->Prop}{S:Hp->Prop}{tm:Tm}{hp:Hp}{K:AV->Hp->Prop}{o:Oper}
def ic(acV:Nat->amy (Nat×Nat))(cells:amx AV):amx (Nat×AV)->amy (amx AV)
 | []=>some cells
 |(i,v)::rest=>
  match acV i with
  |none=>none
  |some (off,size)=>
   if v.cells.length=size/\off+size<=cells.length/\v.cells.all AV.dV=true then ic acV (eH cells off v.cells) rest else none
def Au(cs:amx Value):∀(k off:Nat)(c:Array Value),off+k+cs.length<=c.size->
 ((cs.zipIdx k).foldl (λ(a:Array Value)(x:Value×Nat)=>a.setIfInBounds (off+x.2) x.1) c).toList=c.toList.take (off+k)++cs++c.toList.drop (off+k+cs.length):=by
 induction cs with
 |nil=>intro k off c h;simp
 |cons v cs ih=>
  intro k off c h;simp only[List.zipIdx_cons,List.foldl_cons];simp only[amA]at h;rw[ih (k+1) off (c.setIfInBounds (off+k) v) (by simp;omega)];have hlt:off+k<c.toList.length:=by simp;omega
  have e1:(c.setIfInBounds (off+k) v).toList=c.toList.set (off+k) v:=by simp
  rw[e1];have e2:(c.toList.set (off+k) v).take (off+(k+1))=c.toList.take (off+k)++[v]:=by
   rw[show off+(k+1)=(off+k)+1 from by omega,List.take_succ_eq_append_getElem (by simpa using hlt)];rw[List.take_set_of_le (amW _)];simp
  have e3:(c.toList.set (off+k) v).drop (off+(k+1)+cs.length)=c.toList.drop (off+k+(cs.length+1)):=by
   rw[List.drop_set_of_lt (by omega)];congr 1;omega
  rw[e2,e3];simp
def gY{g:G}(acV:Nat->amy (Nat×Nat)):(acp:amx (Nat×AV))->(adt:amx (Nat×Value))->{cells adu:amx AV}->{vs:Array Value}->
 VL g cells vs.toList->(∀i:Nat,∀p,acp[i]?=some p->∃q,adt[i]?=some q/\q.1=p.1/\V g p.2 q.2)->acp.length=adt.length->
 ic acV cells acp=some adu->∃vs',Instr.fill acV vs adt=some vs'/\VL g adu vs'.toList
 | [],adt,cells,adu,vs,hv,hp,hl,h=>by
  have:adt=[]:=anu (by simpa using hl.symm);subst this;simp[ic]at h;subst h;exact⟨vs,rfl,hv⟩
 |(i,x)::rest,[],cells,adu,vs,hv,hp,hl,h=>by simp at hl
 |(i,x)::rest,(i',v)::agD,cells,adu,vs,hv,hp,hl,h=>by
  obtain⟨q,hq,h1,h2⟩:=hp 0 (i,x) rfl;simp at hq;subst hq;simp at h1;subst h1;simp only[ic]at h;simp only[Instr.fill];cases aM:acV i' with
  |none=>simp[aM]at h
  |some os=>
   obtain⟨off,size⟩:=os;simp only[aM]at h |-;split at h
   ·rename_i hc;obtain⟨c1,c2,c3⟩:=hc;have hxc:=V.cells h2 c3;have hxl:=VL.length _ _ hxc;have hvl:=VL.length _ _ hv;simp only[anJ]at hxl hvl;rw[amL (by simp;omega)];refine gY acV rest agD (cells:=eH cells off x.cells) ?_ (λk p hk=>?_) (by simpa using hl) h
    ·have:=Au v.cells.toList 0 off vs (by simp;omega);rw[<-Array.foldl_toList];simp only[Array.toList_zipIdx]at this |-;rw[this];simp only[anr,eH,anJ,hxl];exact VL.append _ _ (VL.append _ _ (VL.take off _ _ hv) _ _ hxc) _ _ (VL.drop _ _ _ hv)
    ·have:=hp (k+1) p (by simpa using hk);simpa using this
   ·simp at h
def ox(P:Program)(t:TypeId)(acp:amx (Nat×AV)):amy AV:=
 match P.info? t,P.underlying t with
 |some it,some (.array _ e)=>
  match it.zero,P.info? e with
  |some z,some ie=>(ic (λi=>some (i*ie.size,ie.size)) (z.cells.toList.map gg) acp).map .agg
  |_,_=>none
 |some it,some (.struct aec)=>
  match it.zero,aec.toList.mapM (λf=>(P.info? f.type).map λi=>(f.offset,i.size))with
  |some z,some aed=>(ic (aed.toArray[·]?) (z.cells.toList.map gg) acp).map .agg
  |_,_=>none
 |_,_=>none
def mL{g:G}{f:Operand->AV}{h:Operand->Value}(ps:amx (Nat×Operand))(hv:∀q∈ps,V g (f q.2) (h q.2)):∀(i:Nat)(p:Nat×AV),(ps.map λq=>(q.1,f q.2))[i]?=some p->
 ∃q:Nat×Value,(ps.map λq=>(q.1,h q.2))[i]?=some q/\q.1=p.1/\V g p.2 q.2:=by
 intro i p hp;rw[anK]at hp;cases hi:ps[i]? with
 |none=>simp[hi]at hp
 |some q=>
  simp[hi]at hp;subst hp;exact⟨(q.1,h q.2),by simp[hi],rfl,hv q (anL hi)⟩
def Ev.build{t:TypeId}{acp:Array (Nat×Operand)}{y:AV}(ho:o.op= .build t acp)(hy:ox P t (acp.toList.map λq=>(q.1,bH ge tm q.2))=some y):Ev P ge o tm S y:=by
 refine .still (λg w a _ _ r k v=>?_);have hrel:=mL (g:=g) (f:=bH ge tm) (h:=a.eval) acp.toList (λq hq=>v q.2 (by simp[ho,Op.operands];exact⟨q.1,by simpa using hq⟩));have aM:(acp.map λ(i,x)=>(i,a.eval x)).toList=acp.toList.map λq=>(q.1,a.eval q.2):=by simp
 suffices h:∃vs,P.built t (acp.toList.map λq=>(q.1,a.eval q.2))=some vs/\V g y (.agg vs) by
  obtain⟨vs,h1,h2⟩:=h;refine⟨.agg vs,?_,h2⟩;have:=run_build (P:=P) w t (acp.map λ(i,x)=>(i,a.eval x)) vs (by rw[aM];exact h1);simp only[execOp,ho,amM,this,amN];rfl
 unfold ox at hy;unfold Program.built;cases hi:P.info? t with
 |none=>simp[hi]at hy
 |some it=>
  cases hu:P.underlying t with
  |none=>simp[hi,hu]at hy
  |some d=>
   cases d<;>simp only[hi,hu]at hy ⊢<;>try (simp at hy;done)
   case array len e=>
    cases hz:it.zero with
    |none=>simp[hz]at hy
    |some z=>
     cases hie:P.info? e with
     |none=>simp[hz,hie]at hy
     |some ie=>
      simp only[hz,hie]at hy |-;cases hf:ic (λi=>some (i*ie.size,ie.size)) (z.cells.toList.map gg) (acp.toList.map λq=>(q.1,bH ge tm q.2))with
      |none=>rw[hf]at hy;simp at hy
      |some cs=>
       rw[hf]at hy;simp only[ang,amT]at hy;subst hy;obtain⟨vs,h1,h2⟩:=gY _ _ _ (gM g z.cells.toList) hrel (by simp) hf;exact⟨vs,h1,by simp only[V];exact⟨vs,rfl,h2⟩⟩
   case struct aec=>
    cases hz:it.zero with
    |none=>simp[hz]at hy
    |some z=>
     cases hie:aec.toList.mapM (λf=>(P.info? f.type).map λi=>(f.offset,i.size))with
     |none=>simp[hz,hie]at hy
     |some aed=>
      simp only[hz,hie]at hy |-;cases hf:ic (aed.toArray[·]?) (z.cells.toList.map gg) (acp.toList.map λq=>(q.1,bH ge tm q.2))with
      |none=>rw[hf]at hy;simp at hy
      |some cs=>
       rw[hf]at hy;simp only[ang,amT]at hy;subst hy;obtain⟨vs,h1,h2⟩:=gY _ _ _ (gM g z.cells.toList) hrel (by simp) hf;exact⟨vs,h1,by simp only[V];exact⟨vs,rfl,h2⟩⟩
end
section
variable {P:Program}{ge:GE}{F:Nm->Prop}{S:Hp->Prop}{tm:Tm}{hp:Hp}{K:AV->Hp->Prop}{o:Oper}
def VL.split{g:G}:(xs ys:amx AV)->(vs:amx Value)->VL g (xs++ys) vs->∃a b,vs=a++b/\VL g xs a/\VL g ys b
 | [],ys,vs,h=>⟨[],vs,rfl,by simp[VL],by simpa using h⟩
 |x::xs,ys,vs,h=>by
  simp only[anO,VL]at h;obtain⟨v,rest,rfl,h1,h2⟩:=h;obtain⟨a,b,rfl,h3,h4⟩:=VL.split xs ys rest h2;exact⟨v::a,b,rfl,by simp only[VL];exact⟨v,a,rfl,h1,h3⟩,h4⟩
def lR{g:G}{sz:Nat}:(xs:amx AV)->(vs:amx Value)->VL g (xs.flatMap AV.cells) vs->(∀x∈xs,x.cells.length=sz/\x.cells.all AV.dV=true)->VE g sz xs vs
 | [],vs,h,_=>by simpa[VL,VE]using h
 |x::xs,vs,h,hx=>by
  simp only[List.flatMap_cons]at h;obtain⟨a,b,rfl,h1,h2⟩:=VL.split _ _ _ h;obtain⟨k1,k2⟩:=hx x (by simp);have hs:=VL.dV _ _ h1 k2;have hl:=VL.length _ _ h1;simp only[VE];have ih:=lR xs b h2 (λy hy=>hx y (by simp[hy]));cases x
  case agg cs=>
   refine⟨.agg a.toArray,b,by simp[Value.cells],⟨by simp[Value.cells];rw[hl];exact k1,by simpa[Value.cells]using hs⟩,by simp only[V];exact⟨_,rfl,by simpa[AV.cells]using h1⟩,ih⟩
  all_goals
   simp only[AV.cells,VL]at h1;obtain⟨v,rest,rfl,h3,h4⟩:=h1;subst h4;have hv:v.cells=#[v]:=by
    have:=hs v (by simp);cases v<;>simp_all[Value.cells,Value.oneCell']
   refine⟨v,b,by simp[hv],⟨by simp[hv];simpa[AV.cells]using k1,by simpa[hv]using hs⟩,h3,ih⟩
def pR{sz:Nat}(xs:amx AV):∀(k:Nat)(done:amx AV),done.length=k*sz->(∀x∈xs,x.cells.length=sz/\x.cells.all AV.dV=true)->
 ic (λi=>some (i*sz,sz)) (done++List.replicate (xs.length*sz) .any) ((xs.zipIdx k).map λp=>(p.2,p.1))=some (done++xs.flatMap AV.cells):=by
 induction xs with
 |nil=>intro k done h _;simp[ic]
 |cons x xs ih=>
  intro k done h hx;obtain⟨k1,k2⟩:=hx x (by simp);simp only[List.zipIdx_cons,amV,ic];rw[amH ⟨k1,by simp[h,am6],k2⟩];have e:eH (done++List.replicate ((x::xs).length*sz) .any) (k*sz) x.cells=(done++x.cells)++List.replicate (xs.length*sz) .any:=by
   unfold eH;rw[<-h];simp only[amA,am6,Nat.one_mul];rw[List.take_left,an3,aoi (by omega),anP,List.drop_replicate,k1];congr 2;omega
  rw[e,ih (k+1) (done++x.cells) (by simp[h,k1,am6]) (λy hy=>hx y (by simp[hy]))];simp
def uG{g:G}:(vs:amx Value)->VL g (List.replicate vs.length .any) vs
 | []=>by simp[VL]
 |v::vs=>by simp only[amA,aoU,VL];exact⟨v,vs,rfl,trivial,uG vs⟩
def oy(sz:Nat)(acp:amx (Nat×AV)):amz:=(acp.map (·.1)==List.range acp.length)&&acp.all (λp=>p.2.cells.length==sz&&p.2.cells.all AV.dV)
def Ev.buildSlice{t e:TypeId}{len sz:Nat}{acp:Array (Nat×Operand)}{zs:amx AV}(ho:o.op= .buildSlice t len acp)(ht:cF P t=some (e,sz))(adW:ia P e=some zs)
 (hlen:len=acp.size) (hz:zs.length=sz) (afS:len*sz<=16777216) (hl2:len<=16777216) (hok:oy sz (acp.toList.map λq=>(q.1,bH ge tm q.2))=true)
 :Ev P ge o tm S (.sl sz .eD (acp.toList.map λq=>bH ge tm q.2)):=by
 intro g w a hq hl r k v;obtain⟨hu,hsz⟩:=da ht;obtain⟨z,hz1,rfl⟩:=gX adW w;have hrel:=mL (g:=g) (f:=bH ge tm) (h:=a.eval) acp.toList (λq hq=>v q.2 (by simp[ho,Op.operands];exact⟨q.1,by simpa using hq⟩));simp only[oy,amC,am7,amR]at hok;obtain⟨afT,afU⟩:=hok;generalize hxs:(acp.toList.map λq=>bH ge tm q.2)=xs;have aee:(acp.toList.map λq=>(q.1,bH ge tm q.2))=(xs.zipIdx 0).map λp=>(p.2,p.1):=by
  apply anZ;intro i;have h1:=anB (λl=>l[i]?) afT
  grind
 have ada:xs.length=len:=by rw[<-hxs,hlen];simp
 have adX:∀x∈xs,x.cells.length=sz/\x.cells.all AV.dV=true:=by
  intro x hx;rw[<-hxs]at hx;obtain⟨q,hq,rfl⟩:=am3.1 hx;have:=afU (q.1,bH ge tm q.2) (am3.2 ⟨q,hq,rfl⟩);simpa using this
 have adv:=pR (sz:=sz) xs 0 [] (by simp) adX;rw[<-aee,ada]at adv;simp only[anP]at adv
 let adf:Array Value:=(Array.range (len*sz)).map (λi=>z.cells[i % z.cells.size]!)
 have aeQ:VL g (List.replicate (len*sz) .any) adf.toList:=by
  have:=uG (g:=g) adf.toList;simpa[adf]using this
 obtain⟨vs,h1,h2⟩:=gY _ _ _ aeQ hrel (by simp) adv;have hve:=lR xs vs.toList h2 adX;have r1:=r.na vs e;have hle:G.Le g (g.cr w.heap.size vs.toList):=G.gL (by rw[r.hZ];exact anQ);refine⟨.slice (some ⟨w.heap.size,0,none⟩) len len,w.alloc (.cells vs e),g.cr w.heap.size vs.toList,?_,hle,r1,?_⟩
 ·have aM:(acp.map λ(i,x)=>(i,a.eval x)).toList=acp.toList.map λq=>(q.1,a.eval q.2):=by simp
  have hns:¬(len*sz>2 ^ 24):=by omega
  simp only[execOp,ho,Instr.buildSlice,amM,amI hu,amN,dt hsz,hns,anj];rw[aM];by_cases h0:len*sz=0
  ·rw[amH h0];have e0:(Array.map (λx=>(#[]:Array Value)[x %(#[]:Array Value).size]!) (Array.range (len*sz)))=adf:=by simp[adf,h0]
   simp only[amM,am2,amN,e0,h1];rfl
  ·rw[amL h0];simp only[amM,hz1,am2,amN];rw[show(Array.map (λx=>z.cells[x % z.cells.size]!) (Array.range (len*sz)))=adf from rfl,h1];rfl
 ·simp only[V];refine⟨some ⟨w.heap.size,0,none⟩,len,by rw[ada],by omega,by simp,λ_=>⟨w.heap.size,0,vs.toList,rfl,VE.mono hle _ _ _ hve,by simp[G.cr]⟩,by simp,?_⟩;simp only[dw];exact ada.symm
end
end Go.Ab

/- The logic of the walk. -/
import Derived.Orders
import Derived.Test.YtlahelaeeahggaaGreatDoorA3
set_option linter.all false
open Go Go.RowKit
namespace Go.Ab
section
variable {P:Program}{ge:GE}{ops:Array Oper}
inductive Reach (ops:Array Oper):Nat->Nat->Prop
 |Ec {i k:Nat} {o:Oper} {e:Edge}:ops[k]?=some o->e∈o.after->Region.binds .any e=true->e.on=i->Reach ops i k
 |trans {i j k:Nat}:Reach ops i j->Reach ops j k->Reach ops i k
def lj(acc:amx Nat):amx Edge->Nat
 | []=>0
 |e::r=>cond (Region.binds .any e) (2 ^ e.on ||| acc.getD e.on 0 ||| lj acc r) (lj acc r)
def s8:amx Oper->amx Nat->amx Nat
 | [],acc=>acc
 |o::r,acc=>s8 r (acc++[lj acc o.after.toList])
def uI(ops:Array Oper)(_ i k:Nat):amz:=((s8 ops.toList []).getD k 0).testBit i
def ko{acc:amx Nat}{i:Nat}:(es:amx Edge)->(lj acc es).testBit i=true->∃e∈es,Region.binds .any e=true/\(e.on=i\/(acc.getD e.on 0).testBit i=true)
 | [],h=>by simp[lj]at h
 |e::r,h=>by
  simp only[lj]at h;cases hb:Region.binds .any e with
  |false=>
   rw[hb]at h;obtain⟨e',h1,h2⟩:=ko r h;exact⟨e',by simp[h1],h2⟩
  |true=>
   rw[hb]at h;simp only[ane,Nat.testBit_or,anv]at h;rcases h with(h|h)|h
   ·rw[Nat.testBit_two_pow]at h;exact⟨e,by simp,hb,.inl (by simpa using h)⟩
   ·exact⟨e,by simp,hb,.inr h⟩
   ·obtain⟨e',h1,h2⟩:=ko r h;exact⟨e',by simp[h1],h2⟩
def oz:(r:amx Oper)->(acc:amx Nat)->(∀k i,(acc.getD k 0).testBit i=true->Reach ops i k)->(∀n o,r[n]?=some o->ops[acc.length+n]?=some o)->∀k i,((s8 r acc).getD k 0).testBit i=true->Reach ops i k
 | [],acc,h,_,k,i,e=>h k i e
 |o::r,acc,h,ho,k,i,e=>by
  refine oz r (acc++[lj acc o.after.toList]) (λk i h'=>?_) (λn o' hn=>?_) k i e
  ·by_cases hk:k<acc.length
   ·rw[anM,an8 hk,<-anM]at h';exact h k i h'
   ·by_cases hk2:k=acc.length
    ·subst hk2;rw[anM,List.getElem?_append_right (amW _)]at h';simp only[Nat.sub_self,anU,anV]at h';obtain⟨e',h1,h2,h3⟩:=ko _ h';have ho0:=ho 0 o rfl;rw[anr]at ho0;rcases h3 with h3|h3
     ·exact .Ec ho0 (by simpa using h1) h2 h3
     ·exact .trans (h _ _ h3) (.Ec ho0 (by simpa using h1) h2 rfl)
    ·rw[anM,an9 (by simp;omega)]at h';simp at h'
  ·have:=ho (n+1) o' (by simpa using hn);simpa[aoj,aoh 1 n]using this
def gA(n i k:Nat)(h:uI ops n i k=true):Reach ops i k:=oz ops.toList [] (λk i h=>by simp at h) (λn o hn=>by simpa using hn) k i h
def uJ(ops:Array Oper)(listed:Array amz):Prop:=∀k o,ops[k]?=some o->listed.getD k false=true->∀e∈o.after,Region.binds .any e=true->listed.getD e.on false=true
def Reach.listed{listed:Array amz}(hc:uJ ops listed){i k:Nat}(h:Reach ops i k):listed.getD k false=true->listed.getD i false=true:=by
 induction h with
 |Ec ho he hb hon=>intro hk;subst hon;exact hc _ _ ho hk _ he hb
 |trans _ _ ih1 ih2=>exact λhk=>ih1 (ih2 hk)
def Reach.ready{listed:Array amz}(hc:uJ ops listed){i k:Nat}(h:Reach ops i k):k∈Region.ready .any ops listed->listed.getD i false=true:=by
 induction h with
 |Ec ho he hb hon=>
  grind [mem_ready,grind]
 |trans h1 _ _ ih2=>exact λhk=>h1.listed hc (ih2 hk)
inductive DK where
 |fl
 |al (j:Nm)
 |ch
 |tl
 |tp
 deriving DecidableEq
def fX(ops:Array Oper)(tm:Tm)(o:Oper):amy amz:=
 match o.guard with
 |none=>some true
 |some (j,acQ)=>match(ops[j]?).bind (·.dst)with
  |some t=>match get tm t with
   |.bool b=>some (b==acQ)
   |.bR []=>some false
   |_=>none
  |none=>none
abbrev Un:=amx (Nat×Nm×amx AV)
def cA(hp:Hp):Un->Hp
 | []=>hp
 |(_,j,cs)::l=>cE (cA hp l) j (.cells cs)
def FA(d:Nat)(A:amx Nm):Nm->Prop:=λj=>j.1<d\/j∈A
def BU(n:Nat):amx Edge->amz
 | []=>false
 |e::r=>(Nat.beq e.on n&&Region.binds .any e)||BU n r
def s9(o:Oper)(n:Nat):amz:=BU n o.after.toList
def pU{n:Nat}:{l:amx Edge}->BU n l=true->∃e∈l,e.on=n/\Region.binds .any e=true
 | [],h=>by simp[BU]at h
 |e::r,h=>by
  simp only[BU,anv,amC]at h;rcases h with⟨h1,h2⟩|h
  ·exact⟨e,by simp,amK h1,h2⟩
  ·obtain⟨e',h1,h2⟩:=pU h
   grind
def DR(P:Program)(ge:GE)(d:Nat)(A:amx Nm)(N:Nat)(ops:Array Oper)(Q:ff):amx (Nat×DK)->amx (Nat×(Hp->Prop))->Un->Tm->Hp->Prop
 | [],_,un,tm,hp=>Q .normal tm (cA hp un)
 |(i,k)::rest,pend,un,tm,hp=>∃o,ops[i]?=some o/\gz N o.dst=true/\∃b,fX ops tm o=some b/\
  match k with
  |.fl=>(b=false->DR P ge d A N ops Q rest ((i,λ_=>True)::pend) un (put tm o.dst (.bR [])) hp)/\
   (b=true->∃x S,Ev P ge o tm S x/\Up S/\S hp/\DR P ge d A N ops Q rest ((i,S)::pend) un (put tm o.dst x) hp)
  |.al j=>b=true/\j.1=d/\j∈A/\(∀u∈un,u.2.1≠j)/\∃cs t,o.op= .alloc t/\ia P t=some cs/\hp j=none/\
   DR P ge d A N ops Q rest ((i,λ_=>True)::pend) ((i,j,cs)::un) (put tm o.dst (.ptr j 0)) hp
  |.ch=>∃pd':amx (Nat×(Hp->Prop)),(∀p∈pd',p∈pend)/\(∀p∈pend,p∈pd'\/s9 o p.1=true)/\(b=false->DR P ge d A N ops Q rest pd' un (put tm o.dst (.bR [])) hp)/\
   (b=true->ep P ge (FA d A) o tm hp λx hp'=>(∀p∈pd',p.2 hp')/\(∀u∈un,hp' u.2.1=none)/\DR P ge d A N ops Q rest pd' un (put tm o.dst x) hp')
  |.tl=>(b=false->DR P ge d A N ops Q rest [] [] (put tm o.dst (.bR [])) (cA hp un))/\
   (b=true->ep P ge (FA d A) o tm (cA hp un) λx hp'=>DR P ge d A N ops Q rest [] [] (put tm o.dst x) hp')
  |.tp=>(∀p∈pend,p.2 (cA hp un))/\(b=false->DR P ge d A N ops Q rest pend [] (put tm o.dst (.bR [])) (cA hp un))/\
   (b=true->ep P ge (FA d A) o tm (cA hp un) λx hp'=>(∀p∈pend,p.2 hp')/\DR P ge d A N ops Q rest pend [] (put tm o.dst x) hp')
def iD(ops:Array Oper)(t:amy Tmp)(o:Oper):amz:=
 match t with
 |none=>true
 |some t=> !(o.looksAt ops).contains t&&o.dst != some t
def gh(ops:Array Oper)(p q:Nat×DK):amz:=
 p.1 != q.1&&
 match ops[p.1]?,ops[q.1]? with
 |some a,some b=>
  uI ops ops.size p.1 q.1||
  ((p.2== .fl||(match p.2 with|.al _=>q.2 != .tp|_=>false))&&(q.2 != .tl)&&iD ops a.dst b&&iD ops b.dst a)
 |_,_=>false
def jG(ops:Array Oper)(p q:Nat×DK):amz:=
 match q.2 with
 |.fl|.al _=>match ops[p.1]?,ops[q.1]? with
  |some a,some b=>iD ops b.dst a
  |_,_=>false
 |_=>true
def nP(rk:Nat->Nat)(ops:Array Oper):amz:=(List.range ops.size).all λi=>match ops[i]? with
 |some o=>(match o.guard with|some (j,_)=>uI ops ops.size j i|none=>true)&&o.after.all (λe=> !Region.binds .any e||decide (rk e.on<rk i))&&(match o.op with|.select ..=>false|_=>true)
 |none=>true
def BV(ops:Array Oper):amz:=nP (λn=>n) ops
structure eR(ops:Array Oper)(bc:List (Nat×DK)):Prop where
 jW:bc.Pairwise λp q=>gh ops p q=true/\jG ops p q=true
 all:∀i,i<ops.size->∃k,(i,k)∈bc
 YZ:∀p∈bc,p.1<ops.size
 KV:∃rk:Nat->Nat,nP rk ops=true/\∀n m,m<ops.size->rk n<rk m->n<ops.size
 Ox:∀p∈bc,(p.2= .fl\/∃j,p.2= .al j)->∀o,ops[p.1]?=some o->∀t,o.dst=some t->t∉o.looksAt ops
def hA(listed:Array amz):Un->Hp
 | []=>Hp.empty
 |(i,j,cs)::l=>if listed.getD i false then cE (hA listed l) j (.cells cs)else hA listed l
def kq(P:Program)(ge:GE)(ops:Array Oper)(pend:amx (Nat×(Hp->Prop)))(un:Un)(tm:Tm)(hp:Hp)(i:Nat):Prop:=
 ∃o,ops[i]?=some o/\
  (
   (fX ops tm o=some false/\(∀t,o.dst=some t->get tm t= .bR [])/\∀u∈un,u.1≠i)\/
   (fX ops tm o=some true/\∃x,(∀t,o.dst=some t->get tm t=x)/\
    ((∃S,(i,S)∈pend/\Up S/\S hp/\Ev P ge o tm S x/\∀u∈un,u.1≠i)\/(∃j cs t,(i,j,cs)∈un/\o.op= .alloc t/\ia P t=some cs/\x= .ptr j 0))))
structure dZ(P:Program)(ge:GE)(d:Nat)(A:List Nm)(N:Nat)(ops:Array Oper)(bc done rest:List (Nat×DK))(listed:Array Bool)(a:Act)(w:World)
 (pend:List (Nat×(Hp->Prop))) (un:Un) (tm:Tm) (hp:Hp) (g:G) (fr:Hp):Prop where
 split:bc=done++rest
 sz:listed.size=ops.size
 cl:uJ ops listed
 rs:∀p∈rest,listed.getD p.1 false=false
 pd:∀p∈done,listed.getD p.1 false=false->(p.2= .fl\/∃j,p.2= .al j)/\kq P ge ops pend un tm hp p.1
 Ed:a.tmps.size=N
 dn:a.defers=[]
 iP:∀t,(∀p∈done,listed.getD p.1 false=false->∀o,ops[p.1]?=some o->o.dst≠some t)->V g (get tm t) (a.tmps.getD t undef)
 rel:de g w (bz hp (bz (hA listed un) fr))
 cw:fe hp (bz (hA listed un) fr)
 oA:∀u∈un,(u.1,DK.al u.2.1)∈done/\hp u.2.1=none/\u.2.1.1=d/\u.2.1∈A
 gT:un.Pairwise λu v=>u.1≠v.1/\u.2.1≠v.2.1
 ef:Hp.in fr (lh d)
 ph:∀p∈pend,p.2 hp
def ni{t:amy Tmp}{o:Oper}(h:iD ops t o=true):∀x,t=some x->x∉o.looksAt ops/\o.dst≠some x:=by
 grind [iD]
def gN{tm:Tm}{d:amy Tmp}{x:AV}{t:Nat}(h:d≠some t):get (put tm d x) t=get tm t:=by
 cases d with
 |none=>rfl
 |some d=>
  grind [put,eV,grind]
def gB{tm:Tm}{d:amy Tmp}{x:AV}{t:Nat}(h:d=some t):get (put tm d x) t=x:=by
 grind [put,eV]
def Ee{tm:Tm}{d:amy Tmp}{x:AV}{o:Oper}(h:∀t,d=some t->t∉o.looksAt ops):∀y∈o.op.operands,bH ge (put tm d x) y=bH ge tm y:=by
 intro y hy;cases y with
 |tmp t=>
  refine gN (λe=>h t e ?_);exact anw _ (List.mem_filterMap.2 ⟨.tmp t,by simpa using hy,rfl⟩)
 |_=>rfl
def iQ{tm:Tm}{d:amy Tmp}{x:AV}{o:Oper}(h:∀t,d=some t->t∉o.looksAt ops):fX ops (put tm d x) o=fX ops tm o:=by
 unfold fX;cases hg:o.guard with
 |none=>rfl
 |some jw=>
  obtain⟨j,acQ⟩:=jw;simp only[];cases ht:(ops[j]?).bind (·.dst)with
  |none=>rfl
  |some t=>
   simp only[];rw[gN];intro e;exact h t e (by simp[Oper.looksAt,hg,ht])
theorem Ev.put{o:Oper}{tm:Tm}{S:Hp->Prop}{x y:AV}{d:amy Tmp}(e:Ev P ge o tm S x)(h:∀t,d=some t->t∉o.looksAt ops):Ev P ge o (put tm d y) S x:=λg w a hq s r k v=>e g w a hq s r k (λz hz=>by rw[<-Ee (ge:=ge) (tm:=tm) (x:=y) h z hz];exact v z hz)
theorem kq.put{pend acR:amx (Nat×(Hp->Prop))}{un un':Un}{tm:Tm}{hp:Hp}{i:Nat}{d:amy Tmp}{y:AV}(h:kq P ge ops pend un tm hp i)
 (hl:∀o,ops[i]?=some o->iD ops d o=true) (hp1:∀S,(i,S)∈pend->(i,S)∈acR) (hu:∀u∈un,u∈un') (hu':∀u∈un',u∈un\/u.1≠i):kq P ge ops acR un' (Ab.put tm d y) hp i:=by
 obtain⟨o,ho,h⟩:=h;have hn:=ni (hl o ho);have h1:∀t,d=some t->t∉o.looksAt ops:=λt e=>(hn t e).1
 have h2:∀t,o.dst=some t->get (Ab.put tm d y) t=get tm t:=λt e=>gN (λe'=>(hn t e').2 e)
 refine⟨o,ho,?_⟩;rw[iQ h1];have hne:(∀u∈un,u.1≠i)->∀u∈un',u.1≠i:=λh u hu=>by
  grind
 rcases h with⟨k1,k2,k4⟩|⟨k1,x,k2,k3⟩
 ·exact .inl ⟨k1,λt e=>by rw[h2 t e];exact k2 t e,hne k4⟩
 ·refine .inr ⟨k1,x,λt e=>by rw[h2 t e];exact k2 t e,?_⟩;rcases k3 with⟨S,e1,e2,e3,e4,e5⟩|⟨j,cs,t,e1,e2⟩
  ·exact .inl ⟨S,hp1 S e1,e2,e3,e4.put h1,hne e5⟩
  grind
def eu{listed:Array amz}{i k:Nat}(hi:i<listed.size):(listed.setIfInBounds i true).getD k false=true↔k=i\/listed.getD k false=true:=by
 by_cases e:k=i
 ·subst e;simp[hi]
 ·rw[ann false (λh=>e h.symm)];simp[e]
def uK{l:amx (Nat×DK)}{R:Nat×DK->Nat×DK->Prop}(h:l.Pairwise R){p q:Nat×DK}(hp:p∈l)(hq:q∈l)(hne:p≠q):R p q\/R q p:=by
 induction l with
 |nil=>simp at hp
 |cons a l ih=>
  grind [List.pairwise_cons,grind]
section agG
variable {d N:Nat}{A:amx Nm}{Q:ff}{bc done rest:amx (Nat×DK)}{listed:Array amz}{a:Act}{w:World}{pend:amx (Nat×(Hp->Prop))}{un:Un}{tm:Tm}{hp:Hp}{g:G}{fr:Hp}{i:Nat}
def dZ.apart(I:dZ P ge d A N ops bc done rest listed a w pend un tm hp g fr)(ok:eR ops bc){q:Nat×DK}(hq:q∈done)(hl:listed.getD q.1 false=false)
 {p:Nat×DK} (hp':p∈bc) (hne:q≠p) (hr:p.1∈Region.ready .any ops listed) {oq op:Oper} (h1:ops[q.1]?=some oq) (h2:ops[p.1]?=some op):iD ops oq.dst op=true:=by
 have hq':q∈bc:=by rw[I.split];exact anw _ hq
 have hk:=(I.pd q hq hl).1;rcases uK ok.jW hq' hp' hne with⟨h,_⟩|⟨_,h⟩
 ·simp only[gh,h1,h2,amC,anv]at h;rcases h.2 with h|h
  ·have:=(gA _ _ _ h).ready I.cl hr
   grind
  grind
 ·simp only[jG]at h
  grind
def dZ.qC{k:DK}(I:dZ P ge d A N ops bc done ((i,k)::rest) listed a w pend un tm hp g fr)(ok:eR ops bc)(hk:k= .fl\/∃j,k= .al j)
 (D:DR P ge d A N ops Q ((i,k)::rest) pend un tm hp):
 ∃acR un' tm',dZ P ge d A N ops bc (done++[(i,k)]) rest listed a w acR un' tm' hp g fr/\DR P ge d A N ops Q rest acR un' tm' hp:=by
 obtain⟨o,ho,hd,b,hw,D⟩:=D;have hin:(i,k)∈bc:=by rw[I.split];simp
 have hli:listed.getD i false=false:=I.rs (i,k) (by simp);have ac2:=ok.Ox (i,k) hin hk o ho;have agH:∀q∈done,∀oq,ops[q.1]?=some oq->iD ops o.dst oq=true:=by
  intro q hq oq hoq;have hpw:=ok.jW;rw[I.split,ano]at hpw;have:=(hpw.2.2 q hq (i,k) (by simp)).2;simp only[jG]at this;rcases hk with rfl|⟨j,rfl⟩<;>simp only[hoq,ho]at this<;>exact this
 have adm:∀q∈done,q.1≠i:=by
  intro q hq;have hpw:=ok.jW;rw[I.split,ano]at hpw;have:=(hpw.2.2 q hq (i,k) (by simp)).1;simp only[gh,amC,anC]at this;exact this.1
 have aeR:∀u∈un,u.1≠i:=λu hu=>adm _ (I.oA u hu).1
 have mk:∀(x:AV)(acR:amx (Nat×(Hp->Prop)))(un':Un),(∀p∈pend,p∈acR)->(∀p∈acR,p.2 hp)->(∀u∈un,u∈un')->(∀u∈un',u∈un\/u.1=i)->hA listed un'=hA listed un->
  (∀u∈un',(u.1,DK.al u.2.1)∈done++[(i,k)]/\hp u.2.1=none/\u.2.1.1=d/\u.2.1∈A)->(un'.Pairwise λu v=>u.1≠v.1/\u.2.1≠v.2.1)->kq P ge ops acR un' (put tm o.dst x) hp i->
  dZ P ge d A N ops bc (done++[(i,k)]) rest listed a w acR un' (put tm o.dst x) hp g fr:=by
  intro x acR un' hpe hph afX agI hha ahU ahV hpo;refine⟨by rw[I.split];simp,I.sz,I.cl,λp hp=>I.rs p (by simp[hp]),?_,I.Ed,I.dn,?_,by rw[hha];exact I.rel,by rw[hha];exact I.cw,ahU,ahV,I.ef,hph⟩
  ·intro p hp hl;rcases amZ.1 hp with hp|hp
   ·refine⟨(I.pd p hp hl).1,(I.pd p hp hl).2.put (λoq hoq=>agH p hp oq hoq) (λS hS=>hpe _ hS) afX (λu hu=>(agI u hu).imp id (λe=>by rw[e];exact(adm p hp).symm))⟩
   ·simp at hp;subst hp;exact⟨hk,hpo⟩
  ·intro t ht;have h1:o.dst≠some t:=ht (i,k) (by simp) hli o ho;rw[gN h1];exact I.iP t λp hp hl=>ht p (anw _ hp) hl
 rcases hk with rfl|⟨j,rfl⟩
 ·simp only[]at D;cases b with
  |false=>
   refine⟨_,_,_,mk (.bR []) ((i,λ_=>True)::pend) un (λp hp=>by simp[hp]) (λp hp=>by rcases amE.1 hp with rfl|h;exact trivial;exact I.ph p h) (λu hu=>hu) (λu hu=>.inl hu) rfl (λu hu=>⟨anw _ (I.oA u hu).1,(I.oA u hu).2⟩) I.gT ?_,D.1 rfl⟩;exact⟨o,ho,.inl ⟨by rw[iQ ac2];exact hw,λt e=>gB e,aeR⟩⟩
  |true=>
   obtain⟨x,S,e1,e2,e3,e4⟩:=D.2 rfl;refine⟨_,_,_,mk x ((i,S)::pend) un (λp hp=>by simp[hp]) (λp hp=>by rcases amE.1 hp with rfl|h;exact e3;exact I.ph p h) (λu hu=>hu) (λu hu=>.inl hu) rfl (λu hu=>⟨anw _ (I.oA u hu).1,(I.oA u hu).2⟩) I.gT ?_,e4⟩;exact⟨o,ho,.inr ⟨by rw[iQ ac2];exact hw,x,λt e=>gB e,.inl ⟨S,by simp,e2,e3,e1.put ac2,aeR⟩⟩⟩
 ·simp only[]at D;obtain⟨rfl,f1,f2,f3,cs,t,e1,e2,e3,e4⟩:=D;refine⟨_,_,_,mk (.ptr j 0) ((i,λ_=>True)::pend) ((i,j,cs)::un) (λp hp=>by simp[hp]) (λp hp=>by rcases amE.1 hp with rfl|h;exact trivial;exact I.ph p h) (λu hu=>by simp[hu]) (λu hu=>(amE.1 hu).symm.imp id (λe=>by rw[e])) ?_ ?_ ?_ ?_,e4⟩
  ·simp only[hA];rw[amL (by rw[hli];simp)]
  ·intro u hu;rcases amE.1 hu with rfl|hu
   ·exact⟨by simp,e3,f1,f2⟩
   ·exact⟨anw _ (I.oA u hu).1,(I.oA u hu).2⟩
  ·refine anW.2 ⟨λu hu=>⟨λe=>?_,λe=>f3 u hu e.symm⟩,I.gT⟩;have hpw:=ok.jW;rw[I.split,ano]at hpw;have:=(hpw.2.2 _ (I.oA u hu).1 (i,.al j) (by simp)).1;simp only[gh,amC,anC]at this;exact this.1 e.symm
  ·exact⟨o,ho,.inr ⟨by rw[iQ ac2];exact hw,.ptr j 0,λt e=>gB e,.inr ⟨j,cs,t,by simp,e1,e2,rfl⟩⟩⟩
def dZ.BS(I:dZ P ge d A N ops bc done rest listed a w pend un tm hp g fr)(ok:eR ops bc)(k0:lJ g ge){p:Nat×DK}(hp':p∈bc)(hr:p.1∈Region.ready .any ops listed)
 {o:Oper} (ho:ops[p.1]?=some o) (ac2:p∈done->∀t,o.dst=some t->t∉o.looksAt ops):uE g ge tm o a/\∀b,fX ops tm o=some b->Region.wanted o (yielded ops a.tmps)=b:=by
 have afC:∀t∈o.looksAt ops,V g (get tm t) (a.tmps.getD t undef):=by
  intro t ht;refine I.iP t λq hq hl oq hoq e=>?_
  by_cases hqp:q=p
  ·subst hqp;rw[ho]at hoq;simp at hoq;subst hoq;exact ac2 hq t e ht
  ·exact((ni (I.apart ok hq hl hp' hqp hr hoq ho)) t e).1 ht
 refine⟨λy hy=>?_,λb hb=>?_⟩
 ·cases y with
  |tmp t=>exact afC t (anw _ (List.mem_filterMap.2 ⟨.tmp t,by simpa using hy,rfl⟩))
  |const v=>exact nO g v
  |global n=>
   simp only[Ab.bH];split
   ·rename_i cs hc;obtain⟨_,vals,h1,h2⟩:=k0 n cs hc;simp only[V,Act.eval];exact⟨n,0,vals,rfl,h1,by simpa using h2⟩
   ·simp only[V]
  |func f=>simp only[Ab.bH,V,Act.eval];exact⟨#[],#[],rfl,by simp[VL],by simp[VL]⟩
 ·unfold fX at hb;unfold Region.wanted;cases hg:o.guard with
  |none=>simp[hg]at hb;simp[hb]
  |some jw=>
   obtain⟨j,acQ⟩:=jw;simp only[hg]at hb |-;cases ht:(ops[j]?).bind (·.dst)with
   |none=>simp[ht]at hb
   |some t=>
    simp only[ht]at hb;have hv:=afC t (by simp[Oper.looksAt,hg,ht]);by_cases agK:get tm t= .bR []
    ·rw[agK]at hb hv;simp only[amT]at hb;simp only[V]at hv;obtain⟨br,hv,_⟩:=hv;have hy:yielded ops a.tmps j=none:=by
      unfold yielded;rw[ht];simp only[amD];rw[am1]at hv;cases h:a.tmps[t]? with
      |none=>rfl
      |some u=>rw[h]at hv;simp at hv;subst hv;rfl
     rw[hy,<-hb];rfl
    cases hgt:get tm t<;>simp only[hgt]at hb<;>try (simp at hb;done)
    rotate_left
    ·rename_i vs;cases vs with
     |nil=>exact absurd hgt agK
     |cons=>simp at hb
    rename_i c;simp at hb;rw[hgt]at hv;simp only[V]at hv;have hy:yielded ops a.tmps j=some c:=by
     unfold yielded;rw[ht];simp only[amD];rw[am1]at hv;cases h:a.tmps[t]? with
     |none=>rw[h]at hv;simp[undef]at hv
     |some u=>rw[h]at hv;simp at hv;subst hv;rfl
    rw[hy];simp[<-hb]
def lT{l:Un}(h:∀u∈l,u.1≠i):hA (listed.setIfInBounds i true) l=hA listed l:=by
 induction l with
 |nil=>rfl
 |cons u l ih=>
  obtain⟨k,j,cs⟩:=u;have hk:k≠i:=h (k,j,cs) (by simp);simp only[hA,ih (λv hv=>h v (by simp[hv])),ann false (anN hk)]
def vV{l:Un}{j:Nm}(h:∀u∈l,u.2.1≠j):hA listed l j=none:=by
 induction l with
 |nil=>rfl
 |cons u l ih=>
  obtain⟨k,j',cs⟩:=u;have hk:j'≠j:=h (k,j',cs) (by simp);simp only[hA];split
  ·rw[aT _ _ (anN hk)];exact ih (λv hv=>h v (by simp[hv]))
  ·exact ih (λv hv=>h v (by simp[hv]))
def BW(h:Hp){j k:Nm}(o p:bk)(hne:j≠k):cE (cE h j o) k p=cE (cE h k p) j o:=by
 funext x
 grind [cE,grind]
def BX{l:Un}{j:Nm}{cs:amx AV}(hi:i<listed.size)(hl:listed.getD i false=false)(hm:(i,j,cs)∈l)(hp':l.Pairwise λu v=>u.1≠v.1/\u.2.1≠v.2.1):
 hA (listed.setIfInBounds i true) l=cE (hA listed l) j (.cells cs):=by
 induction l with
 |nil=>simp at hm
 |cons u l ih=>
  rw[anW]at hp';obtain⟨k,j',cs'⟩:=u;rcases amE.1 hm with e|hm
  ·simp at e;obtain⟨rfl,rfl,rfl⟩:=e;have h1:(listed.setIfInBounds i true).getD i false=true:=(eu hi).2 (.inl rfl);simp only[hA,hl,h1,am0];rw[lT (λv hv=>(hp'.1 v hv).1.symm)];simp
  ·have hne:=hp'.1 _ hm;simp only at hne;simp only[hA,ann false (anN hne.1),ih hm hp'.2];split
   ·rw[BW _ _ _ (anN hne.2)]
   ·rfl
def Ef{l:Un}{j:Nm}{cs:amx AV}(hl:listed.getD i false=false)(hm:(i,j,cs)∈l)(hp':l.Pairwise λu v=>u.1≠v.1/\u.2.1≠v.2.1):hA listed l j=none:=by
 induction l with
 |nil=>simp at hm
 |cons u l ih=>
  rw[anW]at hp';obtain⟨k,j',cs'⟩:=u;rcases amE.1 hm with e|hm
  ·simp at e;obtain⟨rfl,rfl,rfl⟩:=e;simp only[hA,hl];exact vV (λv hv=>(hp'.1 v hv).2.symm)
  ·have hne:=hp'.1 _ hm;simp only at hne;simp only[hA];split
   ·rw[aT _ _ (anN hne.2)];exact ih hm hp'.2
   ·exact ih hm hp'.2
def kr{a b:Hp}{j:Nm}{o:bk}(h:a j=none):cE (bz a b) j o=bz a (cE b j o):=by
 funext k
 grind [aZ,bD,aT,bz]
def dZ.step{p:Nat×DK}{g':G}{w':World}{v x:AV×Value}(I:dZ P ge d A N ops bc done rest listed a w pend un tm hp g fr)(ok:eR ops bc)(hp':p∈done)
 (hr:p.1∈Region.ready .any ops listed) {o:Oper} (ho:ops[p.1]?=some o) (hd:gz N o.dst=true) (hle:G.Le g g') (hv:V g' x.1 x.2) (hx:∀t,o.dst=some t->get tm t=x.1)
 (hrel:de g' w' (bz hp (bz (hA (listed.setIfInBounds p.1 true) un) fr))) (afY:fe hp (bz (hA (listed.setIfInBounds p.1 true) un) fr)) (_:v=x):
 dZ P ge d A N ops bc done rest (listed.setIfInBounds p.1 true) (a.put o.dst x.2) w' pend un tm hp g' fr:=by
 have hlt:p.1<listed.size:=by rw[I.sz];exact(anD.1 ho).1
 have hr':=hr;rw[anm]at hr';obtain⟨_,o',ho',acJ⟩:=hr';rw[ho]at ho';simp at ho';subst ho';refine⟨I.split,by simpa using I.sz,?_,?_,?_,?_,?_,?_,hrel,afY,I.oA,I.gT,I.ef,I.ph⟩
 ·intro k ok' hok hk e he hb;rw[eu hlt]at hk |-;right;rcases hk with rfl|hk
  ·rw[ho]at hok;simp at hok;subst hok;exact acJ e he hb
  ·exact I.cl k ok' hok hk e he hb
 ·intro q hq;have hpw:=ok.jW;rw[I.split,ano]at hpw;have:=(hpw.2.2 p hp' q hq).1;simp only[gh,amC,anC]at this;rw[ann false this.1];exact I.rs q hq
 ·intro q hq hl;have hl':listed.getD q.1 false=false:=by
   cases h:listed.getD q.1 false with
   |false=>rfl
   |true=>rw[(eu hlt).2 (.inr h)]at hl;simp at hl
  exact I.pd q hq hl'
 ·cases hdd:o.dst<;>simpa[Act.put,hdd]using I.Ed
 ·cases hdd:o.dst<;>simpa[Act.put,hdd]using I.dn
 ·intro t ht;by_cases e:o.dst=some t
  ·rw[hx t e];have htN:t<N:=jF hd t e;simp only[e,Act.put];rw[am1,aoz (by rw[I.Ed];exact htN)];exact hv
  ·have e2:(a.put o.dst x.2).tmps.getD t undef=a.tmps.getD t undef:=by
    cases hdd:o.dst with
    |none=>rfl
    |some t'=>
     have:t'≠t:=λh=>e (by rw[hdd,h])
     simp only[Act.put];rw[am1,aoA this,<-am1]
   rw[e2];refine V.mono hle _ _ (I.iP t λq hq hl oq hoq=>?_);by_cases hqp:q.1=p.1
   ·rw[hqp,ho]at hoq;simp at hoq;subst hoq;exact e
   ·exact ht q hq (by rw[ann false (anN hqp)];exact hl) oq hoq
def dZ.run{p:Nat×DK}{Qc:Exit->Act->World->Prop}{K:Act->World->Prop}(I:dZ P ge d A N ops bc done rest listed a w pend un tm hp g fr)(ok:eR ops bc)(k0:lJ g ge)
 (hp':p∈done) (hl:listed.getD p.1 false=false) (hr:p.1∈Region.ready .any ops listed) (hN:∀o,ops[p.1]?=some o->gz N o.dst=true)
 (hK:∀a' w' g',G.Le g g'->dZ P ge d A N ops bc done rest (listed.setIfInBounds p.1 true) a' w' pend un tm hp g' fr->K a' w'):wpOp P ops Qc p.1 K a w:=by
 obtain⟨hk,o,ho,h⟩:=I.pd p hp' hl;have hin:p∈bc:=by rw[I.split];exact anw _ hp'
 have ac2:=ok.Ox p hin hk o ho;obtain⟨adM,adk⟩:=I.BS ok k0 hin hr ho (λ_=>ac2);have hlt:p.1<listed.size:=by rw[I.sz];exact(anD.1 ho).1
 unfold wpOp;simp only[ho];rcases h with⟨h1,h2,h4⟩|⟨h1,x,h2,h3⟩
 ·rw[adk _ h1,amL (by simp)];refine hK _ _ g (G.Le.refl g) ?_;have hha:hA (listed.setIfInBounds p.1 true) un=hA listed un:=lT h4;exact I.step (v:=(.bR [],undef)) (x:=(.bR [],undef)) ok hp' hr ho (hN o ho) (G.Le.refl g) (kE g) (λt e=>h2 t e) (by rw[hha];exact I.rel) (by rw[hha];exact I.cw) rfl
 ·rw[adk _ h1,amH rfl];left;rcases h3 with⟨S,e1,e2,e3,e4,e5⟩|⟨j,cs,t,e1,e2,e3,e4⟩
  ·obtain⟨v,w',g',r1,r2,r3,r4⟩:=e4 g w a _ (e2 _ _ (λj o hj=>aH hj) e3) I.rel k0 adM;simp only[Oper.wp,r1,Oper.upon];refine hK _ _ g' r2 ?_;have hha:hA (listed.setIfInBounds p.1 true) un=hA listed un:=lT e5;exact I.step (v:=(x,v)) (x:=(x,v)) ok hp' hr ho (hN o ho) r2 r4 (λt e=>h2 t e) (by rw[hha];exact r3) (by rw[hha];exact I.cw) rfl
  ·obtain⟨z,z1,rfl⟩:=gX e3 w;subst e4;obtain⟨_,hpj,hjd,hjA⟩:=I.oA _ e1;simp only at hpj hjd hjA;have hfr:fr j=none:=dy I.ef (by simp only[lh];omega);have hhA:hA listed un j=none:=Ef hl e1 I.gT;have hjn:bz hp (bz (hA listed un) fr) j=none:=bX hpj (bX hhA hfr);have acO:(execOp a.eval o).run P w= .ok (.value (.pointer (some ⟨w.heap.size,0,none⟩))) (w.alloc (.cells z.cells t)):=by
    simp[execOp,e2,Instr.alloc,z1,li]
   simp only[Oper.wp,acO,Oper.upon];have hle:=G.dA g (j:=j) w.heap.size (I.rel.cu hjn);refine hK _ _ (g.push j w.heap.size) hle ?_;have r3:=I.rel.lg hjn _ _ t (gM g z.cells.toList) I.rel.hZ;have hha:=BX hlt hl e1 I.gT;refine I.step (v:=(.ptr j 0,.pointer (some ⟨w.heap.size,0,none⟩))) (x:=(.ptr j 0,.pointer (some ⟨w.heap.size,0,none⟩))) ok hp' hr ho (hN o ho) hle (by simp[V,G.push]) (λt e=>h2 t e) ?_ ?_ rfl
   ·rw[hha];rw[kr hpj,bp]at r3;exact r3
   ·rw[hha];intro k;by_cases e:k=j
    ·subst e;exact .inl hpj
    ·rcases I.cw k with h|h
     ·exact .inl h
     ·right;simp only[bz,aT _ _ e]at h |-;exact h
def kq.heap{hp':Hp}(h:kq P ge ops pend un tm hp i)(hs:∀p∈pend,p.2 hp'):kq P ge ops pend un tm hp' i:=by
 obtain⟨o,ho,h⟩:=h;refine⟨o,ho,h.imp id ?_⟩;rintro⟨k1,x,k2,k3⟩;refine⟨k1,x,k2,k3.imp ?_ id⟩
 grind
def dZ.ta:(fs:amx (Nat×DK))->(∀p∈fs,p.2= .fl\/∃j,p.2= .al j)->{done rest:amx (Nat×DK)}->{pend:amx (Nat×(Hp->Prop))}->{un:Un}->{tm:Tm}->
 dZ P ge d A N ops bc done (fs++rest) listed a w pend un tm hp g fr->eR ops bc->DR P ge d A N ops Q (fs++rest) pend un tm hp->
 ∃acR un' tm',dZ P ge d A N ops bc (done++fs) rest listed a w acR un' tm' hp g fr/\DR P ge d A N ops Q rest acR un' tm' hp
 | [],_,done,rest,pend,un,tm,I,ok,D=>⟨pend,un,tm,by simpa using I,by simpa using D⟩
 |p::fs,hf,done,rest,pend,un,tm,I,ok,D=>by
  obtain⟨agO,un1,tm1,I1,D1⟩:=dZ.qC (k:=p.2) (i:=p.1) I ok (hf p (by simp)) D;obtain⟨afD,un2,tm2,I2,D2⟩:=dZ.ta fs (λq hq=>hf q (by simp[hq])) I1 ok D1
  grind
def Oy(h:∀u∈un,u.2.1∈A):Hp.in (hA listed un) (FA d A):=by
 intro j hj;apply anI;intro hne;have:hA listed un j=none:=vV (λu hu e=>hne (.inr (by rw[<-e];exact h u hu)))
 grind
def qD{l:Un}(h:∀u∈l,listed.getD u.1 false=true):hA listed l=cA Hp.empty l:=by
 induction l with
 |nil=>rfl
 |cons u l ih=>
  obtain⟨k,j,cs⟩:=u;have:=h (k,j,cs) (by simp);simp only at this;simp only[hA,cA,this,am0,ih (λv hv=>h v (by simp[hv]))]
def jH{l:Un}(h:∀u∈l,hp u.2.1=none):bz (cA hp l) fr=bz hp (bz (cA Hp.empty l) fr):=by
 induction l with
 |nil=>simp only[cA,dP]
 |cons u l ih=>
  obtain⟨k,j,cs⟩:=u;simp only[cA];rw[<-bp,ih (λv hv=>h v (by simp[hv])),kr (h (k,j,cs) (by simp)),bp]
def jI{l:Un}(hd:fe hp (bz (cA Hp.empty l) fr))(hfr:∀u∈l,fr u.2.1=none):fe (cA hp l) fr:=by
 have key:∀(l:Un)(j:Nm),(cA hp l j).isSome=true->(hp j).isSome=true\/∃u∈l,u.2.1=j:=by
  intro l j
  induction l with
  |nil=>exact λh=>.inl h
  |cons u l ih=>
   obtain⟨k,j',cs⟩:=u;simp only[cA];intro h;by_cases e:j=j'
   ·exact .inr ⟨(k,j',cs),by simp,e.symm⟩
   ·rw[aT _ _ e]at h;rcases ih h with h|⟨v,hv,e'⟩
    ·exact .inl h
    ·exact .inr ⟨v,by simp[hv],e'⟩
 intro j;cases e:cA hp l j with
 |none=>exact .inl rfl
 |some o=>
  right;rcases key l j (by simp[e])with h|⟨u,hu,rfl⟩
  ·rcases hd j with h'|h'
   ·rw[h']at h;simp at h
   ·cases e2:cA Hp.empty l j with
    |none=>rw[bD e2]at h';exact h'
    |some p=>rw[aH e2]at h';simp at h'
  ·exact hfr u hu
def dZ.BY{Qc:Exit->Act->World->Prop}{K:Act->World->Prop}{k:DK}(_hk:k= .ch\/k= .tp){R0:Tm->Hp->Prop}{o:Oper}{b:amz}(I:dZ P ge d A N ops bc done ((i,k)::rest) listed a w pend un tm hp g fr)(ok:eR ops bc)(k0:lJ g ge)
 (hr:i∈Region.ready .any ops listed) (ho:ops[i]?=some o) (hd:gz N o.dst=true) (hw:fX ops tm o=some b)
 (D:(b=false->R0 (put tm o.dst (.bR [])) hp)/\(b=true->ep P ge (FA d A) o tm hp λx hp'=>(∀p∈pend,p.2 hp')/\(∀u∈un,hp' u.2.1=none)/\R0 (put tm o.dst x) hp'))
 (hK:∀a' w' g' tm' hp',G.Le g g'->dZ P ge d A N ops bc (done++[(i,k)]) rest (listed.setIfInBounds i true) a' w' pend un tm' hp' g' fr->R0 tm' hp'->K a' w'):
 wpOp P ops Qc i K a w:=by
 have hin:(i,k)∈bc:=by rw[I.split];simp
 have hnd:(i,k)∉done:=by
  intro h;have hpw:=ok.jW;rw[I.split,ano]at hpw;have:=(hpw.2.2 _ h (i,k) (by simp)).1;simp[gh]at this
 obtain⟨adM,adk⟩:=I.BS ok k0 hin hr ho (λh=>absurd h hnd);have hlt:i<listed.size:=by rw[I.sz];exact(anD.1 ho).1
 have adm:∀q∈done,q.1≠i/\(listed.getD q.1 false=false->∀oq,ops[q.1]?=some oq->iD ops o.dst oq=true):=by
  intro q hq;have hpw:=ok.jW;rw[I.split,ano]at hpw;have h:=(hpw.2.2 q hq (i,k) (by simp)).1;simp only[gh,amC,anC]at h;refine⟨h.1,λhl oq hoq=>?_⟩;have h2:=h.2;simp only[hoq,ho,anv,amC]at h2;rcases h2 with h2|h2
  ·have:=(gA _ _ _ h2).ready I.cl hr;rw[this]at hl;simp at hl
  ·exact h2.2
 have hha:hA (listed.setIfInBounds i true) un=hA listed un:=lT (λu hu=>(adm _ (I.oA u hu).1).1);have hr':=hr;rw[anm]at hr';obtain⟨_,o',ho',acJ⟩:=hr';rw[ho]at ho';simp at ho';subst ho';have mk:∀(x:AV)(v:Value)(g':G)(w':World)(hp':Hp),G.Le g g'->V g' x v->de g' w' (bz hp' (bz (hA listed un) fr))->fe hp' (bz (hA listed un) fr)->
  (∀p∈pend,p.2 hp')->(∀u∈un,hp' u.2.1=none)->
  dZ P ge d A N ops bc (done++[(i,k)]) rest (listed.setIfInBounds i true) (a.put o.dst v) w' pend un (put tm o.dst x) hp' g' fr:=by
  intro x v g' w' hp' hle hv hrel afY hpe afX;refine⟨by rw[I.split];simp,by simpa using I.sz,?_,?_,?_,?_,?_,?_,by rw[hha];exact hrel,by rw[hha];exact afY,?_,I.gT,I.ef,hpe⟩
  ·intro k ok' hok hk e he hb;rw[eu hlt]at hk |-;right;rcases hk with rfl|hk
   ·rw[ho]at hok;simp at hok;subst hok;exact acJ e he hb
   ·exact I.cl k ok' hok hk e he hb
  ·intro q hq;have hpw:=ok.jW;rw[I.split,ano,anW]at hpw;have:=(hpw.2.1.1 q hq).1;simp only[gh,amC,anC]at this;rw[ann false this.1];exact I.rs q (by simp[hq])
  ·intro q hq hl;rcases amZ.1 hq with hq|hq
   ·have hl':listed.getD q.1 false=false:=by rw[ann false (anN (adm q hq).1)]at hl;exact hl
    have hh:=I.pd q hq hl';exact⟨hh.1,(hh.2.heap hpe).put (λoq hoq=>(adm q hq).2 hl' oq hoq) (λS hS=>hS) (λu hu=>hu) (λu hu=>.inl hu)⟩
   ·simp at hq;subst hq;rw[(eu hlt).2 (.inl rfl)]at hl;simp at hl
  ·cases hdd:o.dst<;>simpa[Act.put,hdd]using I.Ed
  ·cases hdd:o.dst<;>simpa[Act.put,hdd]using I.dn
  ·intro t ht;by_cases e:o.dst=some t
   ·rw[gB e];have htN:t<N:=jF hd t e;simp only[e,Act.put];rw[am1,aoz (by rw[I.Ed];exact htN)];exact hv
   ·have e2:(a.put o.dst v).tmps.getD t undef=a.tmps.getD t undef:=by
     cases hdd:o.dst with
     |none=>rfl
     |some t'=>
      have:t'≠t:=λh=>e (by rw[hdd,h])
      simp only[Act.put];rw[am1,aoA this,<-am1]
    rw[e2,gN e];refine V.mono hle _ _ (I.iP t λq hq hl oq hoq=>?_);exact ht q (anw _ hq) (by rw[ann false (anN (adm q hq).1)];exact hl) oq hoq
  ·intro u hu;have:=I.oA u hu;exact⟨anw _ this.1,afX u hu,this.2.2⟩
 unfold wpOp;simp only[ho];cases b with
 |false=>
  rw[adk _ hw,amL (by simp)];refine hK _ _ g _ _ (G.Le.refl g) (mk (.bR []) undef g w hp (G.Le.refl g) (kE g) I.rel I.cw I.ph (λu hu=>(I.oA u hu).2.1)) (D.1 rfl)
 |true=>
  rw[adk _ hw,amH rfl];left;refine aop (λa' w'⟨v,g',x,hp',e,h1,h2,h3,h4⟩=>?_) (D.2 rfl g (bz (hA listed un) fr) w a Qc ?_ ⟨I.rel,I.cw⟩ k0 adM)
  ·intro j hj;cases e:hA listed un j with
   |some q=>exact Oy (d:=d) (listed:=listed) (un:=un) (λu hu=>(I.oA u hu).2.2.2) j (by rw[e];rfl)
   |none=>rw[bD e]at hj;exact .inl (I.ef j hj)
  ·subst e;exact hK _ _ g' _ _ h1 (mk x v g' w' hp' h1 h3 h2.rel h2.cw h4.1 h4.2.1) h4.2.2
def dZ.drop{pd':amx (Nat×(Hp->Prop))}(I:dZ P ge d A N ops bc done rest listed a w pend un tm hp g fr)(hs:∀p∈pd',p∈pend)(hc:∀p∈pend,p∈pd'\/listed.getD p.1 false=true):
 dZ P ge d A N ops bc done rest listed a w pd' un tm hp g fr:=
 {I with
  pd:=λp hp hl=>by
   obtain⟨h1,o,ho,h2⟩:=I.pd p hp hl;refine⟨h1,o,ho,?_⟩;rcases h2 with h2|⟨k1,x,k2,k3⟩
   ·exact .inl h2
   ·refine .inr ⟨k1,x,k2,?_⟩
    grind
  ph:=λp hp=>I.ph p (hs p hp)}
def dZ.chain{Qc:Exit->Act->World->Prop}{K:Act->World->Prop}(I:dZ P ge d A N ops bc done ((i,.ch)::rest) listed a w pend un tm hp g fr)(ok:eR ops bc)(k0:lJ g ge)
 (hr:i∈Region.ready .any ops listed) (D:DR P ge d A N ops Q ((i,.ch)::rest) pend un tm hp)
 (hK:∀pend a' w' g' tm' hp',G.Le g g'->dZ P ge d A N ops bc (done++[(i,.ch)]) rest (listed.setIfInBounds i true) a' w' pend un tm' hp' g' fr->DR P ge d A N ops Q rest pend un tm' hp'->K a' w'):
 wpOp P ops Qc i K a w:=by
 obtain⟨o,ho,hd,b,hw,pd',hs,hc,D⟩:=D;refine dZ.BY (.inl rfl) (R0:=λtm hp=>DR P ge d A N ops Q rest pd' un tm hp) (I.drop hs λp hp=>?_) ok k0 hr ho hd hw D (hK pd');rcases hc p hp with h|h
 ·exact .inl h
 ·obtain⟨e,h1,h2,h3⟩:=pU h;have hr':=hr;rw[anm]at hr'
  grind
def dZ.vW(I:dZ P ge d A N ops bc done rest listed a w pend un tm hp g fr)(hl:∀u∈un,listed.getD u.1 false=true)(hpe:∀p∈pend,p.2 (cA hp un)):
 dZ P ge d A N ops bc done rest listed a w pend [] tm (cA hp un) g fr:=by
 have adZ:hA listed un=cA Hp.empty un:=qD hl;have hfr:∀u∈un,fr u.2.1=none:=λu hu=>dy I.ef (by have:=(I.oA u hu).2.2.1;simp only[lh];omega)
 have h1:=I.rel;have h2:=I.cw;rw[adZ]at h1 h2;refine⟨I.split,I.sz,I.cl,I.rs,λp hp' hlp=>?_,I.Ed,I.dn,I.iP,?_,?_,λu hu=>by simp at hu,.nil,I.ef,hpe⟩
 ·obtain⟨k1,o,ho,k2⟩:=I.pd p hp' hlp;refine⟨k1,o,ho,?_⟩;rcases k2 with⟨m1,m2,m3⟩|⟨m1,x,m2,m3⟩
  ·exact .inl ⟨m1,m2,λu hu=>by simp at hu⟩
  ·refine .inr ⟨m1,x,m2,.inl ?_⟩
   grind
 ·simp only[hA,dP];rw[jH (λu hu=>(I.oA u hu).2.1)];exact h1
 ·simp only[hA,dP];exact jI h2 hfr
def dZ.Oz{Qc:Exit->Act->World->Prop}{K:Act->World->Prop}(I:dZ P ge d A N ops bc done ((i,.tp)::rest) listed a w pend un tm hp g fr)(ok:eR ops bc)(k0:lJ g ge)
 (hr:i∈Region.ready .any ops listed) (D:DR P ge d A N ops Q ((i,.tp)::rest) pend un tm hp)
 (hK:∀a' w' g' tm' hp',G.Le g g'->dZ P ge d A N ops bc (done++[(i,.tp)]) rest (listed.setIfInBounds i true) a' w' pend [] tm' hp' g' fr->DR P ge d A N ops Q rest pend [] tm' hp'->K a' w'):
 wpOp P ops Qc i K a w:=by
 obtain⟨o,ho,hd,b,hw,hpe,D⟩:=D;have hl:∀u∈un,listed.getD u.1 false=true:=by
  intro u hu;have hq:=(I.oA u hu).1;have hpw:=ok.jW;rw[I.split,ano]at hpw;have h:=(hpw.2.2 _ hq (i,.tp) (by simp)).1;simp only[gh,amC,anC]at h;have h2:=h.2;split at h2
  ·simp only[anv,amC]at h2;rcases h2 with h2|h2
   ·exact(gA _ _ _ h2).ready I.cl hr
   ·simp at h2
  ·simp at h2
 exact dZ.BY (.inr rfl) (R0:=λtm hp=>DR P ge d A N ops Q rest pend [] tm hp) (I.vW hl hpe) ok k0 hr ho hd hw
  ⟨D.1,λe g fr w a Q f r k v=>aop (λ_ _⟨u,g',x,hp',e0,h1,h2,h3,e1,e2⟩=>⟨u,g',x,hp',e0,h1,h2,h3,e1,λu hu=>by simp at hu,e2⟩) (D.2 e g fr w a Q f r k v)⟩ hK
theorem dZ.tail{Qc:Exit->Act->World->Prop}{K:Act->World->Prop}(I:dZ P ge d A N ops bc done ((i,.tl)::rest) listed a w pend un tm hp g fr)(ok:eR ops bc)(k0:lJ g ge)
 (hr:i∈Region.ready .any ops listed) (D:DR P ge d A N ops Q ((i,.tl)::rest) pend un tm hp)
 (hK:∀a' w' g' tm' hp',G.Le g g'->dZ P ge d A N ops bc (done++[(i,.tl)]) rest (listed.setIfInBounds i true) a' w' [] [] tm' hp' g' fr->DR P ge d A N ops Q rest [] [] tm' hp'->K a' w'):
 wpOp P ops Qc i K a w:=by
 obtain⟨o,ho,hd,b,hw,D⟩:=D;simp only[]at D;have hin:(i,DK.tl)∈bc:=by rw[I.split];simp
 have adm:∀q∈done,q.1≠i/\listed.getD q.1 false=true:=by
  intro q hq;have hpw:=ok.jW;rw[I.split,ano]at hpw;have h:=(hpw.2.2 q hq (i,.tl) (by simp)).1;simp only[gh,amC,anC]at h;refine⟨h.1,?_⟩;have h2:=h.2;split at h2
  ·simp only[anv,amC]at h2;rcases h2 with h2|h2
   ·exact(gA _ _ _ h2).ready I.cl hr
   ·simp at h2
  ·simp at h2
 have hnd:(i,DK.tl)∉done:=λh=>(adm _ h).1 rfl
 obtain⟨adM,adk⟩:=I.BS ok k0 hin hr ho (λh=>absurd h hnd);have hlt:i<listed.size:=by rw[I.sz];exact(anD.1 ho).1
 have hr':=hr;rw[anm]at hr';obtain⟨_,o',ho',acJ⟩:=hr';rw[ho]at ho';simp at ho';subst ho';have adZ:hA listed un=cA Hp.empty un:=qD (λu hu=>(adm _ (I.oA u hu).1).2);have hfr:∀u∈un,fr u.2.1=none:=λu hu=>dy I.ef (by have:=(I.oA u hu).2.2.1;simp only[lh];omega)
 have afE:eW g w (cA hp un) fr:=by
  have h1:=I.rel;have h2:=I.cw;rw[adZ]at h1 h2;exact⟨by rw[jH (λu hu=>(I.oA u hu).2.1)];exact h1,jI h2 hfr⟩
 have mk:∀(x:AV)(v:Value)(g':G)(w':World)(hp':Hp),G.Le g g'->V g' x v->eW g' w' hp' fr->
  dZ P ge d A N ops bc (done++[(i,.tl)]) rest (listed.setIfInBounds i true) (a.put o.dst v) w' [] [] (put tm o.dst x) hp' g' fr:=by
  intro x v g' w' hp' hle hv hrel;refine⟨by rw[I.split];simp,by simpa using I.sz,?_,?_,?_,?_,?_,?_,by simp only[hA,dP];exact hrel.rel,by simp only[hA,dP];exact hrel.cw,λu hu=>by simp at hu,.nil,I.ef,λp hp=>by simp at hp⟩
  ·intro k ok' hok hk e he hb;rw[eu hlt]at hk |-;right;rcases hk with rfl|hk
   ·rw[ho]at hok;simp at hok;subst hok;exact acJ e he hb
   ·exact I.cl k ok' hok hk e he hb
  ·intro q hq;have hpw:=ok.jW;rw[I.split,ano,anW]at hpw;have:=(hpw.2.1.1 q hq).1;simp only[gh,amC,anC]at this;rw[ann false this.1];exact I.rs q (by simp[hq])
  ·intro q hq hl;have:(listed.setIfInBounds i true).getD q.1 false=true:=by
    rw[eu hlt];rcases amZ.1 hq with hq|hq
    ·exact .inr (adm q hq).2
    ·simp at hq;subst hq;exact .inl rfl
   rw[this]at hl;simp at hl
  ·cases hdd:o.dst<;>simpa[Act.put,hdd]using I.Ed
  ·cases hdd:o.dst<;>simpa[Act.put,hdd]using I.dn
  ·intro t ht;by_cases e:o.dst=some t
   ·rw[gB e];have htN:t<N:=jF hd t e;simp only[e,Act.put];rw[am1,aoz (by rw[I.Ed];exact htN)];exact hv
   ·have e2:(a.put o.dst v).tmps.getD t undef=a.tmps.getD t undef:=by
     cases hdd:o.dst with
     |none=>rfl
     |some t'=>
      have:t'≠t:=λh=>e (by rw[hdd,h])
      simp only[Act.put];rw[am1,aoA this,<-am1]
    rw[e2,gN e];refine V.mono hle _ _ (I.iP t λq hq hl oq hoq=>?_);rw[(adm q hq).2]at hl;simp at hl
 unfold wpOp;simp only[ho];cases b with
 |false=>
  rw[adk _ hw,amL (by simp)];exact hK _ _ g _ _ (G.Le.refl g) (mk (.bR []) undef g w _ (G.Le.refl g) (kE g) afE) (D.1 rfl)
 |true=>
  rw[adk _ hw,amH rfl];left;refine aop (λa' w'⟨v,g',x,hp',e,h1,h2,h3,h4⟩=>?_) (D.2 rfl g fr w a Qc ?_ afE k0 adM)
  ·exact λj hj=>.inl (I.ef j hj)
  ·subst e;exact hK _ _ g' _ _ h1 (mk x v g' w' hp' h1 h3 h2) h4
def KW(n:Nat)(listed:Array amz):Nat:=((List.range n).filter λi=> !listed.getD i false).length
def Eg{n:Nat}(hi:i<n)(hs:i<listed.size)(hl:listed.getD i false=false):KW n (listed.setIfInBounds i true)+1=KW n listed:=by
 unfold KW;have key:∀l:amx Nat,l.Nodup->i∈l->(l.filter λk=> !(listed.setIfInBounds i true).getD k false).length+1=(l.filter λk=> !listed.getD k false).length:=by
  intro l
  induction l with
  |nil=>intro _ h;simp at h
  |cons k l ih=>
   intro hn hm;rw[List.nodup_cons]at hn;by_cases e:k=i
   ·subst e;have h1:(listed.setIfInBounds k true).getD k false=true:=(eu hs).2 (.inl rfl);rw[aoW (by simp only[h1];simp),aoX (by simp only[hl];rfl)];have:(l.filter λx=> !(listed.setIfInBounds k true).getD x false)=l.filter λx=> !listed.getD x false:=by
     apply List.filter_congr;intro x hx;rw[ann false (λh=>hn.1 (by rw[h];exact hx))]
    rw[this];rfl
   ·have hm':i∈l:=by
     rcases amE.1 hm with h|h
     ·exact absurd h.symm e
     ·exact h
    have h2:=ann (listed:=listed) false (anN e);by_cases h3:listed.getD k false=true
    ·rw[aoW (by rw[h2,h3];simp),aoW (by rw[h3];simp)];exact ih hn.2 hm'
    ·have h3':listed.getD k false=false:=by simpa using h3
     rw[aoX (by rw[h2,h3'];rfl),aoX (by rw[h3'];rfl)];simp only[amA];have:=ih hn.2 hm';omega
 exact key _ List.nodup_range (an0.2 hi)
def dZ.J9{g0:G}(I:dZ P ge d A N ops bc done rest listed a w pend un tm hp g fr)(ok:eR ops bc)(hl:G.kW (lh d) g0 g)(D:DR P ge d A N ops Q rest pend un tm hp)
 (acJ:∀i,i<ops.size->listed.getD i false=true):pt d g0 fr N Q .normal a w:=by
 have agP:rest=[]:=by
  cases rest with
  |nil=>rfl
  |cons p rest=>
   have h1:=I.rs p (by simp);have h2:=acJ p.1 (ok.YZ p (by rw[I.split];simp))
   grind
 subst agP;have afF:∀q∈done,listed.getD q.1 false=true:=λq hq=>acJ q.1 (ok.YZ q (by rw[I.split];simp[hq]))
 have adZ:hA listed un=cA Hp.empty un:=qD (λu hu=>afF _ (I.oA u hu).1);have hfr:∀u∈un,fr u.2.1=none:=λu hu=>dy I.ef (by have:=(I.oA u hu).2.2.1;simp only[lh];omega)
 have h1:=I.rel;have h2:=I.cw;rw[adZ]at h1 h2;refine⟨g,tm,cA hp un,hl,⟨by rw[jH (λu hu=>(I.oA u hu).2.1)];exact h1,jI h2 hfr⟩,⟨I.Ed,λt=>I.iP t λq hq hlq=>?_⟩,I.dn,D⟩;rw[afF q hq]at hlq;simp at hlq
def lU(hg:∃rk:Nat->Nat,nP rk ops=true/\∀n m,m<ops.size->rk n<rk m->n<ops.size)(hs:listed.size=ops.size)(h:∃i,i<ops.size/\listed.getD i false=false):Region.ready .any ops listed≠ []:=by
 obtain⟨i,hi,hl⟩:=h;obtain⟨rk,hg,hb0⟩:=hg;generalize hn:rk i=n
 induction n using Nat.strongRecOn generalizing i with
 |_ n ih=>
  by_cases hex:∃k,rk k<rk i/\k<ops.size/\listed.getD k false=false
  ·obtain⟨k,hk,hks,hkl⟩:=hex;exact ih (rk k) (by omega) k hks hkl rfl
  ·intro hnil;have aeT:i∈Region.ready .any ops listed:=by
    rw[anm];refine⟨?_,ops[i],by simp[hi],λe he hb=>?_⟩
    ·rw[am1]at hl |-;rw[aoB (by omega)]at hl |-;exact hl
    ·have h1:=amR.1 hg i (an0.2 hi);simp only[aoB hi,amC]at h1;have h2:=aoq.1 h1.1.2 e he;simp only[hb,aor,Bool.false_or,amS]at h2;cases hh:listed.getD e.on false with
     |true=>rfl
     |false=>
      exact absurd ⟨e.on,h2,hb0 _ _ hi h2,hh⟩ hex
   rw[hnil]at aeT;simp at aeT
def DR.bN{g0:G}(ok:eR ops bc)(hN:∀(i:Nat)(o:Oper),ops[i]?=some o->gz N o.dst=true):∀(fuel:Nat){listed:Array amz}{a:Act}{w:World}{done rest:amx (Nat×DK)}
 {pend:amx (Nat×(Hp->Prop))} {un:Un} {tm:Tm} {hp:Hp} {g:G},dZ P ge d A N ops bc done rest listed a w pend un tm hp g fr->DR P ge d A N ops Q rest pend un tm hp->lJ g ge->
 G.kW (lh d) g0 g->KW ops.size listed=fuel->wpAny P .any ops (pt d g0 fr N Q) fuel listed a w:=by
 intro fuel
 induction fuel with
 |zero=>
  intro listed a w done rest pend un tm hp g I D k0 hl hu;have acJ:∀i,i<ops.size->listed.getD i false=true:=by
   intro i hi;have h0:((List.range ops.size).filter λi=> !listed.getD i false)=[]:=anu hu;have:=List.filter_eq_nil_iff.1 h0 i (an0.2 hi);simpa using this
  refine⟨?_,I.J9 ok hl D acJ⟩;cases hr:Region.ready .any ops listed with
  |nil=>rfl
  |cons i l=>
   have aeT:i∈Region.ready .any ops listed:=by rw[hr];simp
   rw[anm]at aeT;obtain⟨h1,o,ho,_⟩:=aeT;have hi:=(anD.1 ho).1;have h2:=acJ i hi;rw[am1,aoB (by rw[I.sz];exact hi)]at h1 h2;simp at h1 h2;rw[h1]at h2;simp at h2
 |succ fuel ih=>
  intro listed a w done rest pend un tm hp g I D k0 hl hu;refine⟨λhr=>?_,λi hi=>?_⟩
  ·refine I.J9 ok hl D λi hi=>?_
   cases h:listed.getD i false with
   |true=>rfl
   |false=>exact absurd hr (lU ok.KV I.sz ⟨i,hi,h⟩)
  ·have hi':=hi;rw[anm]at hi';obtain⟨h1,o,ho,_⟩:=hi';have hlt:=(anD.1 ho).1;have hls:i<listed.size:=by rw[I.sz];exact hlt
   have hli:listed.getD i false=false:=by
    rw[am1,aoB hls]at h1 |-;exact h1
   have adJ:KW ops.size (listed.setIfInBounds i true)=fuel:=by
    have:=Eg hlt hls hli;omega
   obtain⟨k,hk⟩:=ok.all i hlt;rw[I.split]at hk;rcases amZ.1 hk with hk|hk
   ·exact I.run (p:=(i,k)) ok k0 hk hli hi (λo ho=>hN i o ho) λa' w' g' h2 I'=>ih I' D (k0.mono h2) (hl.trans (h2.some _)) adJ
   ·obtain⟨fs,ai6,rfl⟩:=List.append_of_mem hk;have hpw:=ok.jW;rw[I.split,ano]at hpw;have hpr:=hpw.2.1;rw[ano]at hpr;have hfs:∀p∈fs,(p.2= .fl\/∃j,p.2= .al j)/\k≠ .tl:=by
     intro p hp;have h:=(hpr.2.2 p hp (i,k) (by simp)).1;have hun:=I.rs p (anw _ hp);simp only[gh,amC,anC]at h;have h2:=h.2;split at h2
     ·simp only[anv,amC]at h2;rcases h2 with h2|h2
      ·have:=(gA _ _ _ h2).ready I.cl hi;rw[this]at hun;simp at hun
      ·refine⟨?_,by simpa using h2.1.1.2⟩;rcases h2.1.1.1 with h3|h3
       ·exact .inl (by simpa using h3)
       ·right;cases hp2:p.2 with
        |al j=>exact⟨j,rfl⟩
        |_=>rw[hp2]at h3;simp at h3
     ·simp at h2
    obtain⟨agO,un1,tm1,I1,D1⟩:=dZ.ta fs (λp hp=>(hfs p hp).1) I ok D;cases k with
    |fl=>
     obtain⟨afD,un2,tm2,I2,D2⟩:=I1.qC ok (.inl rfl) D1;exact I2.run (p:=(i,.fl)) ok k0 (by simp) hli hi (λo ho=>hN i o ho) λa' w' g' h2 I'=>ih I' D2 (k0.mono h2) (hl.trans (h2.some _)) adJ
    |al j=>
     obtain⟨afD,un2,tm2,I2,D2⟩:=I1.qC ok (.inr ⟨j,rfl⟩) D1;exact I2.run (p:=(i,.al j)) ok k0 (by simp) hli hi (λo ho=>hN i o ho) λa' w' g' h2 I'=>ih I' D2 (k0.mono h2) (hl.trans (h2.some _)) adJ
    |ch=>exact I1.chain ok k0 hi D1 λ_ a' w' g' tm' hp' h2 I' D'=>ih I' D' (k0.mono h2) (hl.trans (h2.some _)) adJ
    |tl=>exact I1.tail ok k0 hi D1 λa' w' g' tm' hp' h2 I' D'=>ih I' D' (k0.mono h2) (hl.trans (h2.some _)) adJ
    |tp=>exact I1.Oz ok k0 hi D1 λa' w' g' tm' hp' h2 I' D'=>ih I' D' (k0.mono h2) (hl.trans (h2.some _)) adJ
end agG
def gO(ops:Array Oper)(bc:amx (Nat×DK)):amz:=
 acZ bc&&((List.range ops.size).all λi=>bc.any λp=>p.1==i)&&(bc.all λp=>decide (p.1<ops.size))&&BV ops&&
 (bc.all λp=>match p.2 with
  |.fl|.al _=>(match ops[p.1]? with
   |some o=>(match o.dst with|some t=> !(o.looksAt ops).contains t|none=>true)
   |none=>true)
  |_=>true)
where
 acZ:amx (Nat×DK)->amz
  | []=>true
  |p::l=>(l.all λq=>gh ops p q&&jG ops p q)&&acZ l
def OA(ms:amx Nat)(ops:Array Oper)(p q:Nat×DK):amz:=
 p.1 != q.1&&
 match ops[p.1]?,ops[q.1]? with
 |some a,some b=>
  (ms.getD q.1 0).testBit p.1||
  ((p.2== .fl||(match p.2 with|.al _=>q.2 != .tp|_=>false))&&(q.2 != .tl)&&iD ops a.dst b&&iD ops b.dst a)
 |_,_=>false
def Eh(ms:amx Nat)(ops:Array Oper):amz:=(List.range ops.size).all λi=>match ops[i]? with
 |some o=>(match o.guard with|some (j,_)=>(ms.getD i 0).testBit j|none=>true)&&o.after.all (λe=> !Region.binds .any e||decide (e.on<i))&&(match o.op with|.select ..=>false|_=>true)
 |none=>true
def qE(ms:amx Nat)(ops:Array Oper):amx (Nat×DK)->amz
 | []=>true
 |p::l=>(l.all λq=>OA ms ops p q&&jG ops p q)&&qE ms ops l
def nQ:amx Nat->(amx Nat->amz)->amz
 | [],K=>K []
 |m::r,K=>match m with
  |0=>nQ r λr=>K (0::r)
  |n+1=>nQ r λr=>K ((n+1)::r)
def lm:(ms:amx Nat)->(K:amx Nat->amz)->nQ ms K=K ms
 | [],_=>rfl
 |0::r,_=>lm r _
 |(_+1)::r,_=>lm r _
def uL(ops:Array Oper)(bc:amx (Nat×DK)):amz:=nQ (s8 ops.toList []) λms=>
 qE ms ops bc&&((List.range ops.size).all λi=>bc.any λp=>p.1==i)&&(bc.all λp=>decide (p.1<ops.size))&&Eh ms ops&&
 (bc.all λp=>match p.2 with
  |.fl|.al _=>(match ops[p.1]? with
   |some o=>(match o.dst with|some t=> !(o.looksAt ops).contains t|none=>true)
   |none=>true)
  |_=>true)
def pV(bc:amx (Nat×DK)):uL ops bc=gO ops bc:=by
 have hp:∀l,qE (s8 ops.toList []) ops l=gO.acZ ops l:=by
  intro l
  induction l with
  |nil=>rfl
  |cons p l ih=>simp only[qE,gO.acZ,ih];rfl
 rw[uL,lm,gO,hp];rfl
def lV{bc:amx (Nat×DK)}(h:gO ops bc=true):eR ops bc:=by
 simp only[gO,amC]at h;obtain⟨⟨⟨⟨h1,h2⟩,h3⟩,h4⟩,h5⟩:=h;have hp:∀l:amx (Nat×DK),gO.acZ ops l=true->l.Pairwise λp q=>gh ops p q=true/\jG ops p q=true:=by
  intro l
  induction l with
  |nil=>intro _;exact .nil
  |cons p l ih=>
   intro h;simp only[gO.acZ,amC,amR]at h;exact anW.2 ⟨λq hq=>h.1 q hq,ih h.2⟩
 refine⟨hp _ h1,λi hi=>?_,λp hp'=>?_,⟨_,h4,λn m h1 h2=>Nat.lt_trans h2 h1⟩,λp hp' hk o ho t ht=>?_⟩
 ·have:=amR.1 h2 i (an0.2 hi);rw[anx]at this;obtain⟨q,hq,e⟩:=this;simp at e;exact⟨q.2,by rw[<-e];exact hq⟩
 ·simpa using amR.1 h3 p hp'
 ·have:=amR.1 h5 p hp';rcases hk with hk|⟨j,hk⟩<;>simp only[hk,ho,ht]at this<;>simpa using this
def bB.uM{d N id:Nat}{Q:ff}{tm:Tm}{hp:Hp}(bc:amx (Nat×DK))(A:amx Nm)(hm:P.follows .mixedOrders=true)(ho:gO ops bc=true)
 (hN:(ops.all λo=>gz N o.dst)=true) (h:DR P ge d A N ops Q bc [] [] tm hp):bB P ge d N (.region id ops true) Q tm hp:=by
 intro g fr w a f r k v dd;refine wp_region_any hm ?_;have ok:=lV ho;have aeU:∀k,(Array.replicate ops.size false).getD k false=false:=by
  intro k;rw[am1,aoV]
  grind
 refine DR.bN (P:=P) (ge:=ge) (d:=d) (A:=A) (N:=N) (Q:=Q) (fr:=fr) ok (λi o hi=>aoq.1 hN o (aoC hi)) ops.size (done:=[]) (rest:=bc) (g:=g) ?_ h k (G.kW.refl _ g) ?_
 ·refine⟨rfl,by simp,?_,λp _=>aeU p.1,λp hp=>by simp at hp,v.1,dd,λt _=>v.2 t,?_,?_,λu hu=>by simp at hu,.nil,f.aF,λp hp=>by simp at hp⟩
  ·intro k o _ hk
   grind
  ·simp only[hA,dP];exact(r.rel.drew (w.drawn+1))
  ·simp only[hA,dP];exact r.cw
 ·unfold KW;rw[List.filter_eq_self.2 (λi _=>by rw[aeU];rfl)];simp
end
end Go.Ab

/- The logic of the walk. -/
import Derived.Orders
import Derived.Test.YtoknehglgeiopaaGreatDoorA1
set_option linter.all false
open Go Go.RowKit
namespace Go.Ab
section
variable {P:Program}{ge:GE}{F:Nm->Prop}{d N:Nat}{tm:Tm}{hp:Hp}{K:G->Hp->Prop}{o:Oper}
theorem dW.mono{f args D R'}(h:dW P ge d f args hp D)(z:∀x hp,D x hp->R' x hp):dW P ge d f args hp R':=λg fr w vs a r k v=>(h g fr w vs a r k v).mono λ_ _⟨u,g',x,y,e,b,c,i,j⟩=>⟨u,g',x,y,e,b,c,i,z _ _ j⟩
def dW.sub{f args x D}(h:dW P ge d f x hp D)(hs:bF args x):dW P ge d f args hp D:=λg fr w vs y r k v=>h g fr w vs y r k (VL.sub hs _ v)
def bW(P:Program)(f:FuncId):At:=match P.funcs[f]? with
 |some fn=>fn.body.isSome&& !(fn.name== "runtime.NumGoroutine")
 |none=>false
theorem aa1{f}(h:bW P f=true)args w:(callFunc f args).run P w= .ok (.enter f args) w:=by
 unfold bW at h;split at h
 .rename_i fn y;simp only[BR,Ko,JR]at h;have x:fn.body≠none:=by intro e;simp[e]at h
  simp[callFunc,program,Sem.run,y,h.2,x]
 .simp at h
mutual
theorem lA {S D:Nm->Prop} (h:∀j,S j->D j):(x:G)->x.aM S->x.aM D
 |.bool _,_=>trivial
 |.int _ _,_=>trivial
 |.str _,_=>trivial
 |.eM,_=>trivial
 |.eU j off,e=>by simp only[G.aM]at e |-;exact h j e
 |.aS cs off,e=>by simp only[G.aM]at e |-;exact ln h cs e
 |.sl sz tok xs,e=>by
  simp only[G.aM]at e |-;refine⟨?_,ln h xs e.2⟩;cases tok<;>simp only[jV.aM]at e |-
  grind
 |.ms j _ _,e=>by simp only[G.aM]at e |-;exact h j e
 |.sub j _ _ _ _,e=>by simp only[G.aM]at e |-;exact h j e
 |.dP,_=>trivial
 |.map j,e=>by simp only[G.aM]at e |-;exact h j e
 |.fn f a b,e=>by simp only[G.aM]at e |-;exact⟨ln h a e.1,ln h b e.2⟩
 |.bX,_=>trivial
 |.iface t v,e=>by simp only[G.aM]at e |-;exact lA h v e
 |.nilIface,_=>trivial
 |.agg cs,e=>by simp only[G.aM]at e |-;exact ln h cs e
 |.bZ cs,e=>by simp only[G.aM]at e |-;exact ln h cs e
 |.any,_=>trivial
 |.mR _,_=>trivial
theorem ln {S D:Nm->Prop} (h:∀j,S j->D j):(xs:U G)->hH S xs->hH D xs
 | [],_=>trivial
 |x::xs,e=>by simp only[hH]at e |-;exact⟨lA h x e.1,ln h xs e.2⟩
end
def qs{S D}(h:∀j,S j->D j){o:bB}(e:o.aM S):o.aM D:=by
 cases o with
 |cells cs=>exact ln h cs e
 |map y=>exact λx hx=>⟨lA h _ (e x hx).1,lA h _ (e x hx).2⟩
 |tail=>trivial
 |sG=>trivial
 |yB i=>exact h i e
 |bD=>exact ln h _ e
def oY(P:Program)(tm:Tm)(hp:Hp):ResultVar->T G
 |.tmp t=>some (get tm t)
 |.cell a t=>fY P hp t (get tm a)
def gZ(P:Program)(tm:Tm)(hp:Hp):U ResultVar->T (U G)
 | []=>some []
 |x::xs=>(oY P tm hp x).bind λy=>(gZ P tm hp xs).map (y:: ·)
def mT(P:Program)(tm:Tm)(hp:Hp)(rs:U ResultVar):T G:=
 (gZ P tm hp rs).map λl=>match l with
  | [x]=>x
  |l=>.bZ l
def avE{g w}(r:dy g w hp){t x y v}(c:ac g x v)(hx:fY P hp t x=some y):
 ∃a u,v= .pointer (some a)/\(loadVar t a).run P w= .ok u w/\ac g y u:=by
 unfold fY at hx;split at hx
 .simp only[ac]at c;split at hx
  .rename_i cs f;cases z:gV P t with
   |none=>simp[z]at hx
   |some i=>
    cases b:du P t with
    |none=>simp[z,b]at hx
    |some n=>
     simp[z,b]at hx;obtain⟨u,d,e⟩:=r.yQ z b f hx;exact⟨_,u,c.2,d,e⟩
  .simp at hx
 .cases z:gV P t with
  |none=>simp[z]at hx
  |some i=>
   cases b:du P t with
   |none=>simp[z,b]at hx
   |some n=>
    simp[z,b]at hx;obtain⟨q,u,j,d,e⟩:=r.qF z b c hx NP;exact⟨q,u,j,d,e⟩
 .simp at hx
def vV(tmps:Array Value):ResultVar->Sem Value
 |.tmp t=>Pure.pure (tmps.getD t undef)
 |.cell a t=>do loadVar t (<-asAddr (tmps.getD a undef))
def ahL{g w tmps}(r:dy g w hp)(v:VT g N tm tmps):∀rs{l},gZ P tm hp rs=some l->
 ∃vs,(rs.mapM (vV tmps)).run P w=Result.ok vs w/\VL g l vs
 | [],l,h=>by simp[gZ]at h;subst h;exact⟨[],by simp,by simp[VL]⟩
 |x::xs,l,h=>by
  simp only[gZ]at h;cases hx:oY P tm hp x with
  |none=>simp[hx]at h
  |some y=>
   cases z:gZ P tm hp xs with
   |none=>simp[hx,z]at h
   |some ys=>
    simp[hx,z]at h;subst h;obtain⟨vs,b,c⟩:=ahL r v xs z;cases x with
    |tmp t=>
     simp[oY]at hx;subst hx;refine⟨tmps.getD t undef::vs,?_,by simp only[VL];exact⟨_,_,rfl,v.get t,c⟩⟩;rw[List.mapM_cons,FO];simp only[vV,Iu,G4,FO,b]
    |cell a t=>
     simp only[oY]at hx;obtain⟨f,u,e,k1,d⟩:=avE r (v.get a) hx;refine⟨u::vs,?_,by simp only[VL];exact⟨_,_,rfl,d,c⟩⟩;rw[List.mapM_cons,FO];simp only[vV,e,asAddr,FO,Iu,G4,k1,b]
def aiy{g w tmps}(r:dy g w hp)(v:VT g N tm tmps){fn x}(h:mT P tm hp fn.results.toList=some x):
 ∃u,(results fn tmps).run P w= .ok u w/\ac g x u:=by
 unfold mT at h;cases d:gZ P tm hp fn.results.toList with
 |none=>simp[d]at h
 |some l=>
  simp only[d,Jm,Hs]at h;obtain⟨vs,f,c⟩:=ahL (P:=P) r v _ d;have z:=VL.length _ _ c;refine⟨if h:vs.toArray.size=1 then vs.toArray[0]else .tuple vs.toArray,?_,?_⟩
  .have e:results fn tmps=(do let vs<-fn.results.mapM (vV tmps);Pure.pure (if h:vs.size=1 then vs[0]else .tuple vs)):=by
    unfold results;congr 1
   rw[e,FO,Array.mapM_eq_mapM_toList];simp only[Sem.run_map,f];rfl
  .subst h
   match l,c,z with
   | [],c,z=>
    have:¬vs.toArray.size=1:=by simp at z;simp[z]
    rw[dif_neg this];simp only[ac];exact⟨_,rfl,by simpa using c⟩
   | [y],c,z=>
    simp only[VL]at c;obtain⟨k,rest,rfl,i,j⟩:=c;subst j;simpa using i
   |a::b::l,c,z=>
    have:¬vs.toArray.size=1:=by simp at z;simp[z]
    rw[dif_neg this];simp only[ac];exact⟨_,rfl,by simpa using c⟩
def aab{hp hq}(h:AD hp hq){r y}(hx:oY P tm hp r=some y):oY P tm hq r=some y:=by
 cases r with
 |tmp t=>exact hx
 |cell a t=>exact mS h hx
def qG{hp hq}(h:AD hp hq):∀rs{l},gZ P tm hp rs=some l->gZ P tm hq rs=some l
 | [],l,e=>e
 |r::rs,l,e=>by
  simp only[gZ]at e |-;cases hx:oY P tm hp r with
  |none=>simp[hx]at e
  |some y=>
   cases x:gZ P tm hp rs with
   |none=>simp[hx,x]at e
   |some ys=>rw[aab h hx,qG h rs x];simpa[hx,x]using e
def aht{hp hq}(h:AD hp hq){rs y}(hx:mT P tm hp rs=some y):mT P tm hq rs=some y:=by
 unfold mT at hx |-;cases x:gZ P tm hp rs with
 |none=>simp[x]at hx
 |some l=>rw[qG h rs x];simpa[x]using hx
def ajM(P:Program)(fn:Func)(z:Hp)(D:G->Hp->Prop):fX:=λe tm hp=>
 (e= .normal\/e= .ret)/\∃a x,mT P tm hp fn.results.toList=some a/\Sub a x/\∃y:Hp,AD y hp/\(∀j,(z j).isSome=true->(y j).isSome=true)/\
  x.aM (λj=>(y j).isSome=true)/\(∀j o,y j=some o->z j=some o\/o.aM (λj=>(y j).isSome=true))/\D x y
def qH(k:Nat):U G->Tm
 | []=>[]
 |x::xs=>(k,x)::qH (k+1) xs
def uZ{g}:∀xs vs,VL g xs vs->∀k t rest,ac g (get (qH k xs) t) ((rest++vs).getD t undef)\/rest.length≠k
 | [],vs,h,k,t,rest=>by left;simp only[qH,get,ac]
 |x::xs,vs,h,k,t,rest=>by
  simp only[VL]at h;obtain⟨v,vs,rfl,z,a⟩:=h;by_cases y:rest.length=k
  .left;simp only[qH,ff];split
   .rename_i e;subst e;subst y;simpa using z
   .rcases uZ xs vs a (k+1) t (rest++[v])with h|h
    .simpa using h
    .simp at h;omega
  .right;exact y
def Hp.out(hp:Hp)(d:Nat):Prop:=∀j,(hp j).isSome=true->j.1<d
def dW.enter{f fn c args a0}(hd:Hp.out hp d)(hf:P.funcs[f]?=some fn)(hb:fn.body=some c)(hn:args.length<=fn.ntmps)(h:br P ge d fn.ntmps c (ajM P fn hp a0) (qH 0 args) hp):dW P ge d f args hp a0:=by
 intro g fr w vs D r k v;have q:=VL.length _ _ v;simp only[LJ]at q;refine calls_of_wp hf hb ?_;have vt:VT g fn.ntmps (qH 0 args) (vs++Array.replicate (fn.ntmps-vs.size) undef):=by
  refine⟨by simp;omega,λt=>?_⟩;rcases uZ args vs.toList v 0 t []with h|h
  .have e:(vs++Array.replicate (fn.ntmps-vs.size) undef).getD t undef=vs.toList.getD t undef:=by
    rw[JA,Array.getElem?_append];split
    .simp
    .rename_i hge;rw[ahf];have h1:vs.toList[t]?=none:=by simp;omega
     rw[LG,h1];split<;>rfl
   rw[e];simpa using h
  .simp at h
 have dG:AF d fr:=⟨D,λj o z=>by
  have b:bG hp fr j=some o:=by
   rcases r.cM j with e|e
   .rw[bM e];exact z
   .rw[e]at z;simp at z
  refine qs (λi hi=>?_) (r.rel.fR j o b).aM;have:=(r.rel.dC i).1 hi;cases e:hp i with
  |some p=>exact hd i CD
  |none=>rw[bM e]at this;exact D i this⟩
 refine LS (h g fr w ⟨vs++Array.replicate (fn.ntmps-vs.size) undef,[]⟩ dG r k vt rfl) λe X w'⟨g',tm',hp',l,C,v',d',hq⟩=>?_
 obtain⟨he,x0,x,hx,hs,y,s,A,hu,ho,hR⟩:=hq;obtain⟨u,K,m⟩:=aiy (P:=P) (hp:=bG hp' fr) C.rel v' (aht (λj o z=>aK z) hx);have m:=ac.sub hs _ m;have L:gp y fr:=λj=>by
  cases e:y j with
  |none=>exact .inl rfl
  |some o=>exact .inr (C.cM.none (s j o e))
 have n:∀j,g.dC j->(bG y fr j).isSome=true:=by
  intro j z;have:=(r.rel.dC j).1 z;cases e:hp j with
  |some o=>have:=A j CD;cases e2:y j with
   |none=>simp[e2]at this
   |some p=>simp[bG,e2]
  |none=>
   rw[bM e]at this;cases e2:y j with
   |none=>rw[bM e2];exact this
   |some p=>simp[bG,e2]
 have ez:∀j,(y j).isSome=true->(bG y fr j).isSome=true:=by
  intro j z;cases e:y j with
  |none=>simp[e]at z
  |some p=>simp[bG,e]
 have N:∀j o,bG y fr j=some o->o.aM (λj=>(bG y fr j).isSome=true):=by
  intro j o a;cases e:y j with
  |some p=>
   rw[aK e]at a;simp at a;subst a;rcases ho j p e with h|h
   .exact qs n (r.rel.fR j p (aK h)).aM
   .exact qs ez h
  |none=>
   rw[bM e]at a;have b:bG hp fr j=some o:=by
    cases e2:hp j with
    |none=>rw[bM e2];exact a
    |some p=>have:=A j (by simp[e2]);simp[e]at this
   exact qs n (r.rel.fR j o b).aM
 have Q:AV.Le g g':=l.all λj z=>by
  have:=(r.rel.dC j).1 z;cases e:hp j with
  |some o=>exact hd j CD
  |none=>rw[bM e]at this;exact D j this
 have dG:X.defers=[]/\∃v,(results fn X.tmps).run P w'= .ok v w'/\∃v_1 g' x hp',Ending.returned v= .returned v_1/\AV.Le g g'/\gh g' w' hp' fr/\ac g' x v_1/\a0 x hp':=
  ⟨d',u,K,u,g'.cut (λi=>(bG y fr i).isSome=true),x,y,rfl,Q.cut n,⟨C.rel.cut (AD.bG fr s C.cM) N,L⟩,ac.cut _ _ m (lA ez _ hu),hR⟩
 rcases he with rfl|rfl
 .exact dG
 .exact dG
theorem AD.refl hp:AD hp hp:=λ_ _ h=>h
def dW.y0{f args hq D}(h:dW P ge d f args hp D)(l:Hp.out hq d)(hd:gp hp hq):
 dW P ge d f args (bG hp hq) (λx h'=>∃z,h'=bG z hq/\gp z hq/\D x z):=by
 intro g fr w vs m r k v;have a:gp hp (bG hq fr):=λj=>by
  rcases hd j with e|e
  .exact .inl e
  .cases e2:hp j with
   |none=>exact .inl rfl
   |some o=>exact .inr (cm e (r.cM.none (aK (b:=hq) e2)))
 refine(h g (bG hq fr) w vs (λj i=>?_) ⟨by rw[<-lV];exact r.rel,a⟩ k v).mono λe w'⟨u,g',x,y,e1,k1,c,n,k4⟩=>?_
 .cases e:hq j with
  |some o=>exact l j CD
  |none=>rw[bM e]at i;exact m j i
 .refine⟨u,g',x,bG y hq,e1,k1,⟨by rw[lV];exact c.rel,λj=>?_⟩,n,y,rfl,λj=>?_,k4⟩
  .cases e:fr j with
   |none=>exact .inr rfl
   |some o=>
    left;refine cm ?_ ?_
    .rcases c.cM j with h'|h'
     .exact h'
     .cases e2:hq j with
      |some p=>rw[aK e2]at h';simp at h'
      |none=>rw[bM e2,e]at h';simp at h'
    .rcases r.cM j with h'|h'
     .cases e2:hq j with
      |none=>rfl
      |some p=>
       rcases hd j with h3|h3
       .rw[bM h3,e2]at h';simp at h'
       .rw[e2]at h3;simp at h3
     .rw[e]at h';simp at h'
  .rcases c.cM j with h'|h'
   .exact .inl h'
   .cases e2:hq j with
    |none=>exact .inr rfl
    |some p=>rw[aK e2]at h';simp at h'
def ej:Hp:=λ_=>none
def eO h:bG ej h=h:=by funext j;simp[bG,ej]
def ac0{f args}{D:G->Prop}(h:dW P ge d f args ej (λx y=>y=ej/\D x))(z:Hp.out hp d):
 dW P ge d f args hp (λx y=>y=hp/\D x):=by
 have:=(h.y0 (hq:=hp) z (λ_=>.inl rfl));rw[eO]at this;exact this.mono λx y⟨a,e1,_,e2,e3⟩=>⟨by rw[e1,e2,eO],e3⟩
end
section
variable {P:Program}{ge:GE}{ops:Array Oper}
inductive Reach (ops:Array Oper):Nat->Nat->Prop
 |JS {i k:Nat} {o:Oper} {e:Edge}:ops[k]?=some o->e∈o.after->Region.binds .any e=true->e.on=i->Reach ops i k
 |trans {i j k:Nat}:Reach ops i j->Reach ops j k->Reach ops i k
def oo(acc:U Nat):U Edge->Nat
 | []=>0
 |e::r=>cond (Region.binds .any e) (2 ^ e.on ||| acc.getD e.on 0 ||| oo acc r) (oo acc r)
def y3:U Oper->U Nat->U Nat
 | [],acc=>acc
 |o::r,acc=>y3 r (acc++[oo acc o.after.toList])
def AL(ops:Array Oper)(_ i k:Nat):At:=((y3 ops.toList []).getD k 0).testBit i
def mU{acc i}:∀b,(oo acc b).testBit i=true->∃e∈b,Region.binds .any e=true/\(e.on=i\/(acc.getD e.on 0).testBit i=true)
 | [],h=>by simp[oo]at h
 |e::r,h=>by
  simp[oo]at h;cases x:Region.binds .any e with
  |false=>
   rw[x]at h;obtain⟨y,z,a⟩:=mU r h;exact⟨y,by simp[z],a⟩
  |true=>
   rw[x]at h;simp at h;rcases h with(h|h)|h
   .rw[Nat.testBit_two_pow]at h;exact⟨e,by simp,x,.inl Do⟩
   .exact⟨e,by simp,x,.inr h⟩
   .obtain⟨y,z,a⟩:=mU r h;exact⟨y,by simp[z],a⟩
def sN:∀r acc,(∀k i,(acc.getD k 0).testBit i=true->Reach ops i k)->(∀n o,r[n]?=some o->ops[acc.length+n]?=some o)->∀k i,((y3 r acc).getD k 0).testBit i=true->Reach ops i k
 | [],acc,h,_,k,i,e=>h k i e
 |o::r,acc,h,a,k,i,e=>by
  refine sN r _ (λk i x=>?_) (λn o' d=>?_) k i e
  .by_cases f:k<acc.length
   .rw[LG,Ld f,<-LG]at x;exact h k i x
   .by_cases z:k=acc.length
    .subst z;rw[LG,P5 (Hq _)]at x;simp at x;obtain⟨g,b,c,h3⟩:=mU _ x;have y:=a 0 o rfl;rcases h3 with h3|h3
     .exact .JS y (by simpa using b) c h3
     .exact .trans (h _ _ h3) (.JS y (by simpa using b) c rfl)
    .rw[LG,Ll Ar]at x;simp at x
  .have:=a (n+1) o' (by simpa using d);simpa[Li,LL 1 n]using this
def iP n i k(h:AL ops n i k=true):Reach ops i k:=sN ops.toList [] (λk i h=>by simp at h) (λn o x=>by simpa using x) k i h
def AM(ops:Array Oper)(listed:Array At):Prop:=∀k o,ops[k]?=some o->listed.getD k false=true->∀e∈o.after,Region.binds .any e=true->listed.getD e.on false=true
def Reach.listed{listed}(b:AM ops listed){i k}(h:Reach ops i k):listed.getD k false=true->listed.getD i false=true:=by
 induction h with
 |JS c d e x=>intro y;subst x;exact b _ _ c y _ d e
 |trans _ _ z a=>exact λy=>z (a y)
def Reach.ready{listed}(y:AM ops listed){i k}(h:Reach ops i k):k∈Region.ready .any ops listed->listed.getD i false=true:=by
 induction h with
 |JS c d e z=>
  grind [mem_ready,grind]
 |trans a _ _ x=>exact λb=>a.listed y (x b)
inductive DK where
 |fl
 |al (j:Nm)
 |ch
 |tl
 |tp
 deriving DecidableEq
def ik(ops:Array Oper)(tm:Tm)(o:Oper):T At:=
 match o.guard with
 |none=>some true
 |some (j,x)=>match(ops[j]?).bind (·.dst)with
  |some t=>match get tm t with
   |.bool b=>some (b==x)
   |.bZ []=>some false
   |_=>none
  |none=>none
abbrev Un:=U (Nat×Nm×U G)
def da(hp:Hp):Un->Hp
 | []=>hp
 |(_,j,cs)::l=>cW (da hp l) j (.cells cs)
def FA(d:Nat)(A:U Nm):Nm->Prop:=λj=>j.1<d\/j∈A
def Ho(n:Nat):U Edge->At
 | []=>false
 |e::r=>(Nat.beq e.on n&&Region.binds .any e)||Ho n r
def y4(o:Oper)(n:Nat):At:=Ho n o.after.toList
def u5{n}:∀{l},Ho n l=true->∃e∈l,e.on=n/\Region.binds .any e=true
 | [],h=>by simp[Ho]at h
 |e::r,h=>by
  simp only[Ho,K5,BR]at h;rcases h with⟨x,y⟩|h
  .exact⟨e,by simp,FU x,y⟩
  .obtain⟨z,x,y⟩:=u5 h
   grind
def DR(P:Program)(ge:GE)(d:Nat)(A:U Nm)(N:Nat)(ops:Array Oper)(Q:fX):U (Nat×DK)->U (Nat×(Hp->Prop))->Un->Tm->Hp->Prop
 | [],_,un,tm,hp=>Q .normal tm (da hp un)
 |(i,k)::rest,pend,un,tm,hp=>∃o,ops[i]?=some o/\iO N o.dst=true/\∃b,ik ops tm o=some b/\
  match k with
  |.fl=>(b=false->DR P ge d A N ops Q rest ((i,λ_=>True)::pend) un (put tm o.dst (.bZ [])) hp)/\
   (b=true->∃x S,Ev P ge o tm S x/\Up S/\S hp/\DR P ge d A N ops Q rest ((i,S)::pend) un (put tm o.dst x) hp)
  |.al j=>b=true/\j.1=d/\j∈A/\(∀u∈un,u.2.1≠j)/\∃cs t,o.op= .alloc t/\jK P t=some cs/\hp j=none/\
   DR P ge d A N ops Q rest ((i,λ_=>True)::pend) ((i,j,cs)::un) (put tm o.dst (.eU j 0)) hp
  |.ch=>∃z:U (Nat×(Hp->Prop)),(∀p∈z,p∈pend)/\(∀p∈pend,p∈z\/y4 o p.1=true)/\(b=false->DR P ge d A N ops Q rest z un (put tm o.dst (.bZ [])) hp)/\
   (b=true->eW P ge (FA d A) o tm hp λx y=>(∀p∈z,p.2 y)/\(∀u∈un,y u.2.1=none)/\DR P ge d A N ops Q rest z un (put tm o.dst x) y)
  |.tl=>(b=false->DR P ge d A N ops Q rest [] [] (put tm o.dst (.bZ [])) (da hp un))/\
   (b=true->eW P ge (FA d A) o tm (da hp un) λx y=>DR P ge d A N ops Q rest [] [] (put tm o.dst x) y)
  |.tp=>(∀p∈pend,p.2 (da hp un))/\(b=false->DR P ge d A N ops Q rest pend [] (put tm o.dst (.bZ [])) (da hp un))/\
   (b=true->eW P ge (FA d A) o tm (da hp un) λx y=>(∀p∈pend,p.2 y)/\DR P ge d A N ops Q rest pend [] (put tm o.dst x) y)
def kz(ops:Array Oper)(t:T Tmp)(o:Oper):At:=
 match t with
 |none=>true
 |some t=> !(o.looksAt ops).contains t&&o.dst !=some t
def iB(ops:Array Oper)(p q:Nat×DK):At:=
 p.1 !=q.1&&
 match ops[p.1]?,ops[q.1]? with
 |some a,some b=>
  AL ops ops.size p.1 q.1||
  ((p.2== .fl||(match p.2 with|.al _=>q.2 !=.tp|_=>false))&&(q.2 !=.tl)&&kz ops a.dst b&&kz ops b.dst a)
 |_,_=>false
def lX(ops:Array Oper)(p q:Nat×DK):At:=
 match q.2 with
 |.fl|.al _=>match ops[p.1]?,ops[q.1]? with
  |some a,some b=>kz ops b.dst a
  |_,_=>false
 |_=>true
def ru(rk:Nat->Nat)(ops:Array Oper):At:=(List.range ops.size).all λi=>match ops[i]? with
 |some o=>(match o.guard with|some (j,_)=>AL ops ops.size j i|none=>true)&&o.after.all (λe=> !Region.binds .any e||decide (rk e.on<rk i))&&(match o.op with|.select ..=>false|_=>true)
 |none=>true
def avH(ops:Array Oper):At:=ru (λn=>n) ops
structure fZ(ops:Array Oper)(bA:List (Nat×DK)):Prop where
 mA:bA.Pairwise λp q=>iB ops p q=true/\lX ops p q=true
 all:∀i,i<ops.size->∃k,(i,k)∈bA
 inb:∀p∈bA,p.1<ops.size
 Rs:∃rk:Nat->Nat,ru rk ops=true/\∀n m,m<ops.size->rk n<rk m->n<ops.size
 Vp:∀p∈bA,(p.2= .fl\/∃j,p.2= .al j)->∀o,ops[p.1]?=some o->∀t,o.dst=some t->t∉o.looksAt ops
def hA(listed:Array At):Un->Hp
 | []=>ej
 |(i,j,cs)::l=>if listed.getD i false then cW (hA listed l) j (.cells cs)else hA listed l
def mV(P:Program)(ge:GE)(ops:Array Oper)(pend:U (Nat×(Hp->Prop)))(un:Un)(tm:Tm)(hp:Hp)(i:Nat):Prop:=
 ∃o,ops[i]?=some o/\
  (
   (ik ops tm o=some false/\(∀t,o.dst=some t->get tm t= .bZ [])/\∀u∈un,u.1≠i)\/
   (ik ops tm o=some true/\∃x,(∀t,o.dst=some t->get tm t=x)/\
    ((∃S,(i,S)∈pend/\Up S/\S hp/\Ev P ge o tm S x/\∀u∈un,u.1≠i)\/(∃j cs t,(i,j,cs)∈un/\o.op= .alloc t/\jK P t=some cs/\x= .eU j 0))))
structure eX(P:Program)(ge:GE)(d:Nat)(A:List Nm)(N:Nat)(ops:Array Oper)(bA done rest:List (Nat×DK))(listed:Array Bool)(a:Act)(w:World)
 (pend:List (Nat×(Hp->Prop))) (un:Un) (tm:Tm) (hp:Hp) (g:AV) (fr:Hp):Prop where
 split:bA=done++rest
 sz:listed.size=ops.size
 cl:AM ops listed
 rs:∀p∈rest,listed.getD p.1 false=false
 pd:∀p∈done,listed.getD p.1 false=false->(p.2= .fl\/∃j,p.2= .al j)/\mV P ge ops pend un tm hp p.1
 JT:a.tmps.size=N
 dn:a.defers=[]
 kO:∀t,(∀p∈done,listed.getD p.1 false=false->∀o,ops[p.1]?=some o->o.dst≠some t)->ac g (get tm t) (a.tmps.getD t undef)
 rel:dy g w (bG hp (bG (hA listed un) fr))
 cM:gp hp (bG (hA listed un) fr)
 sO:∀u∈un,(u.1,DK.al u.2.1)∈done/\hp u.2.1=none/\u.2.1.1=d/\u.2.1∈A
 jt:un.Pairwise λu v=>u.1≠v.1/\u.2.1≠v.2.1
 dG:oC fr (ol d)
 ph:∀p∈pend,p.2 hp
def qI{t o}(h:kz ops t o=true):∀x,t=some x->x∉o.looksAt ops/\o.dst≠some x:=by
 grind [kz]
def ji{tm d x t}(h:d≠some t):get (put tm d x) t=get tm t:=by
 cases d with
 |none=>rfl
 |some d=>
  grind [put,ff,grind]
def iQ{tm d x t}(h:d=some t):get (put tm d x) t=x:=by
 grind [put,ff]
def avW{tm d x}{o:Oper}(h:∀t,d=some t->t∉o.looksAt ops):∀y∈o.op.operands,bP ge (put tm d x) y=bP ge tm y:=λy z=>by
 cases y with
 |tmp t=>
  exact ji (λe=>h t e (Kh _ (List.mem_filterMap.2 ⟨.tmp t,by simpa using z,rfl⟩)))
 |_=>rfl
def kP{tm d x o}(h:∀t,d=some t->t∉o.looksAt ops):ik ops (put tm d x) o=ik ops tm o:=by
 unfold ik;cases y:o.guard with
 |none=>rfl
 |some z=>
  obtain⟨j,a⟩:=z;simp;cases b:(ops[j]?).bind (·.dst)with
  |none=>rfl
  |some t=>
   simp;rw[ji];intro e;exact h t e (by simp[Oper.looksAt,y,b])
theorem Ev.put{o:Oper}{tm:Tm}{S:Hp->Prop}{x y:G}{d:T Tmp}(e:Ev P ge o tm S x)(h:∀t,d=some t->t∉o.looksAt ops):Ev P ge o (put tm d y) S x:=λg w a hq s r k v=>e g w a hq s r k (λz b=>by rw[<-avW h z b];exact v z b)
theorem mV.put{pend a un z tm hp i d y}(h:mV P ge ops pend un tm hp i)(n:∀o,ops[i]?=some o->kz ops d o=true)(c:∀S,(i,S)∈pend->(i,S)∈a)(hu:∀u∈un,u∈z)(p:∀u∈z,u∈un\/u.1≠i):mV P ge ops a z (Ab.put tm d y) hp i:=by
 obtain⟨o,g,h⟩:=h;have k:=qI (n o g);have l:=λt e=>(k t e).1
 have m:∀t,o.dst=some t->get (Ab.put tm d y) t=get tm t:=λt e=>ji (λq=>(k t q).2 e)
 refine⟨o,g,?_⟩;rw[kP l];have b:(∀u∈un,u.1≠i)->∀u∈z,u.1≠i:=λh u hu=>by
  grind
 rcases h with⟨k1,f,k4⟩|⟨k1,x,f,r⟩
 .exact .inl ⟨k1,λt e=>by rw[m t e];exact f t e,b k4⟩
 .refine .inr ⟨k1,x,λt e=>by rw[m t e];exact f t e,?_⟩;rcases r with⟨S,e1,e2,e3,e4,s⟩|⟨j,cs,t,e1,e2⟩
  .exact .inl ⟨S,c S e1,e2,e3,e4.put l,b s⟩
  grind
def fw{listed:Array At}{i k}(x:i<listed.size):(listed.setIfInBounds i true).getD k false=true↔k=i\/listed.getD k false=true:=by
 by_cases e:k=i
 .subst e;simp[x]
 .rw[Kf false (λh=>e h.symm)];simp[e]
def aac{l:U (Nat×DK)}{D}(h:l.Pairwise D){p q}(hp:p∈l)(hq:q∈l)(x:p≠q):D p q\/D q p:=by
 induction l with
 |nil=>simp at hp
 |cons a l y=>
  grind [List.pairwise_cons,grind]
section anW
variable {d N:Nat}{A:U Nm}{Q:fX}{bA done rest:U (Nat×DK)}{listed:Array At}{a:Act}{w:World}{pend:U (Nat×(Hp->Prop))}{un:Un}{tm:Tm}{hp:Hp}{g:AV}{fr:Hp}{i:Nat}
def eX.y5(I:eX P ge d A N ops bA done rest listed a w pend un tm hp g fr)(ok:fZ ops bA){q}(hq:q∈done)(c:listed.getD q.1 false=false){p}(x:p∈bA)(y:q≠p)(e:p.1∈Region.ready .any ops listed){b op}(f:ops[q.1]?=some b)(i:ops[p.1]?=some op):kz ops b.dst op=true:=by
 have z:q∈bA:=by rw[I.split];exact Kh _ hq
 have j:=(I.pd q hq c).1;rcases aac ok.mA z x y with⟨h,_⟩|⟨_,h⟩
 .simp only[iB,f,i,BR,K5]at h;rcases h.2 with h|h
  .have:=(iP _ _ _ h).ready I.cl e
   grind
  grind
 .simp only[lX]at h
  grind
def eX.vW{k}(I:eX P ge d A N ops bA done ((i,k)::rest) listed a w pend un tm hp g fr)(ok:fZ ops bA)(X:k= .fl\/∃j,k= .al j)(D:DR P ge d A N ops Q ((i,k)::rest) pend un tm hp):
 ∃z y n,eX P ge d A N ops bA (done++[(i,k)]) rest listed a w z y n hp g fr/\DR P ge d A N ops Q rest z y n hp:=by
 obtain⟨o,m,hd,b,hw,D⟩:=D;have hin:(i,k)∈bA:=by rw[I.split];simp
 have r:=I.rs (i,k) NP;have f:=ok.Vp _ hin X o m;have anX:∀q∈done,∀s,ops[q.1]?=some s->kz ops o.dst s=true:=by
  intro q hq s l;have c:=ok.mA;rw[I.split,Ke]at c;have:=(c.2.2 q hq (i,k) NP).2;simp[lX]at this;rcases X with rfl|⟨j,rfl⟩<;>simp[l,m]at this<;>exact this
 have C:∀q∈done,q.1≠i:=by
  intro q hq;have c:=ok.mA;rw[I.split,Ke]at c;have:=(c.2.2 q hq (i,k) NP).1;simp[iB]at this;exact this.1
 have K:=λu hu=>C _ (I.sO u hu).1
 have mk:∀x z y,(∀p∈pend,p∈z)->(∀p∈z,p.2 hp)->(∀u∈un,u∈y)->(∀u∈y,u∈un\/u.1=i)->hA listed y=hA listed un->
  (∀u∈y,(u.1,DK.al u.2.1)∈done++[(i,k)]/\hp u.2.1=none/\u.2.1.1=d/\u.2.1∈A)->(y.Pairwise λu v=>u.1≠v.1/\u.2.1≠v.2.1)->mV P ge ops z y (put tm o.dst x) hp i->
  eX P ge d A N ops bA (done++[(i,k)]) rest listed a w z y (put tm o.dst x) hp g fr:=by
  intro x z y hpe hph amY anY L apx apy hpo;refine⟨by rw[I.split];simp,I.sz,I.cl,λp hp=>I.rs p (by simp[hp]),?_,I.JT,I.dn,?_,by rw[L];exact I.rel,by rw[L];exact I.cM,apx,apy,I.dG,hph⟩
  .intro p hp hl;rcases Hy.1 hp with hp|hp
   .refine⟨(I.pd p hp hl).1,(I.pd p hp hl).2.put (λs l=>anX p hp s l) (λS hS=>hpe _ hS) amY (λu hu=>(anY u hu).imp id (λe=>by rw[e];exact(C p hp).symm))⟩
   .simp at hp;subst hp;exact⟨X,hpo⟩
  .intro t ht;have h1:=ht _ NP r o m;rw[ji h1];exact I.kO t λp hp hl=>ht p (Kh _ hp) hl
 rcases X with rfl|⟨j,rfl⟩
 cases b with
  |false=>
   refine⟨_,_,_,mk _ _ un (λp hp=>by simp[hp]) (λp hp=>by rcases BV.1 hp with rfl|h;exact trivial;exact I.ph p h) (λu hu=>hu) (λu hu=>.inl hu) rfl (λu hu=>⟨Kh _ (I.sO u hu).1,(I.sO u hu).2⟩) I.jt ?_,D.1 rfl⟩;exact⟨o,m,.inl ⟨by rw[kP f];exact hw,λt e=>iQ e,K⟩⟩
  |true=>
   obtain⟨x,S,e1,e2,e3,e4⟩:=D.2 rfl;refine⟨_,_,_,mk x _ un (λp hp=>by simp[hp]) (λp hp=>by rcases BV.1 hp with rfl|h;exact e3;exact I.ph p h) (λu hu=>hu) (λu hu=>.inl hu) rfl (λu hu=>⟨Kh _ (I.sO u hu).1,(I.sO u hu).2⟩) I.jt ?_,e4⟩;exact⟨o,m,.inr ⟨by rw[kP f];exact hw,x,λt e=>iQ e,.inl ⟨S,by simp,e2,e3,e1.put f,K⟩⟩⟩
 .simp only[]at D;obtain⟨rfl,f1,f2,f3,cs,t,e1,e2,e3,e4⟩:=D;refine⟨_,_,_,mk _ _ _ (λp hp=>by simp[hp]) (λp hp=>by rcases BV.1 hp with rfl|h;exact trivial;exact I.ph p h) (λu hu=>by simp[hu]) (λu hu=>(BV.1 hu).symm.imp id (λe=>by rw[e])) ?_ ?_ ?_ ?_,e4⟩
  .simp only[hA];rw[BY (by rw[r];simp)]
  .intro u hu;rcases BV.1 hu with rfl|hu
   .exact⟨by simp,e3,f1,f2⟩
   .exact⟨Kh _ (I.sO u hu).1,(I.sO u hu).2⟩
  .refine Lj.2 ⟨λu hu=>⟨λe=>?_,λe=>f3 u hu e.symm⟩,I.jt⟩;have c:=ok.mA;rw[I.split,Ke]at c;have:=(c.2.2 _ (I.sO u hu).1 (i,.al j) NP).1;simp[iB]at this;exact this.1 e.symm
  .exact⟨o,m,.inr ⟨by rw[kP f];exact hw,.eU j 0,λt e=>iQ e,.inr ⟨j,cs,t,by simp,e1,e2,rfl⟩⟩⟩
def eX.Hm(I:eX P ge d A N ops bA done rest listed a w pend un tm hp g fr)(ok:fZ ops bA)(k0:oO g ge){p}(D:p∈bA)(X:p.1∈Region.ready .any ops listed){o}(Q:ops[p.1]?=some o)(K:p∈done->∀t,o.dst=some t->t∉o.looksAt ops):AH g ge tm o a/\∀b,ik ops tm o=some b->Region.wanted o (yielded ops a.tmps)=b:=by
 have m:∀t∈o.looksAt ops,ac g (get tm t) (a.tmps.getD t undef):=by
  intro t k;refine I.kO t λq hq hl oq i e=>?_
  by_cases r:q=p
  .subst r;rw[Q]at i;cases i;exact K hq t e k
  .exact((qI (I.y5 ok hq hl D r X i Q)) t e).1 k
 refine⟨λy s=>?_,λb z=>?_⟩
 .cases y with
  |tmp t=>exact m t (Kh _ (List.mem_filterMap.2 ⟨.tmp t,by simpa using s,rfl⟩))
  |const v=>exact rq g v
  |global n=>
   simp[Ab.bP];split
   .rename_i cs hc;obtain⟨_,vals,h1,h2⟩:=k0 n cs hc;exact⟨n,0,vals,rfl,h1,by simpa using h2⟩
   .simp only[ac]
  |func f=>simp[Ab.bP];exact⟨#[],#[],rfl,by simp[VL],by simp[VL]⟩
 .unfold ik at z;unfold Region.wanted;cases L:o.guard with
  |none=>simp[L]at z;simp[z]
  |some jw=>
   obtain⟨j,aji⟩:=jw;simp[L]at z |-;cases k:(ops[j]?).bind (·.dst)with
   |none=>simp[k]at z
   |some t=>
    simp[k]at z;have x:=m t (by simp[Oper.looksAt,L,k]);by_cases C:get tm t= .bZ []
    .rw[C]at z x;simp only[Hs]at z;obtain⟨bD,x,_⟩:=x;have s:yielded ops a.tmps j=none:=by
      unfold yielded;rw[k];simp;rw[JA]at x;cases h:a.tmps[t]? with
      |none=>rfl
      |some u=>rw[h]at x;simp at x;subst x;rfl
     rw[s,<-z];rfl
    cases l:get tm t<;>simp only[l]at z<;>try (simp at z;done)
    rotate_left
    .rename_i vs;cases vs with
     |nil=>exact absurd l C
     |cons=>simp at z
    rename_i c;simp at z;rw[l]at x;simp only[ac]at x;have s:yielded ops a.tmps j=some c:=by
     unfold yielded;rw[k];simp;rw[JA]at x;cases h:a.tmps[t]? with
     |none=>rw[h]at x;simp[undef]at x
     |some u=>rw[h]at x;simp at x;subst x;rfl
    rw[s];simp[<-z]
def oZ{l}(h:∀u∈l,u.1≠i):hA (listed.setIfInBounds i true) l=hA listed l:=by
 induction l with
 |nil=>rfl
 |cons u l x=>
  obtain⟨k,j,cs⟩:=u;have y:=h (k,j,cs) NP;simp[hA,x (λv z=>h v (by simp[z])),Kf false (LM y)]
def ahH{l j}(h:∀u∈l,u.2.1≠j):hA listed l j=none:=by
 induction l with
 |nil=>rfl
 |cons u l y=>
  obtain⟨k,z,cs⟩:=u;have a:=h (k,z,cs) NP;simp[hA];split
  .rw[aZ _ _ (LM a)];exact y (λv x=>h v (by simp[x]))
  .exact y (λv x=>h v (by simp[x]))
def avD h{j k}o p(y:j≠k):cW (cW h j o) k p=cW (cW h k p) j o:=by
 grind [cW,grind]
def avK{l j cs}(z:i<listed.size)(a:listed.getD i false=false)(hm:(i,j,cs)∈l)(x:l.Pairwise λu v=>u.1≠v.1/\u.2.1≠v.2.1):
 hA (listed.setIfInBounds i true) l=cW (hA listed l) j (.cells cs):=by
 induction l with
 |nil=>simp at hm
 |cons u l b=>
  rw[Lj]at x;obtain⟨k,f,cs'⟩:=u;rcases BV.1 hm with e|hm
  cases e;have c:=(fw z).2 (.inl rfl);simp only[hA,a,c];rw[oZ (λv d=>(x.1 v d).1.symm)];simp
  .have y:=x.1 _ hm;simp[hA,Kf false (LM y.1),b hm x.2];split
   .rw[avD _ _ _ (LM y.2)]
   .rfl
def avZ{l j cs}(a:listed.getD i false=false)(hm:(i,j,cs)∈l)(x:l.Pairwise λu v=>u.1≠v.1/\u.2.1≠v.2.1):hA listed l j=none:=by
 induction l with
 |nil=>simp at hm
 |cons u l z=>
  rw[Lj]at x;obtain⟨k,c,cs'⟩:=u;rcases BV.1 hm with e|hm
  cases e;simp[hA,a];exact ahH (λv b=>(x.1 v b).2.symm)
  .have y:=x.1 _ hm;simp[hA];split
   .rw[aZ _ _ (LM y.2)];exact z hm x.2
   .exact z hm x.2
def mW{a b j o}(h:a j=none):cW (bG a b) j o=bG a (cW b j o):=by
 grind [bp,bM,aZ,bG]
def eX.step{p g' w'}{v x:G×Value}(I:eX P ge d A N ops bA done rest listed a w pend un tm hp g fr)(ok:fZ ops bA)(s:p∈done)(hr:p.1∈Region.ready .any ops listed){o}(n:ops[p.1]?=some o)(hd:iO N o.dst=true)(u:AV.Le g g')(hv:ac g' x.1 x.2)(hx:∀t,o.dst=some t->get tm t=x.1)(f:dy g' w' (bG hp (bG (hA (listed.setIfInBounds p.1 true) un) fr)))(C:gp hp (bG (hA (listed.setIfInBounds p.1 true) un) fr))(_:v=x):
 eX P ge d A N ops bA done rest (listed.setIfInBounds p.1 true) (a.put o.dst x.2) w' pend un tm hp g' fr:=by
 have i:p.1<listed.size:=by rw[I.sz];exact(LD.1 n).1
 have j:=hr;rw[L7]at j;obtain⟨_,o',c,D⟩:=j;rw[n]at c;cases c;refine⟨I.split,by simpa using I.sz,?_,?_,?_,?_,?_,?_,f,C,I.sO,I.jt,I.dG,I.ph⟩
 .intro k K z hk e X hb;rw[fw i]at hk |-;right;rcases hk with rfl|hk
  .rw[n]at z;cases z;exact D e X hb
  .exact I.cl k K z hk e X hb
 .intro q hq;have l:=ok.mA;rw[I.split,Ke]at l;have:=(l.2.2 p s q hq).1;simp[iB]at this;rw[Kf false this.1];exact I.rs q hq
 .intro q hq r;have L:listed.getD q.1 false=false:=by
   cases h:listed.getD q.1 false with
   |false=>rfl
   |true=>rw[(fw i).2 (.inr h)]at r;simp at r
  exact I.pd q hq L
 .cases y:o.dst<;>simpa[Act.put]using I.JT
 .cases y:o.dst<;>simpa[Act.put]using I.dn
 .intro t ht;by_cases e:o.dst=some t
  .rw[hx t e];have Q:=lW hd t e;simp only[e,Act.put];rw[JA,NN (by rw[I.JT];exact Q)];exact hv
  .have e2:(a.put o.dst x.2).tmps.getD t undef=a.tmps.getD t undef:=by
    cases y:o.dst with
    |none=>rfl
    |some t'=>
     have:t'≠t:=λh=>e (by rw[y,h])
     simp only[Act.put];rw[JA,NM this,<-JA]
   rw[e2];refine ac.mono u _ _ (I.kO t λq hq r oq b=>?_);by_cases m:q.1=p.1
   .rw[m,n]at b;cases b;exact e
   .exact ht q hq (by rw[Kf false (LM m)];exact r) oq b
def eX.run{p Qc K}(I:eX P ge d A N ops bA done rest listed a w pend un tm hp g fr)(ok:fZ ops bA)(k0:oO g ge)(b:p∈done)(u:listed.getD p.1 false=false)(q:p.1∈Region.ready .any ops listed)(C:∀o,ops[p.1]?=some o->iO N o.dst=true)(D:∀a' w' g',AV.Le g g'->eX P ge d A N ops bA done rest (listed.setIfInBounds p.1 true) a' w' pend un tm hp g' fr->K a' w'):wpOp P ops Qc p.1 K a w:=by
 obtain⟨hk,o,c,h⟩:=I.pd p b u;have i:p∈bA:=by rw[I.split];exact Kh _ b
 have L:=ok.Vp p i hk o c;obtain⟨Q,l⟩:=I.Hm ok k0 i q c (λ_=>L);have X:p.1<listed.size:=by rw[I.sz];exact(LD.1 c).1
 unfold wpOp;simp[c];rcases h with⟨h1,r,h4⟩|⟨h1,x,r,h3⟩
 .rw[l _ h1,BY NP];refine D _ _ g (AV.Le.refl g) ?_;have y:hA _ un=hA listed un:=oZ h4;exact I.step (x:=(.bZ [],undef)) ok b q c (C o c) (AV.Le.refl g) (nq g) (λt e=>r t e) (by rw[y];exact I.rel) (by rw[y];exact I.cM) rfl
 .rw[l _ h1,BX rfl];left;rcases h3 with⟨S,e1,e2,e3,e4,e5⟩|⟨j,cs,t,e1,e2,e3,e4⟩
  .obtain⟨v,w',g',r1,r2,s,r4⟩:=e4 g w a _ (e2 _ _ (λj o hj=>aK hj) e3) I.rel k0 Q;simp[Oper.wp,r1];refine D _ _ g' r2 ?_;have y:hA _ un=hA listed un:=oZ e5;exact I.step (x:=(x,v)) ok b q c (C o c) r2 r4 (λt e=>r t e) (by rw[y];exact s) (by rw[y];exact I.cM) rfl
  .obtain⟨z,z1,rfl⟩:=jD e3 w;subst e4;obtain⟨_,f,hjd,hjA⟩:=I.sO _ e1;simp only at f hjd hjA;have hfr:fr j=none:=dI I.dG (by simp[ol];omega);have hhA:=avZ u e1 I.jt;have m:=cm f (cm hhA hfr);have ajf:(execOp a.eval o).run P w= .ok (.value (.pointer (some ⟨w.heap.size,0,none⟩))) (w.alloc (.cells z.cells t)):=by
    simp[execOp,e2,Instr.alloc,z1,om]
   simp[Oper.wp,ajf];have n:=lu g w.heap.size (I.rel.cT m);refine D _ _ _ n ?_;have s:=I.rel.oh m _ _ t (jh g z.cells.toList) I.rel.jJ;have y:=avK X u e1 I.jt;refine I.step (x:=(.eU j 0,.pointer _)) ok b q c (C o c) n (by simp[ac,AV.push]) (λt e=>r t e) ?_ ?_ rfl
   .rw[y];rw[mW f,bz]at s;exact s
   .rw[y];intro k;by_cases e:k=j
    .subst e;exact .inl f
    .rcases I.cM k with h|h
     .exact .inl h
     .right;simp[bG,aZ _ _ e]at h |-;exact h
def mV.heap{y}(h:mV P ge ops pend un tm hp i)(hs:∀p∈pend,p.2 y):mV P ge ops pend un tm y i:=by
 obtain⟨o,z,h⟩:=h;refine⟨o,z,h.imp id ?_⟩;rintro⟨k1,x,a,b⟩;refine⟨k1,x,a,b.imp ?_ id⟩
 grind
def Rz:∀x,(∀p∈x,p.2= .fl\/∃j,p.2= .al j)->∀{done rest pend un tm},
 eX P ge d A N ops bA done (x++rest) listed a w pend un tm hp g fr->fZ ops bA->DR P ge d A N ops Q (x++rest) pend un tm hp->
 ∃y z b,eX P ge d A N ops bA (done++x) rest listed a w y z b hp g fr/\DR P ge d A N ops Q rest y z b hp
 | [],_,done,rest,pend,un,tm,I,ok,D=>⟨pend,un,tm,by simpa using I,by simpa using D⟩
 |p::x,c,done,rest,pend,un,tm,I,ok,D=>by
  obtain⟨e,f,l,m,n⟩:=eX.vW I ok (c p NP) D;obtain⟨o,r,s,t,u⟩:=Rz x (λq hq=>c q DS) m ok n
  grind
def aik(h:∀u∈un,u.2.1∈A):oC (hA listed un) (FA d A):=λj y=>by
 apply L3;intro x;have:hA listed un j=none:=ahH (λu hu e=>x (.inr (by rw[<-e];exact h u hu)))
 grind
def vX{l}(h:∀u∈l,listed.getD u.1 false=true):hA listed l=da ej l:=by
 induction l with
 |nil=>rfl
 |cons u l x=>
  obtain⟨k,j,cs⟩:=u;have:=h (k,j,cs) NP;simp[hA,da,this,x (λv y=>h v (by simp[y]))]
def lY{l}(h:∀u∈l,hp u.2.1=none):bG (da hp l) fr=bG hp (bG (da ej l) fr):=by
 induction l with
 |nil=>simp[da,eO]
 |cons u l x=>
  obtain⟨k,j,cs⟩:=u;simp[da];rw[<-bz,x (λv y=>h v (by simp[y])),mW (h (k,j,cs) NP),bz]
def lZ{l}(hd:gp hp (bG (da ej l) fr))(x:∀u∈l,fr u.2.1=none):gp (da hp l) fr:=by
 have key:∀l j,(da hp l j).isSome=true->(hp j).isSome=true\/∃u∈l,u.2.1=j:=by
  intro l j
  induction l with
  |nil=>exact λh=>.inl h
  |cons u l z=>
   obtain⟨k,y,cs⟩:=u;simp only[da];intro h;by_cases e:j=y
   .exact .inr ⟨(k,y,cs),by simp,e.symm⟩
   .rw[aZ _ _ e]at h;rcases z h with h|⟨v,a,b⟩
    .exact .inl h
    .exact .inr ⟨v,by simp[a],b⟩
 intro j;cases e:da hp l j with
 |none=>exact .inl rfl
 |some o=>
  right;rcases key l j CD with h|⟨u,hu,rfl⟩
  .rcases hd j with h'|h'
   .rw[h']at h;simp at h
   .cases e2:da ej l j with
    |none=>rw[bM e2]at h';exact h'
    |some p=>rw[aK e2]at h';simp at h'
  .exact x u hu
def Ry{Qc K k}(_hk:k= .ch\/k= .tp){R0:Tm->Hp->Prop}{o b}(I:eX P ge d A N ops bA done ((i,k)::rest) listed a w pend un tm hp g fr)(ok:fZ ops bA)(k0:oO g ge)(hr:i∈Region.ready .any ops listed)(C:ops[i]?=some o)(hd:iO N o.dst=true)(hw:ik ops tm o=some b)(D:(b=false->R0 (put tm o.dst (.bZ [])) hp)/\(b=true->eW P ge (FA d A) o tm hp λx y=>(∀p∈pend,p.2 y)/\(∀u∈un,y u.2.1=none)/\R0 (put tm o.dst x) y))(hK:∀a' w' g' L y,AV.Le g g'->eX P ge d A N ops bA (done++[(i,k)]) rest (listed.setIfInBounds i true) a' w' pend un L y g' fr->R0 L y->K a' w'):
 wpOp P ops Qc i K a w:=by
 have hin:(i,k)∈bA:=by rw[I.split];simp
 have hnd:(i,k)∉done:=by
  intro h;have z:=ok.mA;rw[I.split,Ke]at z;have:=(z.2.2 _ h (i,k) NP).1;simp[iB]at this
 obtain⟨akq,Q⟩:=I.Hm ok k0 hin hr C (λh=>absurd h hnd);have X:i<listed.size:=by rw[I.sz];exact(LD.1 C).1
 have l:∀q∈done,q.1≠i/\(listed.getD q.1 false=false->∀r,ops[q.1]?=some r->kz ops o.dst r=true):=by
  intro q hq;have z:=ok.mA;rw[I.split,Ke]at z;have h:=(z.2.2 q hq (i,k) NP).1;simp[iB]at h;refine⟨h.1,λm r c=>?_⟩;have h2:=h.2;simp[c,C]at h2;rcases h2 with h2|h2
  .have:=(iP _ _ _ h2).ready I.cl hr;rw[this]at m;simp at m
  .exact h2.2
 have hha:hA _ un=hA listed un:=oZ (λu hu=>(l _ (I.sO u hu).1).1);have hr':=hr;rw[L7]at hr';obtain⟨_,o',s,ai8⟩:=hr';rw[C]at s;cases s;have mk:∀x v g' w' y,AV.Le g g'->ac g' x v->dy g' w' (bG y (bG (hA listed un) fr))->gp y (bG (hA listed un) fr)->
  (∀p∈pend,p.2 y)->(∀u∈un,y u.2.1=none)->
  eX P ge d A N ops bA (done++[(i,k)]) rest (listed.setIfInBounds i true) (a.put o.dst v) w' pend un (put tm o.dst x) y g' fr:=by
  intro x v g' w' y hle hv hrel amZ hpe amY;refine⟨by rw[I.split];simp,by simpa using I.sz,?_,?_,?_,?_,?_,?_,by rw[hha];exact hrel,by rw[hha];exact amZ,?_,I.jt,I.dG,hpe⟩
  .intro k ok' n hk e he hb;rw[fw X]at hk |-;right;rcases hk with rfl|hk
   .rw[C]at n;cases n;exact ai8 e he hb
   .exact I.cl k ok' n hk e he hb
  .intro q hq;have z:=ok.mA;rw[I.split,Ke,Lj]at z;have:=(z.2.1.1 q hq).1;simp[iB]at this;rw[Kf false this.1];exact I.rs q DS
  .intro q hq m;rcases Hy.1 hq with hq|hq
   .have hl':listed.getD q.1 false=false:=by rw[Kf false (LM (l q hq).1)]at m;exact m
    have hh:=I.pd q hq hl';exact⟨hh.1,(hh.2.heap hpe).put (λr c=>(l q hq).2 hl' r c) (λS hS=>hS) (λu hu=>hu) (λu hu=>.inl hu)⟩
   .simp at hq;subst hq;rw[(fw X).2 (.inl rfl)]at m;simp at m
  .cases f:o.dst<;>simpa[Act.put]using I.JT
  .cases f:o.dst<;>simpa[Act.put]using I.dn
  .intro t ht;by_cases e:o.dst=some t
   .rw[iQ e];have htN:=lW hd t e;simp only[e,Act.put];rw[JA,NN (by rw[I.JT];exact htN)];exact hv
   .have e2:(a.put o.dst v).tmps.getD t undef=a.tmps.getD t undef:=by
     cases f:o.dst with
     |none=>rfl
     |some t'=>
      have:t'≠t:=λh=>e (by rw[f,h])
      simp only[Act.put];rw[JA,NM this,<-JA]
    rw[e2,ji e];exact ac.mono hle _ _ (I.kO t λq hq m r c=>(ht q (Kh _ hq) (by rw[Kf false (LM (l q hq).1)];exact m) r c))
  .intro u hu;have:=I.sO u hu;exact⟨Kh _ this.1,amY u hu,this.2.2⟩
 unfold wpOp;simp[C];cases b with
 |false=>
  rw[Q _ hw];refine hK _ _ g _ _ (AV.Le.refl g) (mk _ undef g w hp (AV.Le.refl g) (nq g) I.rel I.cM I.ph (λu hu=>(I.sO u hu).2.1)) (D.1 rfl)
 |true=>
  rw[Q _ hw];left;refine MG (λa' w'⟨v,g',x,y,e,h1,h2,h3,h4⟩=>?_) (D.2 rfl g _ w a Qc ?_ ⟨I.rel,I.cM⟩ k0 akq)
  .intro j hj;cases e:hA listed un j with
   |some q=>exact aik (λu hu=>(I.sO u hu).2.2.2) j E0
   |none=>rw[bM e]at hj;exact .inl (I.dG j hj)
  .subst e;exact hK _ _ g' _ _ h1 (mk x v g' w' y h1 h3 h2.rel h2.cM h4.1 h4.2.1) h4.2.2
def eX.drop{y}(I:eX P ge d A N ops bA done rest listed a w pend un tm hp g fr)(hs:∀p∈y,p∈pend)(i:∀p∈pend,p∈y\/listed.getD p.1 false=true):
 eX P ge d A N ops bA done rest listed a w y un tm hp g fr:=
 {I with
  pd:=λp hp b=>by
   obtain⟨c,o,e,z⟩:=I.pd p hp b;refine⟨c,o,e,?_⟩;rcases z with z|⟨k1,x,f,j⟩
   .exact .inl z
   .refine .inr ⟨k1,x,f,?_⟩
    grind
  ph:=λp hp=>I.ph p (hs p hp)}
def eX.chain{k K}(I:eX P ge d A N ops bA done ((i,.ch)::rest) listed a w pend un tm hp g fr)(ok:fZ ops bA)(k0:oO g ge)(f:i∈Region.ready .any ops listed)(D:DR P ge d A N ops Q ((i,.ch)::rest) pend un tm hp)(l:∀pend j w' g' x y,AV.Le g g'->eX P ge d A N ops bA (done++[(i,.ch)]) rest (listed.setIfInBounds i true) j w' pend un x y g' fr->DR P ge d A N ops Q rest pend un x y->K j w'):
 wpOp P ops k i K a w:=by
 obtain⟨o,m,hd,b,n,z,hs,q,D⟩:=D;refine Ry (.inl rfl) (I.drop hs λp hp=>?_) ok k0 f m hd n D (l z);rcases q p hp with h|h
 .exact .inl h
 .obtain⟨e,r,s,t⟩:=u5 h;have c:=f;rw[L7]at c
  grind
def eX.y7(I:eX P ge d A N ops bA done rest listed a w pend un tm hp g fr)(l:∀u∈un,listed.getD u.1 false=true)(y:∀p∈pend,p.2 (da hp un)):
 eX P ge d A N ops bA done rest listed a w pend [] tm (da hp un) g fr:=by
 have z:=vX l;have b:∀u∈un,fr u.2.1=none:=λu hu=>dI I.dG OQ
 have j:=I.rel;have k:=I.cM;rw[z]at j k;refine⟨I.split,I.sz,I.cl,I.rs,λp c e=>?_,I.JT,I.dn,I.kO,?_,?_,λu hu=>by simp at hu,.nil,I.dG,y⟩
 .obtain⟨k1,o,m,n⟩:=I.pd p c e;refine⟨k1,o,m,?_⟩;rcases n with⟨f,i,q⟩|⟨f,x,i,q⟩
  .exact .inl ⟨f,i,λu hu=>by simp at hu⟩
  .refine .inr ⟨f,x,i,.inl ?_⟩
   grind
 rw[lY (λu hu=>(I.sO u hu).2.1)];exact j
 exact lZ k b
def eX.Vr{n K}(I:eX P ge d A N ops bA done ((i,.tp)::rest) listed a w pend un tm hp g fr)(ok:fZ ops bA)(k0:oO g ge)(l:i∈Region.ready .any ops listed)(D:DR P ge d A N ops Q ((i,.tp)::rest) pend un tm hp)(p:∀m w' g' z y,AV.Le g g'->eX P ge d A N ops bA (done++[(i,.tp)]) rest (listed.setIfInBounds i true) m w' pend [] z y g' fr->DR P ge d A N ops Q rest pend [] z y->K m w'):
 wpOp P ops n i K a w:=by
 obtain⟨o,q,hd,b,s,j,D⟩:=D;have t:∀u∈un,listed.getD u.1 false=true:=by
  intro u hu;have hq:=(I.sO u hu).1;have c:=ok.mA;rw[I.split,Ke]at c;have h:=(c.2.2 _ hq (i,.tp) NP).1;simp[iB]at h;have h2:=h.2;split at h2
  .simp only[K5,BR]at h2;rcases h2 with h2|h2
   .exact(iP _ _ _ h2).ready I.cl l
   .simp at h2
  .simp at h2
 exact Ry (.inr rfl) (I.y7 t j) ok k0 l q hd s
  ⟨D.1,λe g fr w a Q f r k v=>MG (λ_ _⟨u,g',x,y,e0,C,h2,L,e1,e2⟩=>⟨u,g',x,y,e0,C,h2,L,e1,λu hu=>by simp at hu,e2⟩) (D.2 e g fr w a Q f r k v)⟩ p
theorem eX.tail{Qc K}(I:eX P ge d A N ops bA done ((i,.tl)::rest) listed a w pend un tm hp g fr)(ok:fZ ops bA)(k0:oO g ge)(hr:i∈Region.ready .any ops listed)(D:DR P ge d A N ops Q ((i,.tl)::rest) pend un tm hp)(hK:∀a' w' g' r y,AV.Le g g'->eX P ge d A N ops bA (done++[(i,.tl)]) rest (listed.setIfInBounds i true) a' w' [] [] r y g' fr->DR P ge d A N ops Q rest [] [] r y->K a' w'):
 wpOp P ops Qc i K a w:=by
 obtain⟨o,s,hd,b,hw,D⟩:=D;have hin:(i,DK.tl)∈bA:=by rw[I.split];simp
 have f:∀q∈done,q.1≠i/\listed.getD q.1 false=true:=by
  intro q hq;have z:=ok.mA;rw[I.split,Ke]at z;have h:=(z.2.2 q hq (i,.tl) NP).1;simp only[iB,BR,KZ]at h;refine⟨h.1,?_⟩;have h2:=h.2;split at h2
  .simp only[K5,BR]at h2;rcases h2 with h2|h2
   .exact(iP _ _ _ h2).ready I.cl hr
   .simp at h2
  .simp at h2
 have hnd:(i,DK.tl)∉done:=λh=>(f _ h).1 rfl
 obtain⟨akq,C⟩:=I.Hm ok k0 hin hr s (λh=>absurd h hnd);have L:i<listed.size:=by rw[I.sz];exact(LD.1 s).1
 have X:=hr;rw[L7]at X;obtain⟨_,o',n,ai8⟩:=X;rw[s]at n;cases n;have akC:=vX (λu hu=>(f _ (I.sO u hu).1).2);have hfr:∀u∈un,fr u.2.1=none:=λu hu=>dI I.dG OQ
 have amC:gh g w (da hp un) fr:=by
  have h1:=I.rel;have h2:=I.cM;rw[akC]at h1 h2;exact⟨by rw[lY (λu hu=>(I.sO u hu).2.1)];exact h1,lZ h2 hfr⟩
 have mk:∀x v g' w' y,AV.Le g g'->ac g' x v->gh g' w' y fr->
  eX P ge d A N ops bA (done++[(i,.tl)]) rest (listed.setIfInBounds i true) (a.put o.dst v) w' [] [] (put tm o.dst x) y g' fr:=by
  intro x v g' w' y hle hv m;refine⟨by rw[I.split];simp,by simpa using I.sz,?_,?_,?_,?_,?_,?_,by simp[hA];exact m.rel,by simp[hA];exact m.cM,λu hu=>by simp at hu,.nil,I.dG,λp hp=>by simp at hp⟩
  .intro k ok' l hk e he hb;rw[fw L]at hk |-;right;rcases hk with rfl|hk
   .rw[s]at l;cases l;exact ai8 e he hb
   .exact I.cl k ok' l hk e he hb
  .intro q hq;have z:=ok.mA;rw[I.split,Ke,Lj]at z;have:=(z.2.1.1 q hq).1;simp[iB]at this;rw[Kf false this.1];exact I.rs q DS
  .intro q hq hl;have:(listed.setIfInBounds i true).getD q.1 false=true:=by
    rw[fw L];rcases Hy.1 hq with hq|hq
    .exact .inr (f q hq).2
    .simp at hq;subst hq;exact .inl rfl
   rw[this]at hl;simp at hl
  .cases c:o.dst<;>simpa[Act.put]using I.JT
  .cases c:o.dst<;>simpa[Act.put]using I.dn
  .intro t ht;by_cases e:o.dst=some t
   .rw[iQ e];have htN:=lW hd t e;simp only[e,Act.put];rw[JA,NN (by rw[I.JT];exact htN)];exact hv
   .have e2:(a.put o.dst v).tmps.getD t undef=a.tmps.getD t undef:=by
     cases c:o.dst with
     |none=>rfl
     |some t'=>
      have:t'≠t:=λh=>e (by rw[c,h])
      simp only[Act.put];rw[JA,NM this,<-JA]
    rw[e2,ji e];refine ac.mono hle _ _ (I.kO t λq hq hl oq hoq=>?_);rw[(f q hq).2]at hl;simp at hl
 unfold wpOp;simp[s];cases b with
 |false=>
  rw[C _ hw];exact hK _ _ g _ _ (AV.Le.refl g) (mk _ undef g w _ (AV.Le.refl g) (nq g) amC) (D.1 rfl)
 |true=>
  rw[C _ hw];left;refine MG (λa' w'⟨v,g',x,y,e,h1,h2,h3,h4⟩=>?_) (D.2 rfl g fr w a Qc ?_ amC k0 akq)
  .exact λj hj=>.inl (I.dG j hj)
  .subst e;exact hK _ _ g' _ _ h1 (mk x v g' w' y h1 h3 h2) h4
def Rt(n:Nat)(listed:Array At):Nat:=((List.range n).filter λi=> !listed.getD i false).length
def avY{n}(f:i<n)(hs:i<listed.size)(g:listed.getD i false=false):Rt n (listed.setIfInBounds i true)+1=Rt n listed:=by
 have key:∀l:U Nat,l.Nodup->i∈l->(l.filter λk=> !(listed.setIfInBounds i true).getD k false).length+1=(l.filter λk=> !listed.getD k false).length:=by
  intro l
  induction l with
  |nil=>intro _ h;simp at h
  |cons k l c=>
   intro a j;rw[MF]at a;by_cases e:k=i
   .subst e;have m:=(fw hs).2 (.inl rfl);rw[P3 (by simp only[m];simp),P0 (by simp only[g];rfl)];have:(l.filter λx=> !(listed.setIfInBounds k true).getD x false)=l.filter λx=> !listed.getD x false:=by
     apply List.filter_congr;intro x hx;rw[Kf false (λh=>a.1 (by rw[h];exact hx))]
    rw[this];rfl
   .have y:i∈l:=by
     rcases BV.1 j with h|h
     .exact absurd h.symm e
     .exact h
    have d:=Kf (listed:=listed) false (LM e);by_cases b:listed.getD k false=true
    .rw[P3 (by rw[d,b];simp),P3 (by rw[b];simp)];exact c a.2 y
    .have z:listed.getD k false=false:=by simpa using b
     rw[P0 (by rw[d,z];rfl),P0 (by rw[z];rfl)];simp only[B0];have:=c a.2 y;omega
 exact key _ List.nodup_range (KY.2 f)
def eX.Qu{k}(I:eX P ge d A N ops bA done rest listed a w pend un tm hp g fr)(ok:fZ ops bA)(l:AV.nk (ol d) k g)(D:DR P ge d A N ops Q rest pend un tm hp)(x:∀i,i<ops.size->listed.getD i false=true):ut d k fr N Q .normal a w:=by
 have b:rest=[]:=by
  cases rest with
  |nil=>rfl
  |cons p rest=>
   have c:=I.rs p NP;have e:=x p.1 (ok.inb p (by rw[I.split];simp))
   grind
 subst b;have y:∀q∈done,listed.getD q.1 false=true:=λq hq=>x q.1 (ok.inb q (by rw[I.split];simp[hq]))
 have f:=vX (λu hu=>y _ (I.sO u hu).1);have j:∀u∈un,fr u.2.1=none:=λu hu=>dI I.dG OQ
 have c:=I.rel;have e:=I.cM;rw[f]at c e;refine⟨g,tm,da hp un,l,⟨by rw[lY (λu hu=>(I.sO u hu).2.1)];exact c,lZ e j⟩,⟨I.JT,λt=>I.kO t λq hq z=>?_⟩,I.dn,D⟩;rw[y q hq]at z;simp at z
def anS(b:∃rk,ru rk ops=true/\∀n m,m<ops.size->rk n<rk m->n<ops.size)(hs:listed.size=ops.size)(h:∃i,i<ops.size/\listed.getD i false=false):Region.ready .any ops listed≠ []:=by
 obtain⟨i,a,c⟩:=h;obtain⟨rk,b,d⟩:=b;generalize s:rk i=n
 induction n using Nat.strongRecOn generalizing i with
 |_ n o=>
  by_cases x:∃k,rk k<rk i/\k<ops.size/\listed.getD k false=false
  .obtain⟨k,t,f,g⟩:=x;exact o _ B9 k f g rfl
  .intro y;have z:i∈Region.ready .any ops listed:=by
    rw[L7];refine⟨?_,ops[i],by simp,λe p q=>?_⟩
    .rw[JA]at c |-;rw[NK B9]at c |-;exact c
    .have l:=H0.1 b i (KY.2 a);simp only[NK a,BR]at l;have j:=ME.1 l.1.2 e p;simp[q]at j;cases r:listed.getD e.on false with
     |true=>rfl
     |false=>
      exact absurd ⟨e.on,j,d _ _ a j,r⟩ x
   rw[y]at z;simp at z
def DR.cb{g0}(ok:fZ ops bA)(hN:∀(i:Nat)o,ops[i]?=some o->iO N o.dst=true):∀fuel{listed a w done rest}
 {pend} {un} {tm} {hp} {g},eX P ge d A N ops bA done rest listed a w pend un tm hp g fr->DR P ge d A N ops Q rest pend un tm hp->oO g ge->
 AV.nk (ol d) g0 g->Rt ops.size listed=fuel->wpAny P .any ops (ut d g0 fr N Q) fuel listed a w:=by
 intro fuel
 induction fuel with
 |zero=>
  intro listed a w done rest pend un tm hp g I D k0 b hu;have q:∀i,i<ops.size->listed.getD i false=true:=by
   intro i x;have h0:=KE hu;have:=List.filter_eq_nil_iff.1 h0 i (KY.2 x);simpa using this
  refine⟨?_,I.Qu ok b D q⟩;cases hr:Region.ready .any ops listed with
  |nil=>rfl
  |cons i l=>
   have r:i∈Region.ready .any ops listed:=by rw[hr];simp
   rw[L7]at r;obtain⟨m,o,c,_⟩:=r;have x:=(LD.1 c).1;have h2:=q i x;rw[JA,NK (by rw[I.sz];exact x)]at m h2;simp at m h2;rw[m]at h2;simp at h2
 |succ fuel n=>
  intro listed a w done rest pend un tm hp g I D k0 b hu;refine⟨λhr=>?_,λi x=>?_⟩
  .refine I.Qu ok b D λi x=>?_
   cases h:listed.getD i false with
   |true=>rfl
   |false=>exact absurd hr (anS ok.Rs I.sz ⟨i,x,h⟩)
  .have s:=x;rw[L7]at s;obtain⟨m,o,c,_⟩:=s;have f:=(LD.1 c).1;have t:i<listed.size:=by rw[I.sz];exact f
   have e:listed.getD i false=false:=by
    rw[JA,NK t]at m |-;exact m
   have y:Rt ops.size (listed.setIfInBounds i true)=fuel:=by
    have:=avY f t e;omega
   obtain⟨k,hk⟩:=ok.all i f;rw[I.split]at hk;rcases Hy.1 hk with hk|hk
   .exact I.run ok k0 hk e x (λo c=>hN i o c) λu w' g' h2 z=>n z D (k0.mono h2) (b.trans (h2.some _)) y
   .obtain⟨fs,aq1,rfl⟩:=List.append_of_mem hk;have v:=ok.mA;rw[I.split,Ke]at v;have C:=v.2.1;rw[Ke]at C;have hfs:∀p∈fs,(p.2= .fl\/∃j,p.2= .al j)/\k≠ .tl:=by
     intro p hp;have h:=(C.2.2 p hp (i,k) NP).1;have K:=I.rs p (Kh _ hp);simp[iB]at h;have h2:=h.2;split at h2
     .simp only[K5,BR]at h2;rcases h2 with h2|h2
      .have:=(iP _ _ _ h2).ready I.cl x;rw[this]at K;simp at K
      .refine⟨?_,by simpa using h2.1.1.2⟩;rcases h2.1.1.1 with h3|h3
       .exact .inl (by simpa using h3)
       .right;cases hp2:p.2 with
        |al j=>exact⟨j,rfl⟩
        |_=>rw[hp2]at h3;simp at h3
     .simp at h2
    obtain⟨an4,un1,tm1,L,X⟩:=Rz fs (λp hp=>(hfs p hp).1) I ok D;cases k with
    |fl=>
     obtain⟨amB,un2,tm2,I2,D2⟩:=L.vW ok (.inl rfl) X;exact I2.run (p:=(i,.fl)) ok k0 NP e x (λo c=>hN i o c) λu w' g' h2 z=>n z D2 (k0.mono h2) (b.trans (h2.some _)) y
    |al j=>
     obtain⟨amB,un2,tm2,I2,D2⟩:=L.vW ok (.inr ⟨j,rfl⟩) X;exact I2.run (p:=(i,.al j)) ok k0 NP e x (λo c=>hN i o c) λu w' g' h2 z=>n z D2 (k0.mono h2) (b.trans (h2.some _)) y
    |ch=>exact L.chain ok k0 x X λ_ u w' g' tm' hp' h2 z D'=>n z D' (k0.mono h2) (b.trans (h2.some _)) y
    |tl=>exact L.tail ok k0 x X λu w' g' tm' hp' h2 z D'=>n z D' (k0.mono h2) (b.trans (h2.some _)) y
    |tp=>exact L.Vr ok k0 x X λu w' g' tm' hp' h2 z D'=>n z D' (k0.mono h2) (b.trans (h2.some _)) y
end anW
def jj(ops:Array Oper)(bA:U (Nat×DK)):At:=
 ajr bA&&((List.range ops.size).all λi=>bA.any λp=>p.1==i)&&(bA.all λp=>decide (p.1<ops.size))&&avH ops&&
 (bA.all λp=>match p.2 with
  |.fl|.al _=>(match ops[p.1]? with
   |some o=>(match o.dst with|some t=> !(o.looksAt ops).contains t|none=>true)
   |none=>true)
  |_=>true)
where
 ajr:U (Nat×DK)->At
  | []=>true
  |p::l=>(l.all λq=>iB ops p q&&lX ops p q)&&ajr l
def ai1(ms:U Nat)(ops:Array Oper)(p q:Nat×DK):At:=
 p.1 !=q.1&&
 match ops[p.1]?,ops[q.1]? with
 |some a,some b=>
  (ms.getD q.1 0).testBit p.1||
  ((p.2== .fl||(match p.2 with|.al _=>q.2 !=.tp|_=>false))&&(q.2 !=.tl)&&kz ops a.dst b&&kz ops b.dst a)
 |_,_=>false
def av1(ms:U Nat)(ops:Array Oper):At:=(List.range ops.size).all λi=>match ops[i]? with
 |some o=>(match o.guard with|some (j,_)=>(ms.getD i 0).testBit j|none=>true)&&o.after.all (λe=> !Region.binds .any e||decide (e.on<i))&&(match o.op with|.select ..=>false|_=>true)
 |none=>true
def vY(ms:U Nat)(ops:Array Oper):U (Nat×DK)->At
 | []=>true
 |p::l=>(l.all λq=>ai1 ms ops p q&&lX ops p q)&&vY ms ops l
def rx:U Nat->(U Nat->At)->At
 | [],K=>K []
 |m::r,K=>match m with
  |0=>rx r λr=>K (0::r)
  |n+1=>rx r λr=>K ((n+1)::r)
def ot:∀ms K,rx ms K=K ms
 | [],_=>rfl
 |0::r,_=>ot r _
 |(_+1)::r,_=>ot r _
def AO(ops:Array Oper)(bA:U (Nat×DK)):At:=rx (y3 ops.toList []) λms=>
 vY ms ops bA&&((List.range ops.size).all λi=>bA.any λp=>p.1==i)&&(bA.all λp=>decide (p.1<ops.size))&&av1 ms ops&&
 (bA.all λp=>match p.2 with
  |.fl|.al _=>(match ops[p.1]? with
   |some o=>(match o.dst with|some t=> !(o.looksAt ops).contains t|none=>true)
   |none=>true)
  |_=>true)
def u6 bA:AO ops bA=jj ops bA:=by
 have hp:∀l,vY (y3 ops.toList []) ops l=jj.ajr ops l:=by
  intro l
  induction l with
  |nil=>rfl
  |cons p l x=>simp[vY,x];rfl
 rw[AO,ot,hp];rfl
def o9{bA}(h:jj ops bA=true):fZ ops bA:=by
 simp only[jj,BR]at h;obtain⟨⟨⟨⟨z,a⟩,b⟩,c⟩,d⟩:=h;have hp:∀l:U _,jj.ajr ops l=true->l.Pairwise λp q=>iB ops p q=true/\lX ops p q=true:=by
  intro l
  induction l with
  |nil=>intro _;exact .nil
  |cons p l f=>
   intro h;simp only[jj.ajr,BR,H0]at h;exact Lj.2 ⟨λq hq=>h.1 q hq,f h.2⟩
 refine⟨hp _ z,λi g=>?_,λp x=>?_,⟨_,c,λn m z a=>Nat.lt_trans a z⟩,λp x y o k t r=>?_⟩
 .have:=H0.1 a i (KY.2 g);rw[It]at this;obtain⟨q,hq,e⟩:=this;simp at e;exact⟨q.2,by rw[<-e];exact hq⟩
 .simpa using H0.1 b p x
 .have:=H0.1 d p x;rcases y with y|⟨j,y⟩<;>simp[y,k,r]at this<;>simpa using this
def aeU{d N id Q tm hp}bA A(y:P.follows .mixedOrders=true)(z:jj ops bA=true)
 (b:(ops.all λo=>iO N o.dst)=true) (h:DR P ge d A N ops Q bA [] [] tm hp):br P ge d N (.region id ops true) Q tm hp:=λg fr w a f r k v c=>by
 refine wp_region_any y ?_;have ok:=o9 z;have x:∀k,(Array.replicate ops.size false).getD k false=false:=by
  intro k;rw[JA]
  grind
 refine DR.cb ok (λi o e=>ME.1 b o (NJ e)) ops.size (done:=[]) ?_ h k (AV.nk.refl _ g) ?_
 .refine⟨rfl,by simp,?_,λp _=>x p.1,λp hp=>by simp at hp,v.1,c,λt _=>v.2 t,?_,?_,λu hu=>by simp at hu,.nil,f.ay,λp hp=>by simp at hp⟩
  .intro k o _ j
   grind
  exact(r.rel.drew _)
  exact r.cM
 .unfold Rt;rw[Oz.2 (λi _=>by rw[x];rfl)];simp
end
section
variable {P:Program}{ge:GE}{F:Nm->Prop}{S:Hp->Prop}{d N:Nat}{tm:Tm}{hp:Hp}{K:G->Hp->Prop}{o:Oper}{Q:fX}
def br.cond{c x y b}(j:bP ge tm c= .bool b)(l:b=true->br P ge d N x Q tm hp)(m:b=false->br P ge d N y Q tm hp):br P ge d N (.cond c x y) Q tm hp:=by
 intro g fr w a f r k v i;have z:=v.bP k c;rw[j]at z;simp only[ac]at z;exact wp_cond_split z (λe=>l e g fr w a f r k v i) (λe=>m e g fr w a f r k v i)
def Ev.quo{t e x y k a b}(z:o.op= .binOp .quo t x y e)(hx:bP ge tm x= .int k a)(f:bP ge tm y= .int k b)(i:b≠0):
 Ev P ge o tm S (.int k (k.wrap (a.tdiv b))):=by
 refine .df (λg w j _ _ r l v=>?_);have c:=v x Um;have d:=v y Um;rw[hx]at c;rw[f]at d;simp only[ac]at c d |-;exact⟨_,by simp[execOp,z,c,d,eqGuard,binOp,Op.intDiv,i],rfl⟩
def Ev.rem{t e x y k a b}(z:o.op= .binOp .rem t x y e)(hx:bP ge tm x= .int k a)(f:bP ge tm y= .int k b)(i:b≠0):
 Ev P ge o tm S (.int k (a.tmod b)):=by
 refine .df (λg w j _ _ r l v=>?_);have c:=v x Um;have d:=v y Um;rw[hx]at c;rw[f]at d;simp only[ac]at c d |-;exact⟨_,by simp[execOp,z,c,d,eqGuard,binOp,Op.intDiv,i],rfl⟩
def run_equal_bool{t}(x:P.underlying t=some .bool)a b w:(Op.equal t (.bool a) (.bool b)).run P w= .ok (a==b) w:=by
 unfold Op.equal Op.maxDepth;rw[show(10000:Nat)=9999+1 from rfl];unfold Op.equalIn;simp only[FO,FG x,G4];rfl
def aeW{t e x y a b}(z:o.op= .binOp .eql t x y e)(f:P.underlying t=some .bool)(hx:bP ge tm x= .bool a)(i:bP ge tm y= .bool b):
 Ev P ge o tm S (.bool (a==b)):=by
 refine .df (λg w j _ _ r k v=>?_);have c:=v x Um;have d:=v y Um;rw[hx]at c;rw[i]at d;simp only[ac]at c d |-;exact⟨_,by simp[execOp,z,c,d,eqGuard,binOp,run_equal_bool f],rfl⟩
def aeX{t e x y a b}(z:o.op= .binOp .neq t x y e)(f:P.underlying t=some .bool)(hx:bP ge tm x= .bool a)(i:bP ge tm y= .bool b):
 Ev P ge o tm S (.bool (!(a==b))):=by
 refine .df (λg w j _ _ r k v=>?_);have c:=v x Um;have d:=v y Um;rw[hx]at c;rw[i]at d;simp only[ac]at c d |-;exact⟨_,by simp[execOp,z,c,d,eqGuard,binOp,run_equal_bool f],rfl⟩
def ae1{s t x k y n u}(a:o.op= .convert s t x)(hs:P.underlying s=some u)(b:P.underlying t=some (.int y))(hx:bP ge tm x= .int k n):
 Ev P ge o tm S (.int y (y.wrap n)):=by
 refine .df (λg w c _ _ r d v=>?_);have z:=v x OT;rw[hx]at z;simp only[ac]at z |-;refine⟨.int y (y.wrap n),?_,rfl⟩;simp only[execOp,a,convert,FO,FG hs,FG b,G4,z];cases u<;>simp[Conv.intToInt]
def vZ:G->At
 |.eU _ _|.aS _ _|.bool _|.int _ _|.str _|.sl _ _ _|.ms _ _ _|.map _|.dP|.agg _|.bZ _=>true
 |.fn (.func _) _ _=>true
 |_=>false
def Ev.nilCheck{x}(a:o.op= .nilCheck x)(hx:vZ (bP ge tm x)=true):Ev P ge o tm S (bP ge tm x):=by
 refine .df (λg w b _ _ r c v=>?_);have z:=v x OT;refine⟨b.eval x,?_,z⟩;generalize bP ge tm x=y at*;unfold vZ at hx;split at hx<;>first|(simp at hx;done)|simp only[ac]at z
 .obtain⟨_,e⟩:=z;simp[execOp,a,e]
 .obtain⟨_,_,_,e,_⟩:=z;simp[execOp,a,e]
 .simp[execOp,a,z]
 .simp[execOp,a,z]
 .simp[execOp,a,z]
 .obtain⟨_,_,e,_⟩:=z;simp[execOp,a,e]
 .obtain⟨_,_,_,e,_⟩:=z;simp[execOp,a,e]
 .obtain⟨_,e⟩:=z;simp[execOp,a,e]
 .simp[execOp,a,z]
 .obtain⟨_,e,_⟩:=z;simp[execOp,a,e]
 .obtain⟨_,e,_⟩:=z;simp[execOp,a,e]
 .obtain⟨_,_,e,_⟩:=z;simp[execOp,a,e]
def afy{t x y k i s b}(z:o.op= .index t x y)(d:P.underlying t=some .string)(hx:bP ge tm x= .str s)(e:bP ge tm y= .int k i)(f:0<=i)(j:s[i.toNat]?=some b):Ev P ge o tm S (.int .u8 b.toNat):=by
 refine .df (λg w l _ _ r m v=>?_);have a:=v x Um;have c:=v y Um;rw[hx]at a;rw[e]at c;simp only[ac]at a c |-;exact⟨_,by simp[execOp,z,a,c,Instr.index,asIntOf,FG d,f,j],rfl⟩
def afz{t e x y k i len sz c cs z}(d:o.op= .index t x y)(q:P.underlying t=some (.array len e))(hx:bP ge tm x= .agg cs)(s:bP ge tm y= .int k i)(A:0<=i)(C:i<len)(D:du P e=some sz)(K:gV P e=some c)(a:cut c sz cs (i.toNat*sz)=some z):Ev P ge o tm S z:=by
 refine .df (λg w L _ _ r X v=>?_);have f:=v x DA;have j:=v y DA;rw[hx]at f;rw[s]at j;simp only[ac]at f j;obtain⟨bD,e1,l⟩:=f;have m:=ly (P:=P) K w;have b:=dH (P:=P) D w;have p:=VL.length _ _ l;have N:0<=i/\i<(len:Int):=⟨A,C⟩;simp only[execOp,d,Instr.index,j,asIntOf,FO,Iu,G4,FG q,e1,N,and_self,J0,b,part,m];cases c with
 |true=>
  simp only[cut,J0]at a;split at a
  .simp at a;subst a;refine⟨.agg (bD.extract (i.toNat*sz) (i.toNat*sz+sz)),?_,?_⟩
   .simp[b]
   .simp only[ac];refine⟨_,rfl,?_⟩;have:(bD.extract (i.toNat*sz) (i.toNat*sz+sz)).toList=(bD.toList.drop (i.toNat*sz)).take sz:=by
     simp[Array.toList_extract]
    rw[this];exact VL.take sz _ _ (VL.drop _ _ _ l)
  .simp at a
 |false=>
  simp only[cut,anz,JU]at a;obtain⟨u,Q,h6⟩:=VL.get _ _ l _ z a;refine⟨u,?_,h6⟩;have n:bD[i.toNat*sz]?=some u:=by rw[<-Q];simp
  simp[n]
def AQ(ge:GE)(tm:Tm):T Operand->T (T Int)
 |none=>some none
 |some x=>match bP ge tm x with
  |.int _ n=>some (some n)
  |_=>none
def jF{g}{a:Act}{x n}(h:AQ ge tm x=some n)(z:∀y,x=some y->ac g (bP ge tm y) (a.eval y)):
 (n=none/\x.map a.eval=none)\/∃k m,n=some m/\x.map a.eval=some (.int k m):=by
 cases x with
 |none=>simp[AQ]at h;exact .inl ⟨h.symm,rfl⟩
 |some y=>
  simp only[AQ]at h;have:=z y rfl;split at h
  .rename_i k m e;simp at h;rw[e]at this;simp only[ac]at this;exact .inr ⟨k,m,h.symm,by simp[this]⟩
  .simp at h
def afA{t x lo j l h s}(d:o.op= .slice t x lo j none)(q:P.underlying t=some .string)(hx:bP ge tm x= .str s)(u:AQ ge tm lo=some l)(A:AQ ge tm j=some h)(C:0<=l.getD 0)(D:l.getD 0<=h.getD s.size)(K:h.getD s.size<=s.size):
 Ev P ge o tm S (.str (s.extract (l.getD 0).toNat (h.getD s.size).toNat)):=by
 refine .df (λg w z _ _ r kk v=>?_);have k:=v x DA;rw[hx]at k;simp only[ac]at k |-;have N:=jF (g:=g) (a:=z) u (λy e=>v y (by simp[d,Op.operands,e]));have Q:=jF (g:=g) (a:=z) A (λy e=>v y (by simp[d,Op.operands,e]));generalize b:(l.getD 0).toNat=L at*;generalize c:(h.getD (s.size:Int)).toNat=H at*;have X:L<=H:=by omega
 have hHx:H<=s.size:=by omega
 refine⟨_,?_,rfl⟩;have run:∀vl m,vl=lo.map z.eval->m=j.map z.eval->(Instr.sliceBounds false s.size s.size vl m none).run P w= .ok (L,H,s.size) w:=by
  intro vl m n p;subst n p;rcases N with⟨rfl,e2⟩|⟨k1,f,rfl,e2⟩<;>rcases Q with⟨rfl,e3⟩|⟨k2,i,rfl,e3⟩<;>simp only[Oy,Kj]at C D K b c<;>
   simp only[e2,e3,Instr.sliceBounds,Instr.sliceBound,asIntOf,FO,Iu,G4]
  .simp at b c;simp[<-c,<-b]
  .have e4:0<=i/\i<=(s.size:Int):=⟨by omega,by omega⟩;simp at b;rw[BX e4];simp[c,<-b]
  .have e4:0<=f/\f<=(s.size:Int):=⟨by omega,by omega⟩;simp at c;rw[BX e4];simp[b,<-c]
  .have e4:0<=i/\i<=(s.size:Int):=⟨by omega,by omega⟩;have e5:0<=f/\f<=(H:Int):=⟨by omega,by omega⟩;rw[BX e4];simp only[Iu,G4,c];rw[BX e5];simp[b]
 simp[execOp,d,Instr.sliceAt,FG q,Instr.slice,k,run _ _ rfl rfl]
def RR{g sz L H cap xs a}(l:ac g (.sl sz .no xs) (.slice a xs.length cap))(n:L<=H)(o:H<=xs.length):
 ac g (.sl sz .no ((xs.drop L).take (H-L))) (.slice (if cap=L then a else a.map (·.add (L*sz))) (H-L) (cap-L)):=by
 simp only[ac]at l |-;obtain⟨r,m,e1,s,p,j,c,_⟩:=l;simp at e1;obtain⟨rfl,rfl⟩:=e1;have x:((xs.drop L).take (H-L)).length=H-L:=by simp;omega
 refine⟨_,cap-L,by rw[x],by rw[x];omega,?_,λz=>?_,?_,trivial⟩
 .intro e;split at e
  .omega
  .cases a with
   |none=>have:=p rfl;omega
   |some a=>simp at e
 .have d:xs≠ []:=by intro e;subst e;simp at z
  have q:L<H:=by
   apply L3;intro t;have:H-L=0:=by omega
   rw[this]at z;simp at z
  obtain⟨b,off,vals,rfl,k,f⟩:=j d;refine⟨b,off+L*sz,(vals.drop (L*sz)).take ((H-L)*sz),?_,VE.take (H-L) _ _ (VE.drop L _ _ k),?_⟩
  .rw[BY B9];simp[JE]
  .rw[<-NL];exact(List.take_prefix _ _).trans (eF f _)
 .intro y i;split at i
  .exact c y i
  .cases a with
   |none=>simp at i
   |some a=>
    simp at i;subst i;have:=c a rfl;unfold Addr.add;split<;>simp_all
def Ev.slice{t e x lo m l h sz tok f xs}(i:o.op= .slice t x lo m none)(K:cX P t=some (e,sz))(hx:bP ge tm x= .sl sz tok f)(ez:bF f xs)(N:AQ ge tm lo=some l)(Q:AQ ge tm m=some h)(X:0<=l.getD 0)(h1:l.getD 0<=h.getD xs.length)(h2:h.getD xs.length<=xs.length):
 Ev P ge o tm S (.sl sz .no ((xs.drop (l.getD 0).toNat).take ((h.getD xs.length).toNat-(l.getD 0).toNat))):=by
 refine .df (λg w z _ _ r kk v=>?_);obtain⟨hu,n⟩:=dm K;have d:=v x (by simp[i,Op.operands]);rw[hx]at d;have d:=ac.sub (Sub.sl ez (.inr rfl)) _ d;have p:=d;simp only[ac]at d;obtain⟨a,cap,e1,hc,hn,akh,aiT,_⟩:=d;have b1:=jF (g:=g) (a:=z) N (λy e=>v y (by simp[i,Op.operands,e]));have b2:=jF (g:=g) (a:=z) Q (λy e=>v y (by simp[i,Op.operands,e]));generalize b:(l.getD 0).toNat=L at*;generalize c:(h.getD (xs.length:Int)).toNat=H at*;have q:L<=H:=by omega
 have s:H<=xs.length:=by omega
 refine⟨.slice (if cap=L then a else a.map (·.add (L*sz))) (H-L) (cap-L),?_,?_⟩
 .have u:=dH (P:=P) n w;have run:∀vl A,vl=lo.map z.eval->A=m.map z.eval->(Instr.sliceBounds true xs.length cap vl A none).run P w= .ok (L,H,cap) w:=by
   intro vl A C D;subst C D;rcases b1 with⟨rfl,e2⟩|⟨k1,j,rfl,e2⟩<;>rcases b2 with⟨rfl,e3⟩|⟨k2,k,rfl,e3⟩<;>simp only[Oy,Kj]at X h1 h2 b c<;>
    simp only[e2,e3,Instr.sliceBounds,Instr.sliceBound,asIntOf,FO,Iu,G4]
   .simp at b c;simp[<-c,<-b]
   .have e4:0<=k/\k<=(cap:Int):=⟨by omega,by omega⟩;simp at b;rw[BX e4];simp[c,<-b]
   .have e4:0<=j/\j<=(xs.length:Int):=⟨by omega,by omega⟩;simp at c;rw[BX e4];simp[b,<-c]
   .have e4:0<=k/\k<=(cap:Int):=⟨by omega,by omega⟩;have e5:0<=j/\j<=(H:Int):=⟨by omega,by omega⟩;rw[BX e4];simp only[Iu,G4,c];rw[BX e5];simp[b]
  simp only[execOp,i,Instr.sliceAt,FO,FG hu,G4,Instr.slice,e1,run _ _ rfl rfl,u,Iu,NI]
 .exact RR (by rw[<-e1];exact p) q s
def afB{F hp K t e x lo k m sz n j xs}i(u:hp i=none)(A:¬F i)(l:o.op= .slice t x (some lo) none none)(C:cX P t=some (e,sz))(hx:bP ge tm x= .sl sz (.tail j) xs)(D:bP ge tm lo= .int k m)
 (s:hp j=some (.tail sz n)) (d:xs.length=n) (N:0<=m) (h1:m<=n) (Q:K (.sl sz (.tail i) (xs.drop m.toNat)) (cW (cW hp j (.bD 0 [])) i (.tail sz (n-m.toNat)))):eW P ge F o tm hp K:=by
 refine .value λg fr w X f r kk v=>?_
 obtain⟨hu,p⟩:=dm C;have z:=v x IU;have q:=v lo IU;rw[hx]at z;rw[D]at q;simp only[ac]at q;have b:=ac.sub (Sub.sl (.refl _) (.inr rfl)) _ z;have y:=z;simp only[ac]at z;obtain⟨a,cap,e1,hc,_⟩:=z;rw[e1]at y b;have hp:=RR b (L:=m.toNat) (H:=xs.length) B9 (Hq _);rw[d,L6 Ar]at hp;rw[d]at y;have c:=dI f A;obtain⟨g',l1,r1,v1⟩:=r.rel.JQ (cm u c) (aK s) d B9 y hp;refine⟨_,w,g',_,_,?_,l1,⟨?_,?_⟩,v1,Q⟩
 .have hb:(Instr.sliceBounds true xs.length cap (some (.int k m)) none none).run P w= .ok (m.toNat,xs.length,cap) w:=by
   simp only[Instr.sliceBounds,Instr.sliceBound,asIntOf,FO,Iu,G4];rw[BX ⟨N,by omega⟩];simp
  simp only[execOp,l,Instr.sliceAt,FO,FG hu,G4,Instr.slice,e1,Jm,NI,q,hb,dH p,Iu];rw[d]
 .rw[<-bz,<-bz];exact r1
 .exact(r.cM.fW s).cW c
def agE{t e}(x:P.underlying t=some (.slice e))a n c m k w:(Op.equal t (.slice a n c) (.slice none m k)).run P w= .ok a.isNone w:=by
 unfold Op.equal Op.maxDepth;rw[show(10000:Nat)=9999+1 from rfl];unfold Op.equalIn;simp only[FO,FG x,G4];cases a<;>rfl
def afC{F hp K t i e x sz m k tok xs}(d:o.op= .binOp .eql t x (.const (.slice none m k)) i)(j:P.underlying t=some (.slice e))(hx:bP ge tm x= .sl sz tok xs)(l:∀c,(c=true->xs=[])->K (.bool c) hp):eW P ge F o tm hp K:=
 eW.value λg fr w a q r s v=>by
  have y:=v x DA;rw[hx]at y;simp only[ac]at y;obtain⟨f,cap,y,u,A,n,_,_⟩:=y;refine⟨.bool f.isNone,w,g,.bool f.isNone,hp,?_,.refl _,r,rfl,l _ λe=>?_⟩
  .have p:a.eval (.const (.slice none m k))= .slice none m k:=rfl;simp[execOp,d,y,p,eqGuard,binOp,agE j]
  .by_cases z:xs=[]
   .exact z
   .obtain⟨b,off,vals,h,_⟩:=n z;rw[h]at e;simp at e
def Cd(t:At):G->G->G
 |.bool p,.bool q=>.bool (if t then p else q)
 |x,y=>if t then x else y
def avJ t x y:Cd t x y=if t then x else y:=by
 unfold Cd
 grind
def aA{X}(xs:U X)(i:Int):T X:=match i with
 |.ofNat n=>xs[n]?
 |.negSucc _=>none
def p8{x xs i}{z:x}(h:aA xs i=some z):0<=i/\xs[i.toNat]?=some z:=by
 unfold aA at h;split at h
 .exact⟨Ir _,h⟩
 .simp at h
def y8{x y}(f:x->y){xs i z}(h:aA xs i=some z):aA (xs.map f) i=some (f z):=by
 unfold aA at h |-;split at h
 .simp[h]
 .simp at h
def evS(P:Program)(ge:GE)(tm:Tm)(o:Oper):T G:=
 match o.op with
 |.move x=>some (bP ge tm x)
 |.assign x=>some (bP ge tm x)
 |.pick c x y=>match bP ge tm c with
  |.bool t=>some (Cd t (bP ge tm x) (bP ge tm y))
  |_=>none
 |.fieldAddr s x f=>match kN P s f with
  |some (off,t)=>match du P t with
   |some (_+1)=>(bP ge tm x).p6 off
   |_=>none
  |none=>none
 |.field s x f=>match kN P s f with
  |some (off,t)=>match du P t,gV P t,bP ge tm x with
   |some n,some j,.agg cs=>cut j n cs off
   |_,_,_=>none
  |none=>none
 |.extract x i=>match bP ge tm x with
  |.bZ cs=>cs[i]?
  |_=>none
 |.makeFunc fn first g=>some (.fn fn (first.toList.map (bP ge tm)) (g.toList.map (bP ge tm)))
 |.build t z=>sL P t (z.toList.map λq=>(q.1,bP ge tm q.2))
 |.buildSlice t len z=>match cX P t with
  |some (e,sz)=>match jK P e with
   |some l=>if len=z.size/\l.length=sz/\len*sz<=16777216/\len<=16777216/\sM sz (z.toList.map λq=>(q.1,bP ge tm q.2))=true then some (.sl sz .fu (z.toList.map λq=>bP ge tm q.2))else none
   |none=>none
  |none=>none
 |.binOp op t x y _=>match bP ge tm x,bP ge tm y with
  |.int k a,.int d b=>if k=d then vP op k a b else none
  |.str a,.str b=>vR op a b
  |.bool a,.bool b=>match op,P.underlying t with
   |.eql,some .bool=>some (.bool (a==b))
   |.neq,some .bool=>some (.bool (!(a==b)))
   |_,_=>none
  |_,_=>none
 |.unOp op _ x=>match op,bP ge tm x with
  |.not,.bool b=>some (.bool (!b))
  |.neg,.int k n=>some (.int k (k.wrap (0-n)))
  |_,_=>none
 |.nilCheck x=>if vZ (bP ge tm x)=true then some (bP ge tm x)else none
 |.convert s t x=>match P.underlying s,P.underlying t,bP ge tm x with
  |some _,some (.int d),.int _ n=>some (.int d (d.wrap n))
  |_,_,_=>none
 |.call c=>match c.callee,c.args.toList,c.argTypes.toList with
  |.builtin .len,[x],[t]=>match P.underlying t,bP ge tm x with
   |some (.slice _),.sl _ _ xs=>some (.int .i64 xs.length)
   |some .string,.str s=>some (.int .i64 s.size)
   |_,_=>none
  |_,_,_=>none
 |_=>none
def ev(P:Program)(ge:GE)(tm:Tm)(hp:Hp)(o:Oper):T G:=
 match o.op with
 |.load t x=>fY P hp t (bP ge tm x)
 |_=>evS P ge tm o
def Rw(P:Program)(ge:GE)(N:Nat)(hp:Hp):U Oper->Tm->T Tm
 | [],tm=>some tm
 |o::l,tm=>match o.guard with
  |none=>if iO N o.dst then(ev P ge tm hp o).bind λx=>Rw P ge N hp l (put tm o.dst x)else none
  |some _=>none
def kA(tm:Tm):Tm->Prop
 | []=>True
 |(i,x)::r=>Sub (get tm i) x/\kA tm r
def kA.sub{tm}:∀{y},kA tm y->∀p∈y,Sub (Ab.get tm p.1) p.2
 | [],_,p,h=>by simp at h
 |(i,x)::r,k,p,h=>by
  simp only[kA]at k;rcases BV.1 h with rfl|h
  .exact k.1
  .exact kA.sub k.2 p h
def br.lU{c x}(k:kA tm x)(h:br P ge d N c Q x hp):br P ge d N c Q tm hp:=u4 h λg _ _ _ _ r v=>⟨g,AV.nk.refl _ g,r,v.sub k.sub⟩
end
section
variable {P:Program}{ge:GE}{F:Nm->Prop}{d N:Nat}{tm:Tm}{hp:Hp}{Q:fX}
def aV{x ρ}(step:x->T (x⊕ρ)):Nat->x->T ρ
 |0,_=>none
 |n+1,s=>(step s).bind λ
  |.inl s=>aV step n s
  |.inr r=>some r
end
section
variable {P:Program}{ge:GE}{F:Nm->Prop}{d N:Nat}{tm:Tm}{hp:Hp}{o:Oper}{Q:fX}
def T1:Hp->Prop:=λ_=>True
abbrev av9:=G->Hp->Prop
theorem eW.mono{K K'}(h:eW P ge F o tm hp K)(z:∀x hp,K x hp->K' x hp):eW P ge F o tm hp K':=λg fr w a Q f r k v=>MG (λ_ _⟨u,g',x,y,e,b,c,d,i⟩=>⟨u,g',x,y,e,b,c,d,z _ _ i⟩) (h g fr w a Q f r k v)
end
section
variable {P:Program}{ge:GE}{d N:Nat}{tm:Tm}{hp:Hp}{o:Oper}{Q:fX}{X D ρ:Type}
def Rx(tm x:Tm):Prop:=∀t,Sub (get tm t) (get x t)
theorem Rx.refl tm:Rx tm tm:=λ_=>.refl _
def has(a:Tm)(t:Nat):At:=match a with
 | []=>false
 |p::a=>p.1==t||has a t
def kA.yW{ai0}(k:kA tm ai0):Rx tm ai0:=λt=>by
 induction ai0 with
 |nil=>exact .any _
 |cons p r x=>
  grind [ff,k.1,k.2]
def alJ(z:X->Tm)(a:X->Hp)(x y:X⊕ρ)(Q:fX):fX:=λe tm hp=>match e with
 |.normal=>∃v,y= .inl v/\kA tm (z v)/\hp=a v
 |e=>∃r,y= .inr r/\(x= .inr r->Q e tm hp)
theorem br.bG{c z}y a{x:X⊕ρ}(h:br P ge d N c (alJ y a x x Q) tm hp)
 (k:∀v,x= .inl v->br P ge d N z Q (y v) (a v)):br P ge d N (.seq c z) Q tm hp:=
 br.seq (h.mono λe tm hp q=>by
  cases e with
  |normal=>obtain⟨v,b,f,rfl⟩:=q;exact br.lU f (k v b)
  |_=>obtain⟨r,g,q⟩:=q;exact q g)
end
section
variable {P:Program}{ge:GE}
def jV.bm(x:Nm->Nm):jV->jV
 |.tail j=>.tail (x j)
 |t=>t
mutual
def G.bm (X:Nm->Nm):G->G
 |.eU j off=>.eU (X j) off
 |.aS cs off=>.aS (hO X cs) off
 |.sl sz tok xs=>.sl sz (tok.bm X) (hO X xs)
 |.ms j sz n=>.ms (X j) sz n
 |.sub j sz lo n N=>.sub (X j) sz lo n N
 |.map j=>.map (X j)
 |.fn f a b=>.fn f (hO X a) (hO X b)
 |.iface t v=>.iface t (G.bm X v)
 |.agg cs=>.agg (hO X cs)
 |.bZ cs=>.bZ (hO X cs)
 |x=>x
def hO (X:Nm->Nm):U G->U G
 | []=>[]
 |x::xs=>G.bm X x::hO X xs
end
def mX x:∀xs,(hO x xs).length=xs.length
 | []=>rfl
 |_::xs=>by simp[hO,mX x xs]
def avI x:∀xs,hO x xs=[]↔xs=[]
 | []=>by simp[hO]
 |_::xs=>by simp[hO]
def AV.bm(g:AV)(x:Nm->Nm):AV:={g with dC:=λj=>g.dC (x j),cC:=λj=>g.cC (x j),tl:=λj=>g.tl (x j)}
theorem dV.bm{g x n a cap t}:dV (g.bm x) n a cap t↔dV g n a cap (t.bm x):=by
 cases t<;>simp[dV,jV.bm,AV.bm]
mutual
theorem ac.bm (g:AV) (X:Nm->Nm):(x:G)->(v:Value)->(ac (g.bm X) x v↔ac g (x.bm X) v)
 |.bool _,v=>by simp[ac,G.bm]
 |.int _ _,v=>by simp[ac,G.bm]
 |.str _,v=>by simp[ac,G.bm]
 |.eM,v=>by simp[ac,G.bm]
 |.eU j off,v=>by simp[ac,G.bm,AV.bm]
 |.aS cs off,v=>by simp only[ac,G.bm,VL.bm g X cs];rfl
 |.sl sz tok xs,v=>by
  simp only[ac,G.bm,VE.bm g X sz xs,mX,dV.bm,ne_eq,avI];rfl
 |.ms j _ _,v=>by simp[ac,G.bm,AV.bm,dV]
 |.sub j _ _ _ _,v=>by simp[ac,G.bm,AV.bm]
 |.dP,v=>by simp[ac,G.bm]
 |.map j,v=>by simp[ac,G.bm,AV.bm]
 |.fn f a b,v=>by simp only[ac,G.bm,VL.bm g X a,VL.bm g X b]
 |.bX,v=>by simp[ac,G.bm]
 |.iface t x,v=>by simp only[ac,G.bm,ac.bm g X x]
 |.nilIface,v=>by simp[ac,G.bm]
 |.agg cs,v=>by simp only[ac,G.bm,VL.bm g X cs]
 |.bZ cs,v=>by simp only[ac,G.bm,VL.bm g X cs]
 |.any,v=>by simp[ac,G.bm]
 |.mR _,v=>by simp[ac,G.bm,AV.bm]
theorem VL.bm (g:AV) (X:Nm->Nm):(xs:U G)->(vs:U Value)->(VL (g.bm X) xs vs↔VL g (hO X xs) vs)
 | [],vs=>by simp[VL,hO]
 |x::xs,vs=>by simp only[VL,hO,ac.bm g X x,VL.bm g X xs]
theorem VE.bm (g:AV) (X:Nm->Nm) (sz:Nat):(xs:U G)->(vs:U Value)->(VE (g.bm X) sz xs vs↔VE g sz (hO X xs) vs)
 | [],vs=>by simp[VE,hO]
 |x::xs,vs=>by simp only[VE,hO,ac.bm g X x,VE.bm g X sz xs]
end
def bB.bm(x:Nm->Nm):bB->bB
 |.cells cs=>.cells (hO x cs)
 |.tail sz n=>.tail sz n
 |.map y=>.map (y.map λe=>(e.1.bm x,e.2.bm x))
 |.sG s pos=>.sG s pos
 |.yB i=>.yB (x i)
 |.bD sz xs=>.bD sz (hO x xs)
theorem cu.bm{g y}:∀xs z,(cu (g.bm y) xs z↔cu g (xs.map λe=>(e.1.bm y,e.2.bm y)) z)
 | [],z=>by simp[cu]
 |x::xs,z=>by simp only[cu,Hx,ac.bm g y,cu.bm xs]
theorem ey.bm{g x w j o}:ey (g.bm x) w j o↔ey g w (x j) (o.bm x):=by
 cases o with
 |cells cs=>simp only[ey,bB.bm,VL.bm g x];rfl
 |tail sz n=>simp only[ey,bB.bm];rfl
 |map y=>simp only[ey,bB.bm,cu.bm];rfl
 |sG s pos=>simp only[ey,bB.bm];rfl
 |yB i=>simp only[ey,bB.bm];rfl
 |bD sz xs=>
  simp only[ey,bB.bm,VE.bm g x];cases xs<;>simp[hO,AV.bm,Hk,mX]
def nr{g x j o}:dq (g.bm x) j o=dq g (x j) (o.bm x):=by
 cases o with
 |bD sz xs=>cases xs<;>rfl
 |_=>rfl
def Hp.bm(hp:Hp)(x y:Nm->Nm):Hp:=λj=>(hp (y j)).map (bB.bm x)
structure wa(X D:Nm->Nm):Prop where
 st:∀j,X (D j)=j
 ts:∀j,D (X j)=j
theorem dy.bm{g x e}(b:wa x e){w hp}:dy (g.bm x) w hp↔dy g w (hp.bm x e):=by
 have look:∀j,hp.bm x e (x j)=(hp j).map (bB.bm x):=λj=>by simp[Hp.bm,b.ts]
 constructor
 .intro r;refine⟨λj=>?_,r.jI,r.size,r.fz,λj o h=>?_,λj o c h y=>?_,λi j o p c a d y z=>?_⟩
  .have:=r.dC (e j);simp only[AV.bm,b.st]at this;rw[this];simp[Hp.bm]
  .simp only[Hp.bm,LU]at h;obtain⟨o',h,rfl⟩:=h;have:=ey.bm.1 (r.fR _ _ h)
   rwa [b.st]at this
  .simp only[Hp.bm,LU]at h;obtain⟨o',h,rfl⟩:=h;exact r.el _ _ c h (by rw[nr,b.st];exact y)
  .simp only[Hp.bm,LU]at a d;obtain⟨o',a,rfl⟩:=a;obtain⟨f,d,rfl⟩:=d;have:=r.jH _ _ _ _ c a d (by rw[nr,b.st];exact y) (by rw[nr,b.st];exact z);rw[<-b.st i,<-b.st j,this]
 .intro r;refine⟨λj=>?_,r.jI,r.size,r.fz,λj o h=>?_,λj o c h y=>?_,λi j o p c a d y z=>?_⟩
  .have:=r.dC (x j);simp only[AV.bm];rw[this,look];simp
  .exact ey.bm.2 (r.fR (x j) _ (by rw[look,h];rfl))
  .exact r.el (x j) (o.bm x) c (by rw[look,h];rfl) (by rw[<-nr];exact y)
  .have:=r.jH (x i) (x j) (o.bm x) (p.bm x) c (by rw[look,a];rfl) (by rw[look,d];rfl) (by rw[<-nr];exact y) (by rw[<-nr];exact z);rw[<-b.ts i,<-b.ts j,this]
mutual
theorem Nh {X D:Nm->Nm} (h:∀j,X (D j)=j):(x:G)->(x.bm D).bm X=x
 |.bool _=>rfl
 |.int _ _=>rfl
 |.str _=>rfl
 |.eM=>rfl
 |.eU j off=>by simp[G.bm,h]
 |.aS cs off=>by simp only[G.bm,o0 h cs]
 |.sl sz tok xs=>by simp only[G.bm,o0 h xs];cases tok<;>simp[jV.bm,h]
 |.ms j _ _=>by simp[G.bm,h]
 |.sub j _ _ _ _=>by simp[G.bm,h]
 |.dP=>rfl
 |.map j=>by simp[G.bm,h]
 |.fn f a b=>by simp only[G.bm,o0 h a,o0 h b]
 |.bX=>rfl
 |.iface t x=>by simp only[G.bm,Nh h x]
 |.nilIface=>rfl
 |.agg cs=>by simp only[G.bm,o0 h cs]
 |.bZ cs=>by simp only[G.bm,o0 h cs]
 |.any=>rfl
 |.mR _=>rfl
theorem o0 {X D:Nm->Nm} (h:∀j,X (D j)=j):(xs:U G)->hO X (hO D xs)=xs
 | []=>rfl
 |x::xs=>by simp only[hO,Nh h x,o0 h xs]
end
def afD{x y}(h:∀j,x (y j)=j)(o:bB):(o.bm y).bm x=o:=by
 cases o with
 |cells cs=>simp only[bB.bm,o0 h]
 |tail sz n=>rfl
 |sG s pos=>rfl
 |yB i=>simp only[bB.bm,h]
 |bD sz xs=>simp only[bB.bm,o0 h]
 |map z=>
  simp only[bB.bm,JD];congr 1;have:((λe:G×G=>(G.bm x e.1,G.bm x e.2))∘λe=>(G.bm y e.1,G.bm y e.2))=id:=by
   funext e;simp only[Function.comp,Nh h,id]
  rw[this,List.map_id]
def vh{x y}(b:wa x y)(hp:Hp):(hp.bm y x).bm x y=hp:=by
 funext j;simp only[Hp.bm,b.st,Option.map_map];cases hp j with
 |none=>rfl
 |some o=>simp[afD b.st]
def vv x y a b:(Ab.bG a b).bm x y=Ab.bG (a.bm x y) (b.bm x y):=by
 funext j
 grind [Hp.bm,Ab.bG]
def Ak{x y}(h:∀j,x (y j)=j)(g:AV):(g.bm x).bm y=g:=by
 simp[AV.bm,h]
theorem AV.Le.bm{g h:AV}{y x:Nm->Nm}(b:wa y x)(l:AV.Le (g.bm y) h):AV.Le g (h.bm x)where
 bV:=l.bV
 w0:=l.w0
 fz:=l.fz
 dC j hj:=by have:=l.dC (x j);simp only[AV.bm,b.st]at this;exact this hj
 cC j hj:=by have:=l.cC (x j);simp only[AV.bm,b.st]at this;exact this hj
 tl j hj:=by have:=l.tl (x j);simp only[AV.bm,b.st]at this;exact this hj
theorem dW.bm{X y}(b:wa X y){d e}(hd:∀j,(X j).1<e↔j.1<d){f args hp D}(C:dW P ge d f args hp D):
 dW P ge e f (hO X args) (hp.bm X y) (λx m=>∃a c,x=a.bm X/\m=c.bm X y/\D a c):=by
 intro g fr w vs n r k v;have b':wa y X:=⟨b.ts,b.st⟩;refine(C (g.bm X) (fr.bm y X) w vs (λj i=>?_) ⟨?_,λj=>?_⟩ ?_ ((VL.bm g X _ _).2 v)).mono λen w'⟨u,g',x,z,e1,o,l,p,q⟩=>?_
 .simp only[Hp.bm,Option.isSome_map]at i;exact(hd j).1 (n _ i)
 .rw[dy.bm b,vv,vh b];exact r.rel
 .have:=r.cM (X j)
  grind [Hp.bm,b.ts,Option.map_eq_none_iff]
 .exact oO.sH (S:=λ_=>False) (g:=g) (h:=g.bm X) ⟨rfl,rfl,λ_=>K4,λ_ h=>h.elim,λ_ h=>h.elim,λ_ h=>h.elim⟩ k
 .refine⟨u,g'.bm y,x.bm X,z.bm X y,e1,o.bm b,⟨?_,λj=>?_⟩,?_,x,z,rfl,rfl,q⟩
  .have:=l.rel;rw[<-Ak b.ts g',dy.bm b,vv,vh b]at this;exact this
  .have:=l.cM (y j)
   grind [Hp.bm,b.st,Option.map_eq_none_iff]
  .rw[<-ac.bm,Ak b.ts];exact p
end
section
variable {P:Program}{ge:GE}
def Hz:Nm->Nm
 |(0,n)=>(n % 2,n / 2)
 |(m+1,k)=>(m+2,k)
def JZ:Nm->Nm
 |(0,b)=>(0,2*b)
 |(1,b)=>(0,2*b+1)
 |(m+2,b)=>(m+1,b)
def Vv:wa Hz JZ where
 st:=by
  rintro⟨a,b⟩
  match a with
  |0=>simp only[JZ,Hz];congr 1<;>omega
  |1=>simp only[JZ,Hz];congr 1<;>omega
  |m+2=>simp[JZ,Hz]
 ts:=by
  rintro⟨a,n⟩
  match a with
  |0=>
   simp only[Hz];rcases Nat.mod_two_eq_zero_or_one n with h|h
   .rw[h];simp only[JZ];congr 1;omega
   .rw[h];simp only[JZ];congr 1;omega
  |m+1=>simp[JZ,Hz]
def agz:∀j,(Hz j).1<2↔j.1<1:=by
 rintro⟨a,n⟩
 match a with
 |0=>simp only[Hz];omega
 |m+1=>simp only[Hz];omega
def swap(a b:Nm):Nm->Nm:=λj=>if j=a then b else if j=b then a else j
def iE a b j:swap a b (swap a b j)=j:=by
 grind [swap]
theorem wa.swap{x y:Nm->Nm}(h:wa x y)(a b:Nm):wa (λj=>Ab.swap a b (x j)) (λj=>y (Ab.swap a b j))where
 st j:=by simp[h.st,iE]
 ts j:=by simp[h.ts,iE]
def u7 a b:swap a b a=b:=by simp[swap]
def ma{a b j}(x:j≠a)(y:j≠b):swap a b j=j:=by simp[swap,x,y]
def au6:(l:U Nm)->l.Nodup->(∀j∈l,j.1<2)->∃y f,wa y f/\(∀j,(y j).1<2↔j.1<1)/\∀i X,l[i]?=some X->y (0,i)=X:=by
 suffices h:∀(n:Nat)(l:U Nm),l.length=n->l.Nodup->(∀j∈l,j.1<2)->∃y f,wa y f/\(∀j,(y j).1<2↔j.1<1)/\∀(i:Nat)(X:Nm),l[i]?=some X->y (0,i)=X from λl=>h l.length l rfl
 intro n
 induction n with
 |zero=>
  intro l g _ _;have:l=[]:=by simpa using g
  subst this;exact⟨Hz,JZ,Vv,agz,by simp⟩
 |succ n q=>
  intro l0 a r hd;obtain⟨l,x,rfl⟩:∃l x,l0=l++[x]:=by
   have c:l0≠ []:=by intro e;subst e;simp at a
   exact⟨l0.dropLast,l0.getLast c,(List.dropLast_concat_getLast c).symm⟩
  have d:=Lc.1 r;obtain⟨y,f,b,m,hs⟩:=q l (by simpa using a) d.1 (λj s=>hd j (by simp[s]));refine⟨_,_,b.swap (y (0,l.length)) x,λj=>?_,λi X z=>?_⟩
  .have hx:=hd x NP;have g:=(m (0,l.length)).2 NP;simp only[Ab.swap];split
   .rename_i e;have:=b.ts j;rw[e,b.ts]at this;subst this;simp[hx]
   .split
    .rename_i e;have:(y j).1<2:=by rw[e];exact hx
     exact⟨λ_=>(m j).1 this,λ_=>g⟩
    .exact m j
  .rw[List.getElem?_append]at z;split at z
   .rename_i t;have e:=hs i X z;rw[e];refine ma ?_ ?_
    .intro e2;rw[<-e]at e2;have:((0,i):Nm)=(0,l.length):=by rw[<-b.ts (0,i),e2,b.ts]
     simp at this;omega
    .intro e2;subst e2;exact d.2.2 X (K3 z) X NP rfl
   .rename_i u;have o:i=l.length/\x=X:=by
     cases p:i-l.length with
     |zero=>rw[p]at z;simp at z;exact⟨by omega,z⟩
     |succ k=>rw[p]at z;simp at z
    obtain⟨rfl,rfl⟩:=o;exact u7 _ _
mutual
theorem v5 {S:Nm->Prop} {X ρ:Nm->Nm} (h:∀j,S j->X j=ρ j):(x:G)->x.aM S->x.bm X=x.bm ρ
 |.bool _,_=>rfl
 |.int _ _,_=>rfl
 |.str _,_=>rfl
 |.eM,_=>rfl
 |.eU j off,e=>by simp only[G.aM]at e;simp[G.bm,h j e]
 |.aS cs off,e=>by simp only[G.aM]at e;simp only[G.bm,mp h cs e]
 |.sl sz tok xs,e=>by
  simp only[G.aM]at e;simp only[G.bm,mp h xs e.2];cases tok with
  |tail j=>simp only[jV.bm];rw[h j e.1]
  |_=>rfl
 |.ms j _ _,e=>by simp only[G.aM]at e;simp[G.bm,h j e]
 |.sub j _ _ _ _,e=>by simp only[G.aM]at e;simp[G.bm,h j e]
 |.dP,_=>rfl
 |.map j,e=>by simp only[G.aM]at e;simp[G.bm,h j e]
 |.fn f a b,e=>by simp only[G.aM]at e;simp only[G.bm,mp h a e.1,mp h b e.2]
 |.bX,_=>rfl
 |.iface t x,e=>by simp only[G.aM]at e;simp only[G.bm,v5 h x e]
 |.nilIface,_=>rfl
 |.agg cs,e=>by simp only[G.aM]at e;simp only[G.bm,mp h cs e]
 |.bZ cs,e=>by simp only[G.aM]at e;simp only[G.bm,mp h cs e]
 |.any,_=>rfl
 |.mR _,_=>rfl
theorem mp {S:Nm->Prop} {X ρ:Nm->Nm} (h:∀j,S j->X j=ρ j):(xs:U G)->hH S xs->hO X xs=hO ρ xs
 | [],_=>rfl
 |x::xs,e=>by simp only[hH]at e;simp only[hO,v5 h x e.1,mp h xs e.2]
end
mutual
theorem xo:(x:G)->x.bm id=x
 |.bool _=>rfl
 |.int _ _=>rfl
 |.str _=>rfl
 |.eM=>rfl
 |.eU j off=>rfl
 |.aS cs off=>by simp only[G.bm,ny cs]
 |.sl sz tok xs=>by simp only[G.bm,ny xs];cases tok<;>rfl
 |.ms j _ _=>rfl
 |.sub j _ _ _ _=>rfl
 |.dP=>rfl
 |.map j=>rfl
 |.fn f a b=>by simp only[G.bm,ny a,ny b]
 |.bX=>rfl
 |.iface t x=>by simp only[G.bm,xo x]
 |.nilIface=>rfl
 |.agg cs=>by simp only[G.bm,ny cs]
 |.bZ cs=>by simp only[G.bm,ny cs]
 |.any=>rfl
 |.mR _=>rfl
theorem ny:(xs:U G)->hO id xs=xs
 | []=>rfl
 |x::xs=>by simp only[hO,xo x,ny xs]
end
def p9:Nm->Prop:=λ_=>False
def zL{y}{x:G}(h:x.aM p9):x.bm y=x:=(v5 (λ_ h=>h.elim) x h).trans (xo x)
theorem zW{y x}(h:hH p9 x):hO y x=x:=(mp (λ_ h=>h.elim) x h).trans (ny x)
def dW.up{f args hp}{D:G->Prop}(C:dW P ge 1 f args ej (λx y=>y=ej/\D x))(z:hH p9 args)(a:∀x,D x->x.aM p9)(b:Hp.out hp 2):
 dW P ge 2 f args hp (λx y=>y=hp/\D x):=by
 have h:=C.bm Vv agz;rw[zW z]at h;have e:ej.bm Hz JZ=ej:=rfl;rw[e]at h;refine ac0 (h.mono λx y⟨c,d,e1,e2,e3,e4⟩=>?_) b;subst e3;rw[zL (a _ e4)]at e1;subst e1;exact⟨e2,e4⟩
end
section
variable {P:Program}{ge:GE}{d N:Nat}{tm:Tm}{hp:Hp}{Q:fX}
abbrev HL:=U (Nm×bB)
def aN:HL->Hp
 | []=>λ_=>none
 |(j,o)::l=>λi=>if i=j then some o else aN l i
def dp(j:Nm)(o:bB):HL->HL
 | []=>[(j,o)]
 |(i,p)::l=>if i=j then(j,o)::l else(i,p)::dp j o l
theorem avM:aN []=ej:=rfl
theorem bx j o:∀l,cW (aN l) j o=aN (dp j o l)
 | []=>rfl
 |(i,p)::l=>by
  have z:=bx j o l;simp only[dp];split
  .rename_i e;subst e;funext t;simp only[cW,aN];split<;>rfl
  .rename_i e;funext t;have:=congrFun z t;simp only[cW,aN]at this |-;by_cases y:t=j
   .subst y;rw[BX rfl]at this |-;rw[BY (λh=>e h.symm)];exact this
   .rw[BY y]at this |-;by_cases x:t=i
    .rw[BX x,BX x]
    .rw[BY x,BY x];exact this
def hu{hp l l' j o}(h:hp=aN l)(e:dp j o l=l'):cW hp j o=aN l':=by
 grind [bx]
def avT{l e}(h:(l.all λp=>decide (p.1.1<e))=true):Hp.out (aN l) e:=by
 induction l with
 |nil=>intro j x;simp[aN]at x
 |cons p l y=>
  obtain⟨i,o⟩:=p;simp only[List.all_cons,BR,FW]at h;intro j x;simp only[aN]at x;split at x
  .rename_i e;subst e;exact h.1
  .exact y h.2 j x
inductive jk:bB->bB->Prop
 |refl (o:bB):jk o o
 |cells {cs ds:List G}:bF cs ds->jk (.cells cs) (.cells ds)
 |bD {sz:Nat} {xs ys:List G}:bF xs ys->jk (.bD sz xs) (.bD sz ys)
def jk.fR{g w j o p}(h:jk o p)(r:ey g w j o):ey g w j p:=by
 cases h with
 |refl=>exact r
 |cells hs=>
  obtain⟨vs,rest,elem,x,y⟩:=r;exact⟨vs,rest,elem,VL.sub hs _ x,y⟩
 |bD hs=>
  intro z;obtain⟨vs,rest,elem,x,y⟩:=r (λe=>z (by have:=hs.length;rw[e]at this;exact KE (by simpa using this.symm)));exact⟨vs,rest,elem,VE.sub hs _ _ x,by rw[<-hs.length];exact y⟩
def jk.dq{g:AV}{j:Nm}{o p:bB}(h:jk o p):dq g j p=dq g j o:=by
 cases h with
 |refl=>rfl
 |cells=>rfl
 |bD hs=>cases hs<;>rfl
def HSub(hp hq:Hp):Prop:=∀j,match hp j,hq j with
 |some o,some p=>jk o p
 |none,none=>True
 |_,_=>False
theorem HSub.refl hp:HSub hp hp:=λj=>by cases hp j<;>simp[jk.refl]
def HSub.J2{hp hq}(h:HSub hp hq){j p}(x:hq j=some p):∃o,hp j=some o/\jk o p:=by
 have:=h j
 grind
def HSub.isSome{hp hq}(h:HSub hp hq)j:(hp j).isSome=(hq j).isSome:=by
 have:=h j
 grind
def dy.ez{g:AV}{w:World}{hp hq:Hp}(h:HSub hp hq)(r:dy g w hp):dy g w hq where
 dC j:=by rw[r.dC j,h.isSome j]
 jI:=r.jI
 size:=r.size
 fz:=r.fz
 fR j p hj:=by obtain⟨o,x,y⟩:=h.J2 hj;exact y.fR (r.fR j o x)
 el j p b hj ho:=by obtain⟨o,x,y⟩:=h.J2 hj;exact r.el j o b x (by rw[<-y.dq];exact ho)
 jH i j o p b z hj ho hp':=by
  obtain⟨o',x,y⟩:=h.J2 z;obtain⟨a,c,d⟩:=h.J2 hj;exact r.jH i j o' a b x c (by rw[<-y.dq];exact ho) (by rw[<-d.dq];exact hp')
theorem HSub.bG{hp hq fr}(h:HSub hp hq):HSub (Ab.bG hp fr) (Ab.bG hq fr):=λj=>by
 have:=h j;cases e:hp j with
 |none=>
  cases e2:hq j with
  |none=>rw[bM e,bM e2];exact HSub.refl fr j
  |some p=>simp[e,e2]at this
 |some o=>
  grind [aK]
def br.ez{c hq}(k:HSub hp hq)(h:br P ge d N c Q tm hq):br P ge d N c Q tm hp:=
 u4 h λg fr _ _ _ r v=>⟨g,AV.nk.refl _ g,⟨dy.ez k.bG r.rel,λj=>by
  rcases r.cM j with e|e
  .left;have:=k.isSome j;simp_all
  .exact .inr e⟩,v⟩
inductive uv:HL->HL->Prop
 |refl (l:HL):uv l l
 |cons {j:Nm} {o p:bB} {l m:HL}:jk o p->uv l m->uv ((j,o)::l) ((j,p)::m)
def uv.ez{l m}(h:uv l m):HSub (aN l) (aN m):=by
 induction h with
 |refl=>exact HSub.refl _
 | @cons j o p l m z _ a=>
  intro i;by_cases e:i=j
  .have x:aN ((j,o)::l) i=some o:=BX e;have y:aN ((j,p)::m) i=some p:=BX e;rw[x,y];exact z
  .have x:aN ((j,o)::l) i=aN l i:=BY e;have y:aN ((j,p)::m) i=aN m i:=BY e;rw[x,y];exact a i
def HS(hp:Hp)(l:HL):Prop:=∃l0,hp=aN l0/\uv l0 l
def afE{c l}(k:HS hp l)(h:br P ge d N c Q tm (aN l)):br P ge d N c Q tm hp:=by
 obtain⟨l0,rfl,hs⟩:=k;exact br.ez hs.ez h
variable {X D ρ:Type}
def au9(tm:Tm)(hp:Hp)(x:Tm)(l:HL):Prop:=HS hp l/\kA tm x
def br.at{c x l}(k:au9 tm hp x l)(h:br P ge d N c Q x (aN l)):br P ge d N c Q tm hp:=afE k.1 (br.lU k.2 h)
end
section
variable {tm:Tm}{hp:Hp}
def bF.sR{ys}(h:bF [] ys):ys=[]:=by cases h;rfl
def bF.FI{xs}(h:bF xs []):xs=[]:=by cases h;rfl
def nu{a b c:jV}(h:a=b\/b= .no)(k:b=c\/c= .no):a=c\/c= .no:=by
 grind
def y9:∀{cs x vs},bF cs x->yU x=some vs->yU cs=some vs
 |_,_,_,.refl _,e=>e
 |_,_,_,.cons h hs,e=>by
  simp[yU,Lg]at e |-;obtain⟨u,hu,us,y,rfl⟩:=e;refine⟨u,?_,us,y9 hs y,rfl⟩;cases h<;>simp_all[G.Rj]
mutual
theorem Sub.trans {x y z:G}:Sub x y->Sub y z->Sub x z
 |.refl _,k=>k
 |.any _,k=>by cases k<;>exact .any _
 |.sl hs ht,k=>by
  cases k with
  |refl=>exact .sl hs ht
  |any=>exact .any _
  |sl hs' ht'=>exact .sl (hs.trans hs') (nu ht ht')
  |nil ht'=>have:=hs.FI;subst this;exact .nil (nu ht ht')
 |.nil ht,k=>by
  cases k with
  |refl=>exact .nil ht
  |any=>exact .any _
  |sl hs' ht'=>have:=hs'.sR;subst this;exact .nil (nu ht ht')
  |nil ht'=>exact .nil (nu ht ht')
 |.agg hs,k=>by
  cases k with
  |refl=>exact .agg hs
  |any=>exact .any _
  |agg hs'=>exact .agg (hs.trans hs')
 |.bZ hs,k=>by
  cases k with
  |refl=>exact .bZ hs
  |any=>exact .any _
  |bZ hs'=>exact .bZ (hs.trans hs')
 |.aS hs,k=>by
  cases k with
  |refl=>exact .aS hs
  |any=>exact .any _
  |aS hs'=>exact .aS (hs.trans hs')
  |AE h e=>cases hs with
   |refl=>exact .AE h e
   |cons h' hs'=>exact .AE (h'.trans h) (y9 hs' e)
 |.AE h e,k=>by
  cases k with
  |refl=>exact .AE h e
  |any=>exact .any _
 |.mR,k=>by
  cases k with
  |refl=>exact .mR
  |any=>exact .any _
theorem bF.trans {xs ys zs:U G}:bF xs ys->bF ys zs->bF xs zs
 |.refl _,k=>k
 |.cons h hs,k=>by
  cases k with
  |refl=>exact .cons h hs
  |cons h' hs'=>exact .cons (h.trans h') (hs.trans hs')
end
theorem jk.trans{o p q}(h:jk o p)(k:jk p q):jk o q:=by
 cases h with
 |refl=>exact k
 |cells hs=>cases k with
  |refl=>exact .cells hs
  |cells x=>exact .cells (hs.trans x)
 |bD hs=>cases k with
  |refl=>exact .bD hs
  |bD x=>exact .bD (hs.trans x)
theorem uv.trans:∀{l m n},uv l m->uv m n->uv l n
 |_,_,_,.refl _,k=>k
 |_,_,_,.cons h hs,k=>by
  cases k with
  |refl=>exact .cons h hs
  |cons y x=>exact .cons (h.trans y) (hs.trans x)
def HS.of{l}:HS (aN l) l:=⟨l,rfl,.refl _⟩
def aU p[Decidable p]:T Unit:=if p then some ()else none
def aY{p}[Decidable p]{u}(h:aU p=some u):p:=by
 grind [aU]
def bind_some{y z x}{f:y->T z}{r}(h:x.bind f=some r):∃v,x=some v/\f v=some r:=Lg.1 h
def Sub.eq{x y}(h:x=y):Sub x y:=h▸ .refl _
def sz{n m t xs ys}(h:bF xs ys):bF (.sl n t []::xs) (.sl m .no []::ys):=.cons (.nil (.inr rfl)) h
def Sub.slice{x f}{xs:U x}{a b sz tok}:Sub (.sl sz tok (((xs.map f).drop a).take b)) (.sl sz tok (((xs.drop a).take b).map f)):=.eq (by rw[MC,NH])
end
section
variable {P:Program}
inductive UK where
 |int (k:IntKind)
 |bool
 |string
 |slice (e:Nat)
 |array (n e:Nat)
 |struct
 |map (k v:Nat)
 |iface
 |pointer
 |func
 |HB
structure TE where
 sz:Nat
 bytes:Nat
 agg:Bool
 jt:UK
 za:List (Nat×Nat)
 zero:List G
 Vx:Bool:=false
inductive Tr where
 |lf
 |nd (v:Option TE) (l r:Tr)
def Tr.find:Tr->Nat->T TE
 |.lf,_=>none
 |.nd v l r,n=>cond (Nat.beq n 0) v (cond (Nat.beq (n % 2) 1) (l.find (n / 2)) (r.find (n / 2-1)))
def fy{y}:U y->Nat->T y
 | [],_=>none
 |x::_,0=>some x
 |_::xs,n+1=>fy xs n
def dJ{y}:∀(xs:U y)n,fy xs n=xs[n]?
 | [],n=>by simp[fy]
 |x::xs,0=>rfl
 |x::xs,n+1=>by simp[fy,dJ xs n]
def Mm:G->G->At
 |.bool a,.bool b=>a==b
 |.int k a,.int x b=>k==x&&a==b
 |.str a,.str b=>a.data.toList==b.data.toList
 |.eM,.eM=>true
 |.sl 0 .fu [],.sl 0 .fu []=>true
 |.dP,.dP=>true
 |.bX,.bX=>true
 |.nilIface,.nilIface=>true
 |_,_=>false
def aaS{x y}(h:Mm x y=true):x=y:=by
 unfold Mm at h;split at h<;>simp_all;rename_i a b;cases a;cases b;simp_all[Array.ext_iff]
def FJ:U G->U G->At
 | [],[]=>true
 |x::xs,y::ys=>Mm x y&&FJ xs ys
 |_,_=>false
def agw:∀{xs ys},FJ xs ys=true->xs=ys
 | [],[],_=>rfl
 |x::xs,y::ys,h=>by
  simp only[FJ,BR]at h;rw[aaS h.1,agw h.2]
 | [],_::_,h=>by simp[FJ]at h
 |_::_,[],h=>by simp[FJ]at h
def ou(d:TypeDesc):UK->At
 |.int k=>match d with|.int x=>k==x|_=>false
 |.bool=>match d with|.bool=>true|_=>false
 |.string=>match d with|.string=>true|_=>false
 |.slice e=>match d with|.slice y=>e==y|_=>false
 |.array n e=>match d with|.array n' y=>n==n'&&e==y|_=>false
 |.struct=>match d with|.struct _=>true|_=>false
 |.map k v=>match d with|.map x z=>k==x&&v==z|_=>false
 |.iface=>match d with|.interface _=>true|_=>false
 |.pointer=>match d with|.pointer _=>true|_=>false
 |.func=>match d with|.func _ _ _=>true|_=>false
 |.HB=>match d with|.interface _=>false|_=>true
def wc(x:U Go.Field):U (Nat×Nat)->At
 | []=>x.isEmpty
 |(o,t)::r=>match x with
  |f::x=>f.offset==o&&f.type==t&&wc x r
  | []=>false
structure mI(P:Program)(t:Nat)(i:TE):Prop where
 p5:∃it,P.info? t=some it/\it.size=i.sz/\it.bytes=i.bytes/\∃z,it.zero=some z/\z.cells.toList.map iA=i.zero/\z.cells.size=i.zero.length
 jt:∃d,P.underlying t=some d/\d.isRow=i.agg/\ou d i.jt=true/\(∀fs,d= .struct fs->wc fs.toList i.za=true/\(fs.toList.mapM (λf=>(P.info? f.type).map λi=>(f.offset,i.size))).isSome=true)
 Vx:∃it,P.info? t=some it/\it.comparable=i.Vx
 JG:i.agg=false->∃it z,P.info? t=some it/\it.zero=some z/\z.oneCell'=true/\z.cells.toList.map iA=i.zero
 aaF:i.agg=true->∃it z,P.info? t=some it/\it.zero=some z/\sK z= .agg i.zero
def isAgg:Value->At
 |.agg _=>true
 |_=>false
def Mx(P:Program)(t:Nat)(i:TE):At:=
 match P.info? t,P.underlying t with
 |some x,some d=>x.comparable==i.Vx&&(x.size==i.sz&&x.bytes==i.bytes&&d.isRow==i.agg&&ou d i.jt&&(match d with|.struct y=>wc y.toList i.za&&(y.toList.mapM (λf=>(P.info? f.type).map λi=>(f.offset,i.size))).isSome|_=>true)&&
  (match x.zero with|some z=>FJ (z.cells.toList.map iA) i.zero&&(cond i.agg (isAgg z) z.oneCell')|none=>false))
 |_,_=>false
def aaR{t i}(h:Mx P t i=true):mI P t i:=by
 unfold Mx at h;split at h
 .rename_i x d y hd;simp only[BR,HV]at h;obtain⟨c,⟨⟨⟨⟨⟨f,g⟩,j⟩,k⟩,l⟩,h6⟩⟩:=h;split at h6
  .rename_i z a;simp only[BR]at h6;have this:=agw h6.1;refine⟨⟨x,y,f,g,⟨z,a,this,by rw[<-this];simp⟩⟩,⟨d,hd,j,k,?_⟩,⟨x,y,c⟩,λb=>⟨x,z,y,a,?_,this⟩,λb=>⟨x,z,y,a,?_⟩⟩
   .intro m e;subst e;simpa using l
   .have h:=h6.2;rw[b]at h;exact h
   .have h:=h6.2;rw[b]at h;cases z<;>simp only[isAgg,G1,anz]at h;rw[<-this];rfl
  .simp at h6
 .simp at h
def Tr.Ha(P:Program):Tr->Nat->Nat->At
 |.lf,_,_=>true
 |.nd v l r,m,a=>(match v with|some i=>Mx P a i|none=>true)&&l.Ha P (2*m) (a+m)&&r.Ha P (2*m) (a+2*m)
def Tr.ok:∀(tr:Tr)m a,tr.Ha P m a=true->∀n i,tr.find n=some i->mI P (a+m*n) i
 |.lf,m,a,h,n,i,e=>by simp[Tr.find]at e
 |.nd v l r,m,a,h,n,i,e=>by
  simp only[Tr.Ha,BR]at h;simp only[Tr.find]at e;cases y:Nat.beq n 0 with
  |true=>
   rw[y]at e;have:n=0:=FU y;subst this;simp only[G1]at e;subst e;simpa using aaR h.1.1
  |false=>
   rw[y]at e;have b:n≠0:=λh=>by subst h;simp at y
   simp only[FM]at e;cases x:Nat.beq (n % 2) 1 with
   |true=>
    rw[x]at e;have z:n % 2=1:=FU x;have:=Tr.ok l _ _ h.1.2 _ i e;have e3:a+m+2*m*(n / 2)=a+m*n:=by
     have:n=2*(n / 2)+1:=by omega
     conv=>rhs;rw[this]
     rw[Nat.mul_add,<-Nat.mul_assoc,Nat.mul_comm 2 m];omega
    rw[e3]at this;exact this
   |false=>
    rw[x]at e;have z:n % 2=0:=by
     have:¬n % 2=1:=λh=>by rw[h]at x;simp at x
     omega
    have:=Tr.ok r _ _ h.2 _ i e;have e3:a+2*m+2*m*(n / 2-1)=a+m*n:=by
     have:n=2*(n / 2-1)+2:=by omega
     conv=>rhs;rw[this]
     rw[Nat.mul_add,<-Nat.mul_assoc,Nat.mul_comm 2 m];omega
    rw[e3]at this;exact this
def ow(P:Program)(x:Nat->T TE):Prop:=∀t i,x t=some i->mI P t i
def Tr.tt{tr:Tr}(h:tr.Ha P 1 0=true):ow P tr.find:=λt i e=>by
 have:=Tr.ok tr 1 0 h t i e
 grind
section
variable {t:Nat}{i:TE}(h:mI P t i)
include h
theorem mI.size:du P t=some i.sz:=by
 grind [h.p5,du]
theorem mI.Vy:gV P t=some i.agg:=by
 grind [h.jt,gV]
def mI.zc:jK P t=some i.zero:=by
 grind [h.p5,jK]
def mI.field{f off:Nat}{y:Nat}(hu:i.jt= .struct)(b:fy i.za f=some (off,y)):kN P t f=some (off,y):=by
 obtain⟨d,c,_,a,e⟩:=h.jt;rw[hu]at a;obtain⟨fs,rfl⟩:∃fs,d= .struct fs:=by cases d<;>simp[ou]at a;exact⟨_,rfl⟩
 simp only[kN,c];have g:=(e fs rfl).1;rw[<-anK];have key:∀(l:U (Nat×Nat))(fs:U Go.Field)(f:Nat),wc fs l=true->fy l f=some (off,y)->(fs[f]?).map (λx=>(x.offset,x.type))=some (off,y):=by
  intro l
  induction l with
  |nil=>intro fs f _ h;simp[fy]at h
  |cons p l j=>
   intro fs f h z;obtain⟨o,ty⟩:=p;cases fs with
   |nil=>simp[wc]at h
   |cons x fs=>
    simp only[wc,BR,HV]at h;cases f with
    |zero=>simp[fy]at z;simp[h.1.1,h.1.2,z]
    |succ f=>simpa using j fs f h.2 (by simpa[fy]using z)
 exact key _ _ _ g b
def mI.slice{e:Nat}(hu:i.jt= .slice e):P.underlying t=some (.slice e):=by
 obtain⟨d,y,_,x,_⟩:=h.jt;rw[hu]at x;cases d<;>simp[ou]at x
 grind
def mI.int{k:IntKind}(hu:i.jt= .int k):P.underlying t=some (.int k):=by
 obtain⟨d,y,_,x,_⟩:=h.jt;rw[hu]at x;cases d<;>simp[ou]at x
 grind
def mI.bool(hu:i.jt= .bool):P.underlying t=some .bool:=by
 grind [h.jt,ou]
def mI.string(hu:i.jt= .string):P.underlying t=some .string:=by
 grind [h.jt,ou]
def mI.iface(hu:i.jt= .iface):∃ms,P.underlying t=some (.interface ms):=by
 obtain⟨d,y,_,x,_⟩:=h.jt;rw[hu]at x;cases d<;>simp[ou]at x
 grind
def mI.pointer(hu:i.jt= .pointer):∃e,P.underlying t=some (.pointer e):=by
 obtain⟨d,y,_,x,_⟩:=h.jt;rw[hu]at x;cases d<;>simp[ou]at x
 grind
def mI.func(hu:i.jt= .func):∃y rs vr,P.underlying t=some (.func y rs vr):=by
 obtain⟨d,z,_,x,_⟩:=h.jt;rw[hu]at x;cases d<;>simp[ou]at x
 grind
def mI.map{k v:Nat}(hu:i.jt= .map k v):P.underlying t=some (.map k v):=by
 obtain⟨d,y,_,x,_⟩:=h.jt;rw[hu]at x;cases d<;>simp[ou]at x
 grind
def mI.array{n e:Nat}(hu:i.jt= .array n e):P.underlying t=some (.array n e):=by
 grind [h.jt,ou]
end
end
end Go.Ab

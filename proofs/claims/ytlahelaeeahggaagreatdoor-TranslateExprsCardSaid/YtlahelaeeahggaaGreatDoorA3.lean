/- The logic of the walk. -/
import Derived.Test.YtlahelaeeahggaaGreatDoorA2
set_option linter.all false
open Go Go.RowKit
namespace Go.Ab
section
variable {P:Program}{ge:GE}{F:Nm->Prop}{d N:Nat}{tm:Tm}{hp:Hp}{K:AV->Hp->Prop}{o:Oper}
theorem dx.mono{f:FuncId}{args:amx AV}{R R':AV->Hp->Prop}(h:dx P ge d f args hp R)(hr:∀x hp,R x hp->R' x hp):dx P ge d f args hp R':=λg fr w vs fi r k v=>(h g fr w vs fi r k v).mono λ_ _⟨u,g',x,hp',e,h1,h2,h3,h4⟩=>⟨u,g',x,hp',e,h1,h2,h3,hr _ _ h4⟩
def dx.sub{f:FuncId}{args acu:amx AV}{R:AV->Hp->Prop}(h:dx P ge d f acu hp R)(hs:bC args acu):dx P ge d f args hp R:=λg fr w vs fi r k v=>h g fr w vs fi r k (VL.sub hs _ v)
def bL(P:Program)(f:FuncId):amz:=match P.funcs[f]? with
 |some fn=>fn.body.isSome&& !(fn.name== "runtime.NumGoroutine")
 |none=>false
theorem qy{f:FuncId}(h:bL P f=true)(args:Array Value)(w:World):(callFunc f args).run P w= .ok (.enter f args) w:=by
 unfold bL at h;split at h
 ·rename_i fn hf;simp only[amC,anT,anl]at h;have hb':fn.body≠none:=by intro e;simp[e]at h
  simp[callFunc,program,Sem.run,hf,h.2,hb']
 ·simp at h
mutual
theorem AV.cq {S T:Nm->Prop} (h:∀j,S j->T j):(x:AV)->x.under S->x.under T
 |.bool _,_=>trivial
 |.int _ _,_=>trivial
 |.an _,_=>trivial
 |.dY,_=>trivial
 |.ptr j off,e=>by simp only[AV.under]at e |-;exact h j e
 |.aQ cs off,e=>by simp only[AV.under]at e |-;exact AV.cV h cs e
 |.sl sz tok xs,e=>by
  simp only[AV.under]at e |-;refine⟨?_,AV.cV h xs e.2⟩;cases tok<;>simp only[iA.under]at e |-
  grind
 |.ms j _ _,e=>by simp only[AV.under]at e |-;exact h j e
 |.sub j _ _ _ _,e=>by simp only[AV.under]at e |-;exact h j e
 |.dq,_=>trivial
 |.map j,e=>by simp only[AV.under]at e |-;exact h j e
 |.fn f a b,e=>by simp only[AV.under]at e |-;exact⟨AV.cV h a e.1,AV.cV h b e.2⟩
 |.cy,_=>trivial
 |.iface t v,e=>by simp only[AV.under]at e |-;exact AV.cq h v e
 |.nilIface,_=>trivial
 |.agg cs,e=>by simp only[AV.under]at e |-;exact AV.cV h cs e
 |.bR cs,e=>by simp only[AV.under]at e |-;exact AV.cV h cs e
 |.any,_=>trivial
theorem AV.cV {S T:Nm->Prop} (h:∀j,S j->T j):(xs:amx AV)->AV.bP S xs->AV.bP T xs
 | [],_=>trivial
 |x::xs,e=>by simp only[AV.bP]at e |-;exact⟨AV.cq h x e.1,AV.cV h xs e.2⟩
end
def bk.cq{S T:Nm->Prop}(h:∀j,S j->T j){o:bk}(e:o.under S):o.under T:=by
 cases o with
 |cells cs=>exact AV.cV h cs e
 |map es=>exact λx hx=>⟨AV.cq h _ (e x hx).1,AV.cq h _ (e x hx).2⟩
 |tail=>trivial
 |ot=>trivial
 |sJ i=>exact h i e
 |br=>exact AV.cV h _ e
def lS(P:Program)(tm:Tm)(hp:Hp):ResultVar->amy AV
 |.tmp t=>some (get tm t)
 |.cell a t=>eQ P hp t (get tm a)
def fQ(P:Program)(tm:Tm)(hp:Hp):amx ResultVar->amy (amx AV)
 | []=>some []
 |x::xs=>(lS P tm hp x).bind λy=>(fQ P tm hp xs).map (y:: ·)
def kn(P:Program)(tm:Tm)(hp:Hp)(rs:amx ResultVar):amy AV:=
 (fQ P tm hp rs).map λl=>match l with
  | [x]=>x
  |l=>.bR l
def BT{g:G}{w:World}(r:de g w hp){t:TypeId}{x y:AV}{v:Value}(hv:V g x v)(hx:eQ P hp t x=some y):
 ∃a u,v= .pointer (some a)/\(loadVar t a).run P w= .ok u w/\V g y u:=by
 unfold eQ at hx;split at hx
 ·simp only[V]at hv;split at hx
  ·rename_i cs hj;cases ha:fM P t with
   |none=>simp[ha]at hx
   |some ag=>
    cases hn:cQ P t with
    |none=>simp[ha,hn]at hx
    |some n=>
     simp[ha,hn]at hx;obtain⟨u,h1,h2⟩:=r.sS ha hn hj hx;exact⟨_,u,hv.2,h1,h2⟩
  ·simp at hx
 ·cases ha:fM P t with
  |none=>simp[ha]at hx
  |some ag=>
   cases hn:cQ P t with
   |none=>simp[ha,hn]at hx
   |some n=>
    simp[ha,hn]at hx;obtain⟨q,u,h0,h1,h2⟩:=r.ne ha hn hv hx (by simp);exact⟨q,u,h0,h1,h2⟩
 ·simp at hx
def qz(tmps:Array Value):ResultVar->Sem Value
 |.tmp t=>Pure.pure (tmps.getD t undef)
 |.cell a t=>do loadVar t (<-asAddr (tmps.getD a undef))
def vU{g:G}{w:World}{tmps:Array Value}(r:de g w hp)(v:VT g N tm tmps):(rs:amx ResultVar)->{l:amx AV}->fQ P tm hp rs=some l->
 ∃vs,(rs.mapM (qz tmps)).run P w=Result.ok vs w/\VL g l vs
 | [],l,h=>by simp[fQ]at h;subst h;exact⟨[],by simp,by simp[VL]⟩
 |x::xs,l,h=>by
  simp only[fQ]at h;cases hx:lS P tm hp x with
  |none=>simp[hx]at h
  |some y=>
   cases hxs:fQ P tm hp xs with
   |none=>simp[hx,hxs]at h
   |some ys=>
    simp[hx,hxs]at h;subst h;obtain⟨vs,h1,h2⟩:=vU r v xs hxs;cases x with
    |tmp t=>
     simp[lS]at hx;subst hx;refine⟨tmps.getD t undef::vs,?_,by simp only[VL];exact⟨_,_,rfl,v.get t,h2⟩⟩;rw[List.mapM_cons,amM];simp only[qz,am2,amN,amM,h1]
    |cell a t=>
     simp only[lS]at hx;obtain⟨ad,u,e,k1,k2⟩:=BT r (v.get a) hx;refine⟨u::vs,?_,by simp only[VL];exact⟨_,_,rfl,k2,h2⟩⟩;rw[List.mapM_cons,amM];simp only[qz,e,asAddr,amM,am2,amN,k1,h1]
def s6{g:G}{w:World}{tmps:Array Value}(r:de g w hp)(v:VT g N tm tmps){fn:Func}{x:AV}(h:kn P tm hp fn.results.toList=some x):
 ∃u,(results fn tmps).run P w= .ok u w/\V g x u:=by
 unfold kn at h;cases hl:fQ P tm hp fn.results.toList with
 |none=>simp[hl]at h
 |some l=>
  simp only[hl,ang,amT]at h;obtain⟨vs,h1,h2⟩:=vU (P:=P) r v _ hl;have hlen:=VL.length _ _ h2;refine⟨if h:vs.toArray.size=1 then vs.toArray[0]else .tuple vs.toArray,?_,?_⟩
  ·have e:results fn tmps=(do let vs<-fn.results.mapM (qz tmps);Pure.pure (if h:vs.size=1 then vs[0]else .tuple vs)):=by
    unfold results;congr 1
   rw[e,amM,Array.mapM_eq_mapM_toList];simp only[Sem.run_map,h1];rfl
  ·subst h
   match l,h2,hlen with
   | [],h2,hlen=>
    have:¬vs.toArray.size=1:=by simp at hlen;simp[hlen]
    rw[dif_neg this];simp only[V];exact⟨_,rfl,by simpa using h2⟩
   | [y],h2,hlen=>
    simp only[VL]at h2;obtain⟨v',rest,rfl,h3,h4⟩:=h2;subst h4;simpa using h3
   |a::b::l,h2,hlen=>
    have:¬vs.toArray.size=1:=by simp at hlen;simp[hlen]
    rw[dif_neg this];simp only[V];exact⟨_,rfl,by simpa using h2⟩
def uH{hp hq:Hp}(h:At hp hq){r:ResultVar}{y:AV}(hx:lS P tm hp r=some y):lS P tm hq r=some y:=by
 cases r with
 |tmp t=>exact hx
 |cell a t=>exact km h hx
def ng{hp hq:Hp}(h:At hp hq):(rs:amx ResultVar)->{l:amx AV}->fQ P tm hp rs=some l->fQ P tm hq rs=some l
 | [],l,e=>e
 |r::rs,l,e=>by
  simp only[fQ]at e |-;cases hx:lS P tm hp r with
  |none=>simp[hx]at e
  |some y=>
   cases hxs:fQ P tm hp rs with
   |none=>simp[hx,hxs]at e
   |some ys=>rw[uH h hx,ng h rs hxs];simpa[hx,hxs]using e
def s7{hp hq:Hp}(h:At hp hq){rs:amx ResultVar}{y:AV}(hx:kn P tm hp rs=some y):kn P tm hq rs=some y:=by
 unfold kn at hx |-;cases hl:fQ P tm hp rs with
 |none=>simp[hl]at hx
 |some l=>rw[ng h rs hl];simpa[hl]using hx
def Ow(P:Program)(fn:Func)(hp0:Hp)(R:AV->Hp->Prop):ff:=λe tm hp=>
 (e= .normal\/e= .ret)/\∃x0 x,kn P tm hp fn.results.toList=some x0/\Sub x0 x/\∃hk:Hp,At hk hp/\(∀j,(hp0 j).isSome=true->(hk j).isSome=true)/\
  x.under (λj=>(hk j).isSome=true)/\(∀j o,hk j=some o->hp0 j=some o\/o.under (λj=>(hk j).isSome=true))/\R x hk
def nh(k:Nat):amx AV->Tm
 | []=>[]
 |x::xs=>(k,x)::nh (k+1) xs
def pS{g:G}:(xs:amx AV)->(vs:amx Value)->VL g xs vs->(k t:Nat)->(rest:amx Value)->V g (get (nh k xs) t) ((rest++vs).getD t undef)\/rest.length≠k
 | [],vs,h,k,t,rest=>by left;simp only[nh,get,V]
 |x::xs,vs,h,k,t,rest=>by
  simp only[VL]at h;obtain⟨v,vs,rfl,h1,h2⟩:=h;by_cases hk:rest.length=k
  ·left;simp only[nh,eV];split
   ·rename_i e;subst e;subst hk;simpa using h1
   ·rcases pS xs vs h2 (k+1) t (rest++[v])with h|h
    ·simpa using h
    ·simp at h;omega
  ·right;exact hk
def Hp.out(hp:Hp)(d:Nat):Prop:=∀j,(hp j).isSome=true->j.1<d
def dx.enter{f:FuncId}{fn:Func}{c:Code}{args:amx AV}{R:AV->Hp->Prop}(hd:Hp.out hp d)(hf:P.funcs[f]?=some fn)(hb:fn.body=some c)(hn:args.length<=fn.ntmps)
 (h:bB P ge d fn.ntmps c (Ow P fn hp R) (nh 0 args) hp):dx P ge d f args hp R:=by
 intro g fr w vs fi r k v;have hlen:=VL.length _ _ v;simp only[anJ]at hlen;refine calls_of_wp hf hb ?_;have vt:VT g fn.ntmps (nh 0 args) (vs++Array.replicate (fn.ntmps - vs.size) undef):=by
  refine⟨by simp;omega,λt=>?_⟩;rcases pS args vs.toList v 0 t []with h|h
  ·have e:(vs++Array.replicate (fn.ntmps - vs.size) undef).getD t undef=vs.toList.getD t undef:=by
    rw[am1,Array.getElem?_append];split
    ·simp
    ·rename_i hge;rw[aoV];have h1:vs.toList[t]?=none:=by simp;omega
     rw[anM,h1];split<;>rfl
   rw[e];simpa using h
  ·simp at h
 have ef:uC d fr:=⟨fi,λj o hj=>by
  have hj2:bz hp fr j=some o:=by
   rcases r.cw j with e|e
   ·rw[bD e];exact hj
   ·rw[e]at hj;simp at hj
  refine bk.cq (λi hi=>?_) (r.rel.eP j o hj2).under;have:=(r.rel.dc i).1 hi;cases e:hp i with
  |some p=>exact hd i (by simp[e])
  |none=>rw[bD e]at this;exact fi i this⟩
 refine anS (h g fr w ⟨vs++Array.replicate (fn.ntmps - vs.size) undef,[]⟩ ef r k vt rfl) λe a' w'⟨g',tm',hp',l,r',v',d',hq⟩=>?_
 obtain⟨he,x0,x,hx,hs,hk,hm1,hm2,hu,ho,hR⟩:=hq;obtain⟨u,acO,hxu⟩:=s6 (P:=P) (hp:=bz hp' fr) r'.rel v' (s7 (λj o hj=>aH hj) hx);have hxu:=V.sub hs _ hxu;have hdk:fe hk fr:=λj=>by
  cases e:hk j with
  |none=>exact .inl rfl
  |some o=>exact .inr (r'.cw.none (hm1 j o e))
 have acN:∀j,g.dc j->(bz hk fr j).isSome=true:=by
  intro j hj;have:=(r.rel.dc j).1 hj;cases e:hp j with
  |some o=>have:=hm2 j (by simp[e]);cases e2:hk j with
   |none=>simp[e2]at this
   |some p=>simp[bz,e2]
  |none=>
   rw[bD e]at this;cases e2:hk j with
   |none=>rw[bD e2];exact this
   |some p=>simp[bz,e2]
 have dW:∀j,(hk j).isSome=true->(bz hk fr j).isSome=true:=by
  intro j hj;cases e:hk j with
  |none=>simp[e]at hj
  |some p=>simp[bz,e]
 have aef:∀j o,bz hk fr j=some o->o.under (λj=>(bz hk fr j).isSome=true):=by
  intro j o hjo;cases e:hk j with
  |some p=>
   rw[aH e]at hjo;simp at hjo;subst hjo;rcases ho j p e with h|h
   ·exact bk.cq acN (r.rel.eP j p (aH h)).under
   ·exact bk.cq dW h
  |none=>
   rw[bD e]at hjo;have hj2:bz hp fr j=some o:=by
    cases e2:hp j with
    |none=>rw[bD e2];exact hjo
    |some p=>have:=hm2 j (by simp[e2]);simp[e]at this
   exact bk.cq acN (r.rel.eP j o hj2).under
 have hle:G.Le g g':=l.all λj hj=>by
  have:=(r.rel.dc j).1 hj;cases e:hp j with
  |some o=>exact hd j (by simp[e])
  |none=>rw[bD e]at this;exact fi j this
 have ef:a'.defers=[]/\∃v,(results fn a'.tmps).run P w'= .ok v w'/\∃v_1 g' x hp',Ending.returned v= .returned v_1/\G.Le g g'/\eW g' w' hp' fr/\V g' x v_1/\R x hp':=
  ⟨d',u,acO,u,g'.cut (λi=>(bz hk fr i).isSome=true),x,hk,rfl,hle.cut acN,⟨r'.rel.cut (At.bz fr hm1 r'.cw) aef,hdk⟩,V.cut _ _ hxu (AV.cq dW _ hu),hR⟩
 rcases he with rfl|rfl
 ·exact ef
 ·exact ef
def dx.frame{f:FuncId}{args:amx AV}{hq:Hp}{R:AV->Hp->Prop}(h:dx P ge d f args hp R)(ho:Hp.out hq d)(hd:fe hp hq):
 dx P ge d f args (bz hp hq) (λx h'=>∃h1,h'=bz h1 hq/\fe h1 hq/\R x h1):=by
 intro g fr w vs fi r k v;have hdf:fe hp (bz hq fr):=λj=>by
  rcases hd j with e|e
  ·exact .inl e
  ·cases e2:hp j with
   |none=>exact .inl rfl
   |some o=>exact .inr (bX e (r.cw.none (aH (b:=hq) e2)))
 refine(h g (bz hq fr) w vs (λj hj=>?_) ⟨by rw[<-jE];exact r.rel,hdf⟩ k v).mono λe w'⟨u,g',x,hp',e1,k1,k2,k3,k4⟩=>?_
 ·cases e:hq j with
  |some o=>exact ho j (by simp[e])
  |none=>rw[bD e]at hj;exact fi j hj
 ·refine⟨u,g',x,bz hp' hq,e1,k1,⟨by rw[jE];exact k2.rel,λj=>?_⟩,k3,hp',rfl,λj=>?_,k4⟩
  ·cases e:fr j with
   |none=>exact .inr rfl
   |some o=>
    left;refine bX ?_ ?_
    ·rcases k2.cw j with h'|h'
     ·exact h'
     ·cases e2:hq j with
      |some p=>rw[aH e2]at h';simp at h'
      |none=>rw[bD e2,e]at h';simp at h'
    ·rcases r.cw j with h'|h'
     ·cases e2:hq j with
      |none=>rfl
      |some p=>
       rcases hd j with h3|h3
       ·rw[bD h3,e2]at h';simp at h'
       ·rw[e2]at h3;simp at h3
     ·rw[e]at h';simp at h'
  ·rcases k2.cw j with h'|h'
   ·exact .inl h'
   ·cases e2:hq j with
    |none=>exact .inr rfl
    |some p=>rw[aH e2]at h';simp at h'
def Hp.empty:Hp:=λ_=>none
def dP(h:Hp):bz Hp.empty h=h:=by funext j;simp[bz,Hp.empty]
def dx.TU{f:FuncId}{args:amx AV}{R:AV->Prop}(h:dx P ge d f args Hp.empty (λx h'=>h'=Hp.empty/\R x))(ho:Hp.out hp d):
 dx P ge d f args hp (λx h'=>h'=hp/\R x):=by
 have:=(h.frame (hq:=hp) ho (λ_=>.inl rfl));rw[dP]at this;exact this.mono λx h'⟨h1,e1,_,e2,e3⟩=>⟨by rw[e1,e2,dP],e3⟩
end
end Go.Ab

/- The logic of the walk. -/
import Derived.Test.YtlahelaeeahggaaGreatDoorA9
set_option linter.all false
open Go Go.RowKit
namespace Go.Ab
section
variable {P:Program}{ge:GE}{N b:Nat}{tm:Tm}{l:HL}{ti:Nat->amy TE}{α σ ρ τ:Type}
def ON(emb:α->Tm)(lo:α->HL)(x:α⊕ρ)(K:KC):KC:=λe tm l=>match e with
 |.normal=>∃v,x= .inl v/\jC tm l (emb v) (lo v)
 |e=>∃r,x= .inr r/\K e tm l
def bB.jn(E:tB P ti){c:Code}{K:KC}(emb:α->Tm)(lo:α->HL)[u:∀a,UT (emb a) (lo a)]{x:α⊕ρ}(h:SC P ge ti N c (ON emb lo x K) tm l)
 (k:∀v,x= .inl v->K .normal (emb v) (lo v)):bB P ge 1 N c (LC K) tm (aM l):=
 bB.close (SC.bN E c h) λe tm hp⟨l,e1,q⟩=>by
  subst e1;cases e with
  |normal=>obtain⟨v,hv,hk⟩:=q;exact⟨_,_,hk.wk,_,rfl,k v hv⟩
  |_=>obtain⟨r,_,q⟩:=q;exact⟨tm,_,Wk.refl _ _ _ _,l,rfl,q⟩
def p7:amx Oper->Nat->(amx Oper->Prop)->Prop
 |r,0,K=>K r
 | [],_+1,K=>K []
 |_::r,n+1,K=>p7 r n K
def oQ:(r:amx Oper)->(n:Nat)->{K:amx Oper->Prop}->p7 r n K->K (r.drop n)
 | [],0,_,h=>h
 |_::_,0,_,h=>h
 | [],_+1,_,h=>h
 |_::r,n+1,_,h=>oQ r n h
def mT.wk{ops:Array Oper}{Q:ff}{r:amx Oper}{tm':Tm}{hp hp':Hp}(k:Wk 1 N tm hp tm' hp')(h:mT P ge N ops Q r tm' hp'):mT P ge N ops Q r tm hp:=
 λg g0 fr w a f l r kk v dd=>by
  obtain⟨g',h1,h2,h3⟩:=k g fr w a.tmps f r v;exact h g' g0 fr w a f (l.trans h1) h2 (kk.ou h1) h3 dd
def mT.jn(E:tB P ti){gs:amx Nat}{ops:Array Oper}{K0:Tm->HL->Prop}{r:amx Oper}(n:Nat)(emb:α->Tm)(lo:α->HL)[u:∀a,UT (emb a) (lo a)]{x:α}
 (h:pv P ge ti N gs ops.toList (λtm l=>jC tm l (emb x) (lo x)) K0 r n tm l) (k:p7 r n λr=>SR P ge ti N gs ops.toList K0 r (emb x) (lo x)):mT P ge N ops (LK K0) r tm (aM l):=
 pv.bN E.tt r n (λ_ _ hk=>mT.wk hk.wk (SR.bN E.tt (oQ r n k))) h
def mT.jb(E:tB P ti){gs:amx Nat}{ops:Array Oper}{K0:Tm->HL->Prop}{r:amx Oper}{t:Nat}{c:amz}(n:Nat)(emb:α->Tm)(lo:α->HL)[u:∀a,UT (emb a) (lo a)](x:α)
 (h1:c=true->pv P ge ti N gs ops.toList (λtm l=>jC tm l (emb x) (lo x)) K0 r n ((t,.bool true)::tm) l) (h2:c=false->pv P ge ti N gs ops.toList (λtm l=>jC tm l (emb x) (lo x)) K0 r n ((t,.bool false)::tm) l)
 (k:p7 r n λr=>SR P ge ti N gs ops.toList K0 r (emb x) (lo x)):Ke P ge ti N gs ops (LK K0) r ((t,.bool c)::tm) (aM l):=
 mT.jn E n emb lo (x:=x) (by cases c with|true=>exact h1 rfl|false=>exact h2 rfl) k
def nF(id:Nat)(emb:σ->Tm)(lo:σ->HL)(acq:α->Tm)(lA:α->HL)(x:α⊕ρ)(y:σ⊕(α⊕ρ))(K:KC):KC:=λe tm l=>match e with
 |.normal=>∃s,y= .inl s/\jC tm l (emb s) (lo s)
 |.exit i=>cond (Nat.beq i id) (∃v,y= .inr (.inl v)/\jC tm l (acq v) (lA v)) (∃r,y= .inr (.inr r)/\(x= .inr r->K (.exit i) tm l))
 |e=>∃r,y= .inr (.inr r)/\(x= .inr r->K e tm l)
def uX{id:Nat}{emb:σ->Tm}{lo:σ->HL}{acq:α->Tm}{lA:α->HL}[UT':∀a,UT (acq a) (lA a)]{x:α⊕ρ}{y:σ⊕(α⊕ρ)}{K:KC}{e:Exit}(hne:e≠ .normal)(q:nF id emb lo acq lA x y K e tm l)(hx:∀q,y= .inr q->q=x)
 (after:∀v,x= .inl v->K .normal (acq v) (lA v)):∃tm' hp',Wk 1 N tm (aM l) tm' hp'/\iC id (LC K) e tm' hp':=by
 cases e with
 |normal=>exact absurd rfl hne
 |exit i=>
  simp only[nF]at q;cases hb:Nat.beq i id with
  |true=>
   rw[hb]at q;obtain⟨v,e1,hk⟩:=q;refine⟨_,_,hk.wk,?_⟩;simp only[iC];rw[amH (amK hb)];exact⟨_,rfl,after v (hx _ e1).symm⟩
  |false=>
   rw[hb]at q;obtain⟨r,e1,q⟩:=q;refine⟨_,_,Wk.refl _ _ _ _,?_⟩;simp only[iC];rw[amL (λe=>by subst e;simp at hb)];exact⟨l,rfl,q (hx _ e1).symm⟩
 |_=>
  obtain⟨r,e1,q⟩:=q;exact⟨_,_,Wk.refl _ _ _ _,l,rfl,q (hx _ e1).symm⟩
def bB.lp(E:tB P ti){id:Nat}{c:Code}{K:KC}(emb:σ->Tm)(lo:σ->HL)(acq:α->Tm)(lA:α->HL)[u:∀s,UT (emb s) (lo s)][uA:∀a,UT (acq a) (lA a)]
 {step:σ->amy (σ⊕(α⊕ρ))} {n:Nat} {s:σ} {x:α⊕ρ} (h:aP step n s=some x) (hs:jC tm l (emb s) (lo s))
 (round:∀s y,step s=some y->SC P ge ti N c (nF id emb lo acq lA x y K) (emb s) (lo s))
 (after:∀v,x= .inl v->K .normal (acq v) (lA v)):bB P ge 1 N (.block id (.loop c)) (LC K) tm (aM l):=by
 refine bB.wk hs.wk (bB.block (bB.loop (λm tm hp=>∃s,tm=emb s/\hp=aM (lo s)/\aP step m s=some x) n ⟨s,rfl,rfl,h⟩ ?_));rintro m tm hp ⟨s,rfl,rfl,h⟩;cases m with
 |zero=>simp[aP]at h
 |succ m=>
  simp only[aP]at h;cases hx:step s with
  |none=>simp[hx]at h
  |some y=>
   simp only[hx,amD]at h;refine bB.close (SC.bN E c (round s y hx)) λe tm hp⟨l,e1,q⟩=>?_
   subst e1;by_cases hne:e= .normal
   ·subst hne;obtain⟨s',rfl,hk⟩:=q;exact⟨_,_,hk.wk,m,Nat.lt_succ_self _,s',rfl,rfl,h⟩
   ·obtain⟨tm',hp',h1,h2⟩:=uX (N:=N) hne q (λq e=>by subst e;exact am5 h) after;refine⟨tm',hp',h1,?_⟩;cases e<;>first|exact h2|exact absurd rfl hne
def bg(f:Nat->τ->σ->amy (σ⊕(α⊕ρ)))(p:σ->α):Nat->amx τ->σ->amy (α⊕ρ)
 |_,[],s=>some (.inl (p s))
 |i,x::xs,s=>(f i x s).bind λ
  |.inl s=>bg f p (i+1) xs s
  |.inr q=>some q
def pw(id:Nat)(acq:α->Tm)(lA:α->HL)(v:α):KC:=λe tm l=>match e with
 |.exit i=>match Nat.beq i id with
  |true=>jC tm l (acq v) (lA v)
  |false=>False
 |_=>False
def VT.np{g:G}{tmps:Array Value}{t sz:Nat}{tok:iA}{L:amx AV}(v:VT g N tm tmps)(h:Ab.get tm t= .sl sz tok L):L.length<=4611686018427387904:=by
 have:=v.2 t;rw[h]at this;simp only[V]at this
 grind
def bB.np{d t sz:Nat}{tok:iA}{L:amx AV}{c:Code}{Q:ff}{hp:Hp}(h:get tm t= .sl sz tok L)(k:L.length<=4611686018427387904->bB P ge d N c Q tm hp):bB P ge d N c Q tm hp:=λg fr w a f r kk v dd=>k (v.np h) g fr w a f r kk v dd
theorem bB.Lf{j:Nm}{i sz:Nat}{tok:iA}{cs L:amx AV}{c:Code}{Q:ff}(h:lk l j=some (.cells cs))(hc:ey cs i=some (.sl sz tok L))(k:L.length<=4611686018427387904->bB P ge 1 N c Q tm (aM l)):bB P ge 1 N c Q tm (aM l):=
 λg fr w a f r kk v dd=>k (by
  rw[<-cz]at h;rw[dk]at hc;obtain⟨vs,_,_,o1,_⟩:=r.rel.eP j _ (aH h);obtain⟨u,_,hv⟩:=VL.get cs vs o1 i _ hc;simp only[V]at hv;obtain⟨_,_,_,h1,_⟩:=hv;exact h1.2) g fr w a f r kk v dd
def fg(tm:Tm)(l:HL)(L:amx AV):Prop:=(∃t sz tok,get tm t= .sl sz tok L)\/∃j i cs sz tok,lk l j=some (.cells cs)/\ey cs i=some (.sl sz tok L)
def bB.Cu{L:amx AV}{c:Code}{Q:ff}(h:fg tm l L)(k:L.length<=4611686018427387904->bB P ge 1 N c Q tm (aM l)):bB P ge 1 N c Q tm (aM l):=by
 rcases h with⟨t,sz,tok,h⟩|⟨j,i,cs,sz,tok,h1,h2⟩
 ·exact bB.np h k
 grind [bB.Lf]
def bB.fr(E:tB P ti){id:Nat}{c:Code}{K:KC}(emb:Nat->σ->Tm)(lo:Nat->σ->HL)(acq:α->Tm)(lA:α->HL)[u:∀i s,UT (emb i s) (lo i s)][uA:∀a,UT (acq a) (lA a)]
 {f:Nat->τ->σ->amy (σ⊕(α⊕ρ))} {p:σ->α} {xs:amx τ} {s:σ} {x:α⊕ρ} (h:bg f p 0 xs s=some x) (hs:jC tm l (emb 0 s) (lo 0 s))
 {en:τ->AV} (hx:fg (emb 0 s) (lo 0 s) (xs.map en))
 (round:∀i v s y,xs[i]?=some v->i<(xs.map en).length->i+1<=4611686018427387904->f i v s=some y->SC P ge ti N c (nF id (emb (i+1)) (lo (i+1)) acq lA x y K) (emb i s) (lo i s))
 (stop:∀s,SC P ge ti N c (pw id acq lA (p s)) (emb (xs.map en).length s) (lo (xs.map en).length s))
 (after:∀v,x= .inl v->K .normal (acq v) (lA v)):bB P ge 1 N (.block id (.loop c)) (LC K) tm (aM l):=by
 refine bB.wk hs.wk (bB.Cu hx λhb=>?_);simp only[amJ]at hb;refine bB.block (bB.loop (λm tm hp=>∃i s,i<=xs.length/\m=xs.length+1 - i/\tm=emb i s/\hp=aM (lo i s)/\bg f p i (xs.drop i) s=some x) (xs.length+1) ⟨0,s,anp _,rfl,rfl,rfl,by simpa using h⟩ ?_);rintro m tm hp ⟨i,s,hi,rfl,rfl,rfl,h⟩;by_cases hlt:i<xs.length
 ·have hv:xs[i]?=some xs[i]:=anG hlt;rw[ao2 hlt]at h;simp only[bg]at h;cases hy:f i xs[i] s with
  |none=>simp[hy]at h
  |some y=>
   simp only[hy,amD]at h;refine bB.close (SC.bN E c (round i xs[i] s y hv (by simpa using hlt) (by omega) hy)) λe tm hp⟨l,e1,q⟩=>?_
   subst e1;by_cases hne:e= .normal
   ·subst hne;obtain⟨s',rfl,hk⟩:=q;exact⟨_,_,hk.wk,xs.length+1 - (i+1),by omega,i+1,s',by omega,rfl,rfl,rfl,h⟩
   ·obtain⟨tm',hp',h1,h2⟩:=uX (N:=N) hne q (λq e=>by subst e;exact am5 h) after;refine⟨tm',hp',h1,?_⟩;cases e<;>first|exact h2|exact absurd rfl hne
 ·have hi':i=xs.length:=by omega
  subst hi';simp only[ao1,bg,amT]at h;have hst:=stop s;simp only[amJ]at hst;refine bB.close (SC.bN E c hst) λe tm hp⟨l,e1,q⟩=>?_
  subst e1;cases e with
  |exit j=>
   simp only[pw]at q;split at q
   ·rename_i hj;have:=amK hj;subst this;refine⟨_,_,q.wk,?_⟩;simp only[pQ,iC,am0];exact⟨_,rfl,after _ h.symm⟩
   ·exact q.elim
  |_=>exact q.elim
def AL(ti:Nat->amy TE)(tm:Tm)(l:HL)(K:amx AV->Prop):amx ResultVar->Prop
 | []=>K []
 |.tmp t::r=>AL ti tm l (λxs=>K (get tm t::xs)) r
 |.cell a t::r=>match get tm a with
  |.ptr j off=>match lk l j with
   |some (.cells cs)=>Kc ti t cs off λy=>AL ti tm l (λxs=>K (y::xs)) r
   |_=>False
  |_=>False
def tC:amx AV->AV
 | [x]=>x
 |xs=>.bR xs
def kH(ht:lr P ti):(r:amx ResultVar)->{K:amx AV->Prop}->AL ti tm l K r->∃xs,fQ P tm (aM l) r=some xs/\K xs
 | [],K,h=>⟨[],rfl,h⟩
 |.tmp t::r,K,h=>by
  obtain⟨xs,h1,h2⟩:=kH ht r h;exact⟨_,by simp[fQ,lS,h1],h2⟩
 |.cell a t::r,K,h=>by
  simp only[AL]at h;split at h
  ·rename_i j off ha;split at h
   ·rename_i cs hj;rw[<-cz]at hj;obtain⟨ag,n,y,k1,k2,k3,h⟩:=jj ht h;obtain⟨xs,h1,h2⟩:=kH ht r h;exact⟨_,by simp[fQ,lS,ha,eQ,hj,k1,k2,k3,h1],h2⟩
   ·exact h.elim
  ·exact h.elim
def nq(k:Nat):amx AV->(Tm->Prop)->Prop
 | [],K=>K []
 |x::xs,K=>fc x λx=>nq (k+1) xs λr=>K ((k,x)::r)
def jK:(k:Nat)->(xs:amx AV)->{K:Tm->Prop}->nq k xs K->K (nh k xs)
 |_,[],_,h=>h
 |k,x::xs,K,h=>jK (k+1) xs (fm (K:=λx=>nq (k+1) xs λr=>K ((k,x)::r)) h)
def Y2(ti:Nat->amy TE)(rs:amx ResultVar)(x1:AV)(l1:HL):KC:=λe tm l=>(e= .normal\/e= .ret)/\fS l l1/\AL ti tm (l1++l) (λxs=>Sub (tC xs) x1) rs
def df(P:Program)(ge:GE)(f:FuncId)(args:amx AV)(ro rw:HL)(x1:AV)(rv:HL):Prop:=bL P f=true/\dx P ge 1 f args (aM (ro++rw)) λx h'=>x=x1/\h'=aM (ro++rv)
def dh:(a b:HL)->aM (a++b)=bz (aM a) (aM b)
 | [],b=>by funext j;simp[aM,bz]
 |(i,o)::a,b=>by
  funext j;have:=congrFun (dh a b) j
  grind [aM,bz]
def mV(l0 l1:HL):amz:=(l0.all λp=>Nat.beq p.1.1 0&& !nk l1 p.1)
def nr{hp:Hp}{rs:amx ResultVar}{xs:amx AV}(h:fQ P tm hp rs=some xs):kn P tm hp rs=some (tC xs):=by
 simp only[kn,h,ang]
 match xs with
 | []=>rfl
 | [x]=>rfl
 |x::y::r=>rfl
def df.enter(E:tB P ti){f:FuncId}{fn:Func}{c:Code}{args:amx AV}{ro rw rv:HL}{x1:AV}(hf:P.funcs[f]?=some fn)(hb:fn.body=some c)(he:bL P f=true)(hn:Nat.ble args.length fn.ntmps=true)
 (h0:mV (ro++rw) (ro++rv)=true) [u:UT [(0,x1)] (ro++rv)] (h:jk ro rw λl0=>jk ro rv λl1=>nq 0 args λtm=>SC P ge ti fn.ntmps c (Y2 ti fn.results.toList x1 l1) tm l0):df P ge f args ro rw x1 rv:=by
 have h:=jK _ _ (dL _ (dL _ h));generalize hl1:ro++rv=l1 at*;generalize hl0:ro++rw=l0 at*;simp only[df,hl0,hl1];have acJ:∀p∈l0,p.1.1=0/\(aM l1 p.1).isSome=true:=λp hp=>by
  have:=amR.1 h0 p hp;simp only[amC]at this
  grind [Nat.eq_of_beq_eq_true,this.1,this.2,nk,cz]
 have hnm:∀j,(aM l0 j).isSome=true->j.1<1/\(aM l1 j).isSome=true:=λj hj=>by
  obtain⟨p,hp,rfl⟩:=am3.1 (cB.1 hj);obtain⟨h1,h2⟩:=acJ p hp;exact⟨by omega,h2⟩
 refine⟨he,dx.enter (λj hj=>(hnm j hj).1) hf hb (am4 hn) ?_⟩;refine bB.close (SC.bN E c h) λe tm hp⟨l,e1,q⟩=>?_
 subst e1;obtain⟨q1,q2,q3⟩:=q;obtain⟨xs,h1,h2⟩:=kH E.tt _ q3;refine⟨tm,aM (l1++l),?_,q1,tC xs,x1,nr h1,h2,aM l1,?_,λj hj=>(hnm j hj).2,u.iP (0,x1) (by simp),λj o hj=>.inr (u.AK _ (lZ hj)),rfl,rfl⟩
 ·intro g fr w tmps fi r v;have hs:HSub (aM l) (aM (l1++l)):=λj=>by
   rw[dh];simp only[bz];cases e:aM l1 j with
   |none=>cases aM l j<;>simp[iL.refl]
   |some o=>
    obtain⟨p,hp,hso⟩:=q2.spec j o e;simp only[hp];exact hso
  refine⟨g,G.kW.refl _ g,⟨r.rel.dW hs.bz,λj=>?_⟩,v⟩;rcases r.cw j with e|e
  ·left;have:=hs.isSome j;cases e2:aM (l1++l) j with
   |none=>rfl
   |some o=>rw[e,e2]at this;simp at this
  ·exact .inr e
 ·intro j o hj;rw[dh];exact aH hj
def Kh{f:FuncId}{args acu:amx AV}{x1:AV}{K:KX}(C:df P ge f args [] [] x1 [])(s:bC acu args)[ua:dM [] args][ur:UN [] x1](hd:(l.all λp=>Nat.ble p.1.1 1)=true)(k:K x1 l []):
 bL P f=true/\lK P ge b f acu (aM l) (CH b l K):=by
 refine⟨C.1,?_⟩;have C2:dx P ge 1 f args Hp.empty (λx h'=>h'=Hp.empty/\x=x1):=by
  have:=C.2
  grind [Ek,this.mono]
 have no:∀{S:Nm->Prop}{x:AV},x.under (λj=>j∈([]:amx Nm))->x.under S:=λh=>AV.cq (λj hj=>by simp at hj) _ h
 have noL:∀{S:Nm->Prop}{x:amx AV},AV.bP (λj=>j∈([]:amx Nm)) x->AV.bP S x:=λh=>AV.cV (λj hj=>by simp at hj) _ h
 have C3:=C2.up (hp:=aM l) (noL ua.out) (λx e=>by subst e;exact no ur.out) (El (by
  rw[amR]at hd |-;intro p hp;have:=am4 (hd p hp);simp;omega))
 intro g fr w vs fi r kk v;refine(C3.sub s g fr w vs (λj hj=>?_) r kk v).mono λe w'⟨u,g',x,hp',e1,k1,k2,k3,k4⟩=>⟨u,g',x,hp',e1,k1,k2,k3,?_⟩
 ·rcases fi j hj with h|h<;>simp only[lh]<;>omega
 ·obtain⟨rfl,rfl⟩:=k4;exact⟨l,[],rfl,qM.refl b l,k⟩
end
section
variable {P:Program}{ge:GE}{N b:Nat}{tm:Tm}{l:HL}{ti:Nat->amy TE}
def tD(ν:amx Nm)(σ:Nm->Nm):Prop:=∀i j,ν[i]?=some j->σ (0,i)=j
class tE(ν:List Nm)(i:Nat)(j:outParam Nm):Prop where
 out:ν[i]?=some j
instance (j:Nm)(ν:amx Nm):tE (j::ν) 0 j:=⟨rfl⟩
instance (k j:Nm)(ν:amx Nm)[h:tE ν 0 j]:tE (k::ν) 1 j:=⟨by simpa using h.out⟩
instance (k j:Nm)(ν:amx Nm)[h:tE ν 1 j]:tE (k::ν) 2 j:=⟨by simpa using h.out⟩
instance (k j:Nm)(ν:amx Nm)[h:tE ν 2 j]:tE (k::ν) 3 j:=⟨by simpa using h.out⟩
instance (k j:Nm)(ν:amx Nm)[h:tE ν 3 j]:tE (k::ν) 4 j:=⟨by simpa using h.out⟩
instance (k j:Nm)(ν:amx Nm)[h:tE ν 4 j]:tE (k::ν) 5 j:=⟨by simpa using h.out⟩
class Rn(ν:List Nm)(x:AV)(y:outParam AV):Prop where
 out:∀σ,tD ν σ->x.aX σ=y
class sK(ν:List Nm)(x:List AV)(y:outParam (List AV)):Prop where
 out:∀σ,tD ν σ->AV.eE σ x=y
class N2(ν:List Nm)(x:bk)(y:outParam bk):Prop where
 out:∀σ,tD ν σ->x.aX σ=y
class BK(ν:List Nm)(x:HL)(y:outParam HL):Prop where
 out:∀σ,tD ν σ->x.map (λp=>(σ p.1,p.2.aX σ))=y
variable {ν:amx Nm}
def cW{x:AV}(h:x.under (λj=>j∈([]:amx Nm))):x.under mN:=AV.cq (λj hj=>by simp at hj) _ h
instance (x:AV)[h:UN [] x]:Rn ν x x:=⟨λ_ _=>AV.kw (cW h.out)⟩
instance (i n:Nat)(j:Nm)[h:tE ν i j]:Rn ν (.ptr (0,i) n) (.ptr j n):=⟨λσ hs=>by simp only[AV.aX];rw[hs i j h.out]⟩
instance (i n a:Nat)(j:Nm)[h:tE ν i j]:Rn ν (.ms (0,i) a n) (.ms j a n):=⟨λσ hs=>by simp only[AV.aX];rw[hs i j h.out]⟩
instance (i:Nat)(j:Nm)[h:tE ν i j]:Rn ν (.map (0,i)) (.map j):=⟨λσ hs=>by simp only[AV.aX];rw[hs i j h.out]⟩
instance (f:Fn)(a c a' c':amx AV)[h:sK ν a a'][k:sK ν c c']:Rn ν (.fn f a c) (.fn f a' c'):=⟨λσ hs=>by simp only[AV.aX];rw[h.out σ hs,k.out σ hs]⟩
instance (a a':amx AV)[h:sK ν a a']:Rn ν (.agg a) (.agg a'):=⟨λσ hs=>by simp only[AV.aX];rw[h.out σ hs]⟩
instance (a a':amx AV)[h:sK ν a a']:Rn ν (.bR a) (.bR a'):=⟨λσ hs=>by simp only[AV.aX];rw[h.out σ hs]⟩
instance (a a':amx AV)(n:Nat)[h:sK ν a a']:Rn ν (.aQ a n) (.aQ a' n):=⟨λσ hs=>by simp only[AV.aX];rw[h.out σ hs]⟩
instance (a i:Nat)(j:Nm)(xs ys:amx AV)[m:tE ν i j][h:sK ν xs ys]:Rn ν (.sl a (.tail (0,i)) xs) (.sl a (.tail j) ys):=⟨λσ hs=>by simp only[AV.aX,iA.aX];rw[h.out σ hs,hs i j m.out]⟩
instance (xs:amx AV)[h:dM [] xs]:sK ν xs xs:=⟨λ_ _=>AV.ji (AV.cV (λj hj=>by simp at hj) _ h.out)⟩
instance:sK ν [] []:=⟨λ_ _=>rfl⟩
instance (x y:AV)(xs ys:amx AV)[h:Rn ν x y][k:sK ν xs ys]:sK ν (x::xs) (y::ys):=⟨λσ hs=>by simp only[AV.eE];rw[h.out σ hs,k.out σ hs]⟩
instance (a a':amx AV)[h:sK ν a a']:N2 ν (.cells a) (.cells a'):=⟨λσ hs=>by simp only[bk.aX];rw[h.out σ hs]⟩
instance (a n:Nat):N2 ν (.tail a n) (.tail a n):=⟨λ_ _=>rfl⟩
instance (m:Nat)(a a':amx AV)[h:sK ν a a']:N2 ν (.br m a) (.br m a'):=⟨λσ hs=>by simp only[bk.aX];rw[h.out σ hs]⟩
instance:BK ν [] []:=⟨λ_ _=>rfl⟩
instance (i:Nat)(j:Nm)(o o':bk)(l l':HL)[m:tE ν i j][h:N2 ν o o'][k:BK ν l l']:BK ν (((0,i),o)::l) ((j,o')::l'):=⟨λσ hs=>by simp only[amV];rw[h.out σ hs,hs i j m.out,k.out σ hs]⟩
def qG.inj{σ τ:Nm->Nm}(B:qG σ τ){i j:Nm}(h:σ i=σ j):i=j:=by rw[<-B.ts i,h,B.ts]
def jM{σ τ:Nm->Nm}(B:qG σ τ):(l:HL)->(aM l).aX σ τ=aM (l.map λp=>(σ p.1,p.2.aX σ))
 | []=>rfl
 |(i,o)::l=>by
  funext j;have ih:=congrFun (jM B l) j;simp only[Hp.aX,aM,amV]at ih |-;by_cases e:τ j=i
  ·rw[amH e,amH (by rw[<-e,B.st])];rfl
  ·rw[amL e,amL (λh=>e (by rw[h,B.ts]))];exact ih
def nt(l:HL):HL->Prop
 | []=>True
 |(j,o)::r=>lk l j=some o/\nt l r
def nt.spec:{r:HL}->nt l r->∀j o,aM r j=some o->aM l j=some o
 | [],_,j,o,h=>by simp[aM]at h
 |(i,q)::r,k,j,o,h=>by
  simp only[aM]at h;split at h
  ·rename_i e;subst e;simp at h;subst h;rw[cz];exact k.1
  ·exact nt.spec k.2 j o h
def oR:HL->HL->(HL->Prop)->Prop
 | [],l,K=>K l
 |(j,o)::r,l,K=>mR j o l λl'=>oR r l' K
def kZ:HL->HL->HL
 | [],l=>l
 |(j,o)::r,l=>kZ r (cR j o l)
def lv:(r:HL)->{l:HL}->{K:HL->Prop}->oR r l K->K (kZ r l)
 | [],_,_,h=>h
 |(_,_)::r,_,_,h=>lv r (eI _ h)
def gP:(r l:HL)->(∀p∈r,∀q∈r,p.1=q.1->p=q)->∀j,aM (kZ r l) j=match aM r j with|some o=>some o|none=>aM l j
 | [],l,_,j=>by simp[kZ,aM]
 |(i,o)::r,l,hd,j=>by
  simp only[kZ];rw[gP r _ (λp hp q hq=>hd p (by simp[hp]) q (by simp[hq])) j,<-bm];simp only[aM,cE];cases e:aM r j with
  |some p=>
   by_cases h:j=i
   ·subst h;have:=hd (j,o) (by simp) (j,p) (by simp[lZ e]) rfl;simp at this;simp[this]
   ·simp[h]
  |none=>by_cases h:j=i<;>simp[h]
def kx:amx Nm->amz
 | []=>true
 |j::r=> !uV j r&&kx r
def iR:{r:amx Nm}->kx r=true->r.Nodup
 | [],_=>.nil
 |j::r,h=>by
  simp only[kx,amC,anT]at h;refine List.nodup_cons.2 ⟨λhm=>?_,iR h.2⟩
  grind [lX.2]
def tF(k:Nat):HL->amz
 | []=>true
 |p::l=>qL p.1 (0,k)&&tF (k+1) l
def lw:(l:HL)->(k:Nat)->tF k l=true->l.map (·.1)=(List.range' k l.length).map λi=>((0,i):Nm)
 | [],k,_=>rfl
 |p::l,k,h=>by
  simp only[tF,amC]at h;simp only[amV,amA,List.range'_succ];rw[gW.1 h.1,lw l (k+1) h.2]
def qO:{r:HL}->(r.map (·.1)).Nodup->∀p∈r,∀q∈r,p.1=q.1->p=q
 | [],_,p,hp,_,_,_=>by simp at hp
 |x::r,h,p,hp,q,hq,e=>by
  simp only[amV,List.nodup_cons]at h;rcases amE.1 hp with h1|h1<;>rcases amE.1 hq with h2|h2
  ·rw[h1,h2]
  ·exact absurd (by rw[<-h1,e];exact aoJ (f:=(·.1)) h2) h.1
  ·exact absurd (by rw[<-h2,<-e];exact aoJ (f:=(·.1)) h1) h.1
  ·exact qO h.2 p h1 q h2 e
def Ub(P:Program)(ge:GE)(f:FuncId)(ν:amx Nm)(acw:amx AV)(x1':AV)(ro' rw' rv':HL):Prop:=∀{b:Nat}{l:HL}{K:KX}{acu:amx AV},bC acu acw->(l.all λp=>Nat.ble p.1.1 1)=true->nt l ro'->fS l rw'->(oR rv' l λl'=>K x1' l' (rw'.map (·.1)))->bL P f=true/\lK P ge b f acu (aM l) (CH b l K)
def gH{f:FuncId}{args acw:amx AV}{ro rw rv ro' rw' rv':HL}{x1 x1':AV}(ν:amx Nm)(C:df P ge f args ro rw x1 rv)[ra:sK ν args acw][rr:Rn ν x1 x1'][r1:BK ν ro ro'][r2:BK ν rw rw'][r3:BK ν rv rv']
 (hn:(kx ν&&tF 0 (ro++rw)&&Nat.beq ν.length (ro++rw).length&&(ν.all λj=>Nat.ble j.1 1)&&((ro++rw).map (·.1)==(ro++rv).map (·.1)))=true):Ub P ge f ν acw x1' ro' rw' rv':=by
 intro b l K acu s h5 hro hrw k;refine⟨C.1,?_⟩;simp only[amC,am7]at hn;obtain⟨⟨⟨⟨h1,h2⟩,h3⟩,h4⟩,h6⟩:=hn;have h3:=amK h3;have aic:∀j∈ν,j.1<2:=λj hj=>by
  have:=am4 (amR.1 h4 j hj);omega
 have agZ:∀j,(aM l j).isSome=true->j.1<2:=λj hj=>by
  obtain⟨p,hp,rfl⟩:=am3.1 (cB.1 hj);have:=am4 (amR.1 h5 p hp);omega
 obtain⟨σ,τ,B,hd,hs⟩:=uO ν (iR h1) aic;have ac0:tD ν σ:=λi j h=>hs i j h
 have e1:=r1.out σ ac0;have e2:=r2.out σ ac0;have e3:=r3.out σ ac0;have nm:=lw _ _ h2;have nmw:(ro'++rw').map (·.1)=((ro++rw).map (·.1)).map σ:=by rw[<-e1,<-e2,amY,amY,amY,am9,am9,am9,am9];rfl
 have nmv:(ro'++rv').map (·.1)=(ro'++rw').map (·.1):=by
  rw[nmw,h6,<-e1,<-e3,amY,amY,amY,am9,am9,am9,am9];rfl
 have adN:rv'.map (·.1)=rw'.map (·.1):=by
  rw[amY,amY]at nmv;exact List.append_cancel_left nmv
 have nd:((ro'++rw').map (·.1)).Nodup:=by
  rw[nmw,nm,am9];refine List.pairwise_map.2 (List.Pairwise.imp (λ{i j}hne h=>hne ?_) (List.nodup_range' (s:=0) (n:=(ro++rw).length)));have:=B.inj h;simpa using this
 have ndv:(rv'.map (·.1)).Nodup:=by
  rw[adN];rw[amY]at nd;exact(aoa.1 nd).2.1
 have apart:∀j,(aM ro' j).isSome=true->aM rv' j=none:=λj hj=>by
  cases e:aM rv' j with
  |none=>rfl
  |some o=>
   have m2:=cB.1 (show(aM rv' j).isSome=true by simp[e]);rw[adN]at m2;have m1:=cB.1 hj;rw[amY]at nd;exact absurd rfl ((aoa.1 nd).2.2 j m1 j m2)
 have aej:∀p∈rv',∀q∈rv',p.1=q.1->p=q:=qO ndv;have hsv:∀j,(aM rv' j).isSome=(aM rw' j).isSome:=λj=>by
  rw[Bool.eq_iff_iff,cB,cB,adN]
 have C2:=C.2.aX B hd;rw[ra.out σ ac0,jM B,amY,e1,e2]at C2
 let hq:Hp:=λj=>if(aM (ro'++rw') j).isSome=true then none else aM l j
 have afp:∀j,(aM (ro'++rw') j).isSome=true->(aM l j).isSome=true:=λj hj=>by
  rw[dh]at hj;cases e:aM ro' j with
  |some o=>simp[hro.spec j o e]
  |none=>
   rw[bD e]at hj;obtain⟨o,ho⟩:=aoI.1 hj;obtain⟨p,hp,_⟩:=hrw.spec j o ho;simp[hp]
 have C3:=C2.frame (hq:=hq) (λj hj=>by
  simp only[hq]at hj;split at hj
  ·simp at hj
  ·exact agZ j hj) (λj=>by
  simp only[hq];cases e:aM (ro'++rw') j with
  |none=>exact .inl rfl
  |some o=>right;simp)
 intro g fr w vs fi r kk v;have dW:HSub (aM l) (bz (aM (ro'++rw')) hq):=λj=>by
  simp only[bz,hq];cases e:aM (ro'++rw') j with
  |none=>simp only[Option.isSome_none,anY,anj];exact HSub.refl (aM l) j
  |some o=>
   rw[dh]at e;cases e4:aM ro' j with
   |some q=>
    rw[aH e4]at e;simp at e;subst e;simp only[hro.spec j q e4];exact .refl _
   |none=>
    rw[bD e4]at e;obtain⟨p,hp,hso⟩:=hrw.spec j o e;simp only[hp];exact hso
 have hdj:fe (bz (aM (ro'++rw')) hq) fr:=λj=>by
  rcases r.cw j with e|e
  ·left;have:=dW.isSome j;cases e2:bz (aM (ro'++rw')) hq j with
   |none=>rfl
   |some o=>rw[e,e2]at this;simp at this
  ·exact .inr e
 have k:=lv _ k;refine(C3.sub s g fr w vs (λj hj=>?_) ⟨r.rel.dW dW.bz,hdj⟩ kk v).mono λe w'⟨u,g',x,hp',q1,q2,q3,q4,q5⟩=>?_
 ·rcases fi j hj with h|h<;>simp only[lh]<;>omega
 ·obtain⟨hh,rfl,_,x0,h0,rfl,rfl,rfl,rfl⟩:=q5;have af2:bz ((aM (ro++rv)).aX σ τ) hq=aM (kZ rv' l):=by
   rw[jM B,amY,e1,e3];funext j;rw[gP _ _ aej];simp only[bz,dh,hq];cases e4:aM ro' j with
   |some o=>simp only[apart j (by simp[e4]),hro.spec j o e4]
   |none=>
    cases e5:aM rv' j with
    |some o=>rfl
    |none=>
     have:aM rw' j=none:=by
      have:=hsv j;rw[e5]at this;cases e6:aM rw' j with
      |none=>rfl
      |some o=>rw[e6]at this;simp at this
     simp[this]
  rw[af2]at q3;refine⟨u,g',_,_,q1,q2,q3,q4,kZ rv' l,rw'.map (·.1),rfl,⟨λj hj hjn=>?_,λj hj=>?_,λj hj hj'=>?_⟩,?_⟩
  ·rw[gP _ _ aej];cases e5:aM rv' j with
   |none=>rfl
   |some o=>exact absurd (by rw[<-adN];exact cB.1 (by simp[e5])) hjn
  ·rw[gP _ _ aej];cases e5:aM rv' j with
   |none=>exact hj
   |some o=>rfl
  ·rw[gP _ _ aej]at hj';cases e5:aM rv' j with
   |none=>rw[e5]at hj';dsimp only at hj';rw[hj]at hj';simp at hj'
   |some o=>
    have h7:=hsv j;rw[e5]at h7;have h8:=afp j (by
     rw[dh];cases e4:aM ro' j with
     |some o=>simp[bz,e4]
     |none=>rw[bD e4,<-h7];rfl)
    rw[hj]at h8;simp at h8
  ·rw[rr.out σ ac0];exact k
end
section
variable {P:Program}{ge:GE}{N:Nat}{tm:Tm}{l:HL}{Q:ff}{c:Code}
def V.AM{g:G}{a sz:Nat}{xs:amx AV}{v:Value}(h:V g (.sl a .eD xs) v)(hs:xs=[]\/a=sz):V g (.sl sz .eD xs) v:=by
 rcases hs with rfl|rfl
 ·exact V.sub (.nil (.inl rfl)) _ h
 ·exact h
def AN{a sz:Nat}{xs:amx AV}(h:(Nat.beq a sz||xs.isEmpty)=true):xs=[]\/a=sz:=by
 simp only[anv]at h
 grind [Nat.eq_of_beq_eq_true]
def kU{fr:Hp}(fi:uC 1 fr)(k:Nat):fr (1,k)=none:=by
 cases e:fr (1,k)with
 |none=>rfl
 |some o=>have:=fi.aF (1,k) (by simp[e]);simp[lh]at this
def bB.ig(t sz m:Nat){a:Nat}{xs:amx AV}(h:get tm t= .sl a .eD xs)(hs:(Nat.beq a sz||xs.isEmpty)=true)(hm:nx 0 l=m)
 (k:bB P ge 1 N c Q ((t,.sl sz (.tail (1,m)) xs)::tm) (aM (((1,m),.tail sz xs.length)::l))):bB P ge 1 N c Q tm (aM l):=by
 subst hm;refine bB.uD k λg fr w tmps fi r v=>?_
 have hn:=fR l 0 1 _ (amW _);have hv:=v.2 t;rw[h]at hv;obtain⟨g1,l1,r1,v1⟩:=r.rel.ij (bX hn (kU fi _)) (hv.AM (AN hs));rw[bp,be hn]at r1;refine⟨g1,l1.some _,⟨r1,?_⟩,v.1,λi=>?_⟩
 ·rw[<-be hn];exact r.cw.cE (kU fi _)
 ·rw[eV]
  grind [V.mono,v.2]
def de.ma{g:G}{w:World}{hp:Hp}(r:de g w hp){j:Nm}{cs cs':amx AV}(hj:hp j=some (.cells cs))(h:dH g w j (.cells cs')):de g w (cE hp j (.cells cs')):=by
 have key:∀i p,cE hp j (.cells cs') i=some p->(i=j/\p= .cells cs')\/(i≠j/\hp i=some p):=by
  intro i p h;by_cases e:i=j
  ·subst e;rw[aZ]at h;simp at h;exact .inl ⟨rfl,h.symm⟩
  ·rw[aT _ _ e]at h;exact .inr ⟨e,h⟩
 refine⟨λi=>?_,r.hU,r.size,r.fz,λi p hi=>?_,λi p b hi hb=>?_,λi k p q b hi hk hbi hbk=>?_⟩
 ·by_cases e:i=j
  ·subst e;rw[aZ,r.dc i,hj];simp
  ·rw[aT _ _ e];exact r.dc i
 ·rcases key i p hi with⟨rfl,rfl⟩|⟨_,hi⟩
  ·exact h
  ·exact r.eP i p hi
 ·rcases key i p hi with⟨rfl,rfl⟩|⟨_,hi⟩
  ·exact r.dI _ _ b hj hb
  ·exact r.dI i p b hi hb
 ·rcases key i p hi with⟨h1,h1'⟩|⟨h1,hi2⟩<;>rcases key k q hk with⟨h2,h2'⟩|⟨h2,hk2⟩
  ·rw[h1,h2]
  ·subst h1 h1';exact r.hX _ k _ q b hj hk2 hbi hbk
  ·subst h2 h2';exact r.hX i _ p _ b hi2 hj hbi hbk
  ·exact r.hX i k p q b hi2 hk2 hbi hbk
def dN:amx AV->Nat->AV->amx AV
 | [],_,_=>[]
 |_::r,0,x=>x::r
 |y::r,n+1,x=>y::dN r n x
theorem dS:(xs:amx AV)->(i:Nat)->(x:AV)->dN xs i x=xs.set i x
 | [],i,x=>by simp[dN]
 |y::r,0,x=>rfl
 |y::r,n+1,x=>by simp[dN,dS r n x]
theorem VL.fY{g:G}{cs:amx AV}{vs:amx Value}{i:Nat}{x:AV}{v:Value}(h:VL g cs vs)(hv:vs[i]?=some v)(hx:V g x v):VL g (cs.set i x) vs:=by
 have:=VL.set cs vs h i x v hx;have e:vs.set i v=vs:=by
  apply anZ
  grind
 rwa [e]at this
def bB.hO(j:Nm)(i sz m:Nat){a:Nat}{cs xs:amx AV}(h:lk l j=some (.cells cs))(hc:ey cs i=some (.sl a .eD xs))(hs:(Nat.beq a sz||xs.isEmpty)=true)(hm:nx 0 l=m)
 (k:bB P ge 1 N c Q tm (aM (cR j (.cells (dN cs i (.sl sz (.tail (1,m)) xs))) (((1,m),.tail sz xs.length)::l)))):bB P ge 1 N c Q tm (aM l):=by
 subst hm;refine bB.uD k λg fr w tmps fi r v=>?_
 have hn:=fR l 0 1 _ (amW _);rw[<-cz]at h;rw[dk]at hc;obtain⟨vs,rest,elem,o1,o2⟩:=r.rel.eP j _ (aH h);obtain⟨u,hu,hv⟩:=VL.get cs vs o1 i _ hc;obtain⟨g1,l1,r1,v1⟩:=r.rel.ij (bX hn (kU fi _)) (hv.AM (AN hs));have af3:j≠(1,nx 0 l):=λe=>by rw[e,hn]at h;simp at h
 rw[bp,be hn]at r1;have hj1:Ab.bz (aM (((1,nx 0 l),.tail sz xs.length)::l)) fr j=some (.cells cs):=by
  refine aH ?_;rw[<-be hn,aT _ _ af3];exact h
 have acN:=r.rel.cM (aH h);obtain⟨vs2,acK,ac4,p1,p2,p3⟩:=r1.eP j _ hj1;have hvs:vs2=vs:=by
  rw[l1.cg j acN,o2.1]at p2;have p2:=am5 p2;simp only[aoc]at p2;have e:=p2.1;have e:vs++rest=vs2++acK:=by simpa using e
  grind [VL.length,List.append_inj]
 subst hvs;have r2:=r1.ma hj1 (cs':=dN cs i (.sl sz (.tail (1,nx 0 l)) xs)) ⟨vs2,acK,ac4,by rw[dS];exact VL.fY p1 hu v1,p2,p3⟩;rw[bp,bm]at r2;refine⟨g1,l1.some _,⟨r2,?_⟩,v.mono l1⟩;rw[<-bm];refine fe.cE ?_ (r.cw.none h);rw[<-be hn];exact r.cw.cE (kU fi _)
end
section
variable {α β σ ρ τ:Type}
def bs{x:amy α}{f:α->amy β}{r:β}(h:x.bind f=some r):∃v,x=some v/\f v=some r:=aoK.1 h
def bt{b:amz}{x y z:α}(hb:b=true)(h:(bif b then x else y)=z):x=z:=by subst hb;exact h
def bf{b:amz}{x y z:α}(hb:b=false)(h:(bif b then x else y)=z):y=z:=by subst hb;exact h
def oi{x y:α}(h:some x=some y):y=x:=(am5 h).symm
def jL{f:α->amy β}{g:ρ->amy β}{x:α⊕ρ}{v:α}{r:β}(e:x= .inl v)(h:Sum.elim f g x=some r):f v=some r:=by subst e;exact h
def jO{f:α->amy ρ}{x:α⊕ρ}{r0 r:ρ}(h:some (Sum.inr r0)=some x)(k:Sum.elim f some x=some r):some r0=some r:=by cases h;exact k
def lO{f:α->amy ρ}{x:α⊕ρ}{r0 r:ρ}(h:x=Sum.inr r0)(k:Sum.elim f some x=some r):some r0=some r:=by subst h;exact k
def eC{i n:Nat}{p:Prop}(h:i<n)(hb:decide ((i:Int)<(n:Int))=false):p:=by simp at hb;omega
def eG{n:Nat}{p:Prop}(hb:decide ((n:Int)<(n:Int))=true):p:=by simp at hb
def nv{f:α->AV}{xs:amx α}{i:Nat}{v:α}(h:xs[i]?=some v):au (xs.map f) (i:Int)=some (f v):=by
 show(xs.map f)[i]?=_
 simp[h]
def mb{f:α->AV}{xs:amx α}{i:Nat}{v:α}{y:AV}(h:xs[i]?=some v)(e:f v=y):au (xs.map f) (i:Int)=some y:=e▸nv h
def nm{f:α->AV}{xs:amx α}{i:Int}{v:α}(h:au xs i=some v):au (xs.map f) i=some (f v):=tb f h
def lL{f:α->AV}{xs:amx α}{i:Int}{v:α}{y:AV}(h:au xs i=some v)(e:f v=y):au (xs.map f) i=some y:=e▸tb f h
def wi{i:Nat}(h:i+1<=4611686018427387904):Sub (.int .i64 (IntKind.i64.wrap ((i:Int)+1))) (.int .i64 ((i+1:Nat):Int)):=by
 have:IntKind.i64.wrap ((i:Int)+1)=((i+1:Nat):Int):=by
  grind [IntKind.wrap,IntKind.signed,IntKind.bits]
 rw[this];exact .refl _
def rr(x:AV):Sub x x:=.refl x
def rl(x:amx AV):bC x x:=.refl x
def rm(f:α->AV)(xs:amx α):bC (xs.map f) (xs.map f):=.refl _
def cn{x y:AV}{xs ys:amx AV}(h:Sub x y)(k:bC xs ys):bC (x::xs) (y::ys):=.cons h k
def nl{n m:Nat}{t:iA}:Sub (.sl n t []) (.sl m .no []):=.nil (.inr rfl)
def nf{n m:Nat}{t:iA}:Sub (.sl n t []) (.sl m t []):=.nil (.inl rfl)
def ls{n:Nat}{t:iA}{xs ys:amx AV}(h:bC xs ys):Sub (.sl n t xs) (.sl n .no ys):=.sl h (.inr rfl)
def lt{n:Nat}{t:iA}{xs ys:amx AV}(h:bC xs ys):Sub (.sl n t xs) (.sl n t ys):=.sl h (.inl rfl)
def bC.app:{a a' b b':amx AV}->bC a a'->bC b b'->bC (a++b) (a'++b')
 | [],a',b,b',h,k=>by have:=h.td;subst this;exact k
 |x::a,a',b,b',h,k=>by
  cases h with
  |refl=>exact .cons (.refl _) (bC.app (.refl _) k)
  |cons h1 h2=>exact .cons h1 (bC.app h2 k)
def ap{f:α->AV}{a b:amx AV}{xs ys:amx α}(h:bC a (xs.map f))(k:bC b (ys.map f)):bC (a++b) ((xs++ys).map f):=by rw[amY];exact h.app k
def sc{f:α->AV}{a:amx AV}{xs:amx α}{i j:Nat}(h:bC a (xs.map f)):bC ((a.drop i).take j) (((xs.drop i).take j).map f):=by
 rw[List.map_take,List.map_drop];have hd:∀(n:Nat){a b:amx AV},bC a b->bC (a.drop n) (b.drop n):=by
  intro n
  induction n with
  |zero=>intro a b h;simpa using h
  |succ n ih=>intro a b h;cases h with
   |refl=>exact .refl _
   |cons _ h=>simpa using ih h
 have ht:∀(n:Nat){a b:amx AV},bC a b->bC (a.take n) (b.take n):=by
  intro n
  induction n with
  |zero=>intro a b h;simpa using .refl _
  |succ n ih=>intro a b h;cases h with
   |refl=>exact .refl _
   |cons h1 h=>simpa using .cons h1 (ih h)
 exact ht _ (hd _ h)
def ck(n b:Nat):amy Unit:=if n*b<=140737488355328 then some ()else none
def N3{f:α->AV}{g:β->AV}{a b:amx AV}{xs:amx α}{ys:amx β}{w:Nat}{u:Unit}(c:ck (xs.length+ys.length) w=some u)(h:bC a (xs.map f))(k:bC b (ys.map g)):(a.length+b.length)*w<=140737488355328:=by
 have h:=h.length;have k:=k.length;simp only[amJ]at h k;unfold ck at c
 grind
def dj(n:Nat):amy Unit:=if n<=9223372036854775807 then some ()else none
def cS{n:Nat}{u:Unit}(c:dj n=some u):n<=9223372036854775807:=by
 grind [dj]
def gQ(s:amw)(i:Int):amy UInt8:=if 0<=i then s[i.toNat]? else none
def iS{s:amw}{i:Int}{c:UInt8}(h:gQ s i=some c):0<=i/\s[i.toNat]?=some c:=by
 grind [gQ]
def lo{n:Nat}{xs ys:amx AV}(h:bC xs ys):iL (.tail n xs.length) (.tail n ys.length):=by rw[h.length];exact .refl _
def co{xs ys:amx AV}(h:bC xs ys):iL (.cells xs) (.cells ys):=.cells h
def SN{f:α->AV}{xs r:amx α}{w n m:Nat}{t:iA}(h:((ck (([]:amx α).length+xs.length) w).bind λ_=>some (([]:amx α)++xs))=some r)(e:xs.map f=[]):Sub (.sl n t []) (.sl m .no (r.map f)):=by
 have e:=List.map_eq_nil_iff.1 e;subst e;obtain⟨_,_,h⟩:=bs h;have h:[]=r:=by simpa using h
 subst h;exact nl
end
end Go.Ab

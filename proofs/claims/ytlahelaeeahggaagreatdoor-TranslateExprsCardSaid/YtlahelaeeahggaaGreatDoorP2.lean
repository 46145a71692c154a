/- Plain laws. -/
import Derived.Test.YtlahelaeeahggaaGreatDoorP1
set_option linter.all false
open Go Go.RowKit Go.Proofs
namespace Go.Ab
section
set_option linter.unusedVariables false
def Oo(s:ar):Prop:=s.bG.length<=3/\eo s.name/\∀c∈s.bG,eo c.name/\eM [] 2 c.arg
def Dc(ns:amx amw)(t:ac):Prop:=eo t.name/\t.af.length<=5/\(∀c∈t.af,eo c.name/\eM ns 1 c.bx)/\t.key.length<=2/\(∀x∈t.key,eo x)/\t.aY.length<=1/\(∀x∈t.aY,eo x.aw/\eo x.aD)/\dz 4 t.aC
def gD{s:amw}(h:(JK.any λy=>s.data.toList==y.data.toList)=true):eo s:=eK (l:=[s]) (by simpa using h) _ (by simp)
def BA:∀c∈ed,dz 4 c:=by
 have v:∀{d:Nat}{s:amw},(JK.any λy=>s.data.toList==y.data.toList)=true->dz (d+1) (Nx s):=λh=>Nw (gD h)
 have hU:∀{d:Nat},dz (d+2) vF:=λ{d}=>nN (d:=d+1) (by simp[kV]) (v (by decide)) (uz (by decide))
 have tr:∀{d:Nat},dz (d+1) iX:=λ{d}=>XP (by decide)
 intro c hc;simp only[ed,amE,amP,amQ]at hc;rcases hc with rfl|rfl|rfl|rfl|rfl
 ·exact tr
 ·exact hU
 ·exact nN (by simp[kV]) (nN (by simp[kV]) (uz (by decide)) (v (by decide))) hU
 ·exact nN (by simp[kV]) (KD (nN (by simp[kV]) (v (by decide)) (XO mD))) hU
 ·exact R5 (nN (by simp[kV]) (v (by decide)) (uz (by decide))) (nN (by simp[kV]) (v (by decide)) (XO (gD (by rfl)))) tr
def DP.DD{q:DP}(h:q.ok):∀s∈q.aN,Oo s/\1<=s.bG.length:=by
 have hc:Oo ⟨gk,q.bG⟩/\1<=q.bG.length:=by
  refine⟨⟨by cases hb:q.bV<;>simp[DP.bG,hb],gD (by rfl),λc hc=>?_⟩,by simp[DP.bG]⟩;have key:c.name∈([⟨#[82,101,100]⟩,⟨#[82,103,98]⟩,⟨#[66,108,117,101]⟩]:amx amw)/\(c.arg=la 0\/c.arg=la q.a):=by
   cases hb:q.bV<;>simp[DP.bG,hb]at hc
   ·rcases hc with rfl|rfl<;>simp
   ·rcases hc with rfl|rfl|rfl<;>simp
  refine⟨eK (by decide) _ key.1,?_⟩;have:=h.a;rcases key.2 with e|e<;>rw[e]<;>exact dR (by omega)
 intro s hs;simp only[DP.aN,amE]at hs;rcases hs with rfl|hs
 ·exact hc
 ·cases e:q.sh with
  |none=>rw[e]at hs;simp at hs
  |some b=>
   rw[e]at hs;simp only[aov]at hs;subst hs;have hb:=h.sh b (by simp[e]);refine⟨⟨by simp,gD (by rfl),λc hc=>?_⟩,by simp⟩;simp only[amE,amP,amQ]at hc;rcases hc with rfl|rfl
   ·exact⟨gD (by rfl),dR (by decide)⟩
   ·exact⟨gD (by rfl),iJ (dR ⟨hb.1,by omega⟩)⟩
def DP.KI{q:DP}(h:q.ok):∀t∈q.am,Dc (eT q.aN) t:=by
 have hk:=h.k;have sc:gk∈eT q.aN:=by simp[DP.aN]
 have ty:∀{k:Int},0<=k/\k<=2->eM (eT q.aN) 1 (la k):=λh=>dR h
 have tr:dz 4 iX:=XP (by decide);have c1:Dc (eT q.aN) q.cf:=by
  refine⟨gD (by rfl),by cases hb:q.aV<;>cases hc:q.bK<;>simp[DP.cf,DP.gd,hb,hc],λc hc=>?_,by simp[DP.cf],?_,by simp[DP.cf],by simp[DP.cf],BA _ h.c⟩
  ·have key:(c.name∈([⟨#[99,111,108,111,114]⟩,⟨#[102,108,97,103]⟩,KG,uh,Bz]:amx amw))/\(c.bx=la 0\/c.bx=la 1\/c.bx=la 2\/c.bx=la q.k\/c.bx=ai.mk 3 gk 0 [] []):=by
    cases hb:q.aV<;>cases hf:q.bK<;>simp[DP.cf,DP.gd,hb,hf]at hc
    ·rcases hc with rfl|rfl|rfl<;>simp
    ·rcases hc with rfl|rfl|rfl|rfl<;>simp
    ·rcases hc with rfl|rfl|rfl|rfl<;>simp
    ·rcases hc with rfl|rfl|rfl|rfl|rfl<;>simp
   refine⟨eK (by decide) _ key.1,?_⟩;rcases key.2 with e|e|e|e|e<;>rw[e]
   ·exact ty (by decide)
   ·exact ty (by decide)
   ·exact ty (by decide)
   ·exact ty (by omega)
   ·exact sy sc (gD (by rfl))
  ·intro x hx;simp[DP.cf]at hx;subst hx;exact gD (by rfl)
 have c2:Dc (eT q.aN) q.gl:=by
  refine⟨gD (by rfl),by cases hb:q.done<;>simp[DP.gl,DP.nD,hb],λc hc=>?_,by simp[DP.gl],?_,by simp[DP.gl],?_,tr⟩
  ·have key:(c.name∈([⟨#[100,111,110,101]⟩,⟨#[116,105,116,108,101]⟩,KG,pc]:amx amw))/\(c.bx=la 0\/c.bx=la 1\/c.bx=la 2\/c.bx=la q.k):=by
    cases hb:q.done<;>simp[DP.gl,DP.nD,hb]at hc
    ·rcases hc with rfl|rfl|rfl<;>simp
    ·rcases hc with rfl|rfl|rfl|rfl<;>simp
   refine⟨eK (by decide) _ key.1,?_⟩;rcases key.2 with e|e|e|e<;>rw[e]<;>exact ty (by omega)
  ·intro x hx;simp[DP.gl]at hx;subst hx;exact gD (by rfl)
  ·intro x hx;simp[DP.gl]at hx;subst hx;exact⟨gD (by rfl),gD (by rfl)⟩
 have c3:Dc (eT q.aN) iw:=by
  refine⟨gD (by rfl),by simp[iw],λc hc=>?_,by simp[iw],?_,by simp[iw],?_,tr⟩
  ·simp[iw]at hc;rcases hc with rfl|rfl
   ·exact⟨gD (by rfl),ty (by decide)⟩
   ·exact⟨gD (by rfl),ty (by decide)⟩
  ·intro x hx;simp[iw]at hx;rcases hx with rfl|rfl<;>exact gD (by rfl)
  ·intro x hx;simp[iw]at hx;subst hx;exact⟨gD (by rfl),gD (by rfl)⟩
 intro t ht;simp only[DP.am,amZ,amE,amP,amQ]at ht;rcases ht with(rfl|rfl)|ht
 ·exact c1
 ·exact c2
 ·cases hb:q.cL<;>rw[hb]at ht<;>simp at ht;subst ht;exact c3
def DP.wb{q:DP}(h:q.ok){l:amx Int}(hl:∀x∈l,kj x):WB l q.aN q.am []where
 l:=hl
 sn:=by cases e:q.sh<;>simp[DP.aN,e]
 tn:=by cases e:q.cL<;>simp[DP.am,e]
 fn:=by simp
 s s hs:=by
  obtain⟨⟨a,b,c⟩,e⟩:=DP.DD h s hs;exact⟨⟨e,a⟩,b,λx hx=>⟨(c x hx).1,λ_=>(c x hx).2⟩⟩
 t t ht:=by
  obtain⟨a,b,c,_⟩:=DP.KI h t ht;exact⟨a,b,c⟩
 f:=by simp
structure Ny(ns:List ByteArray)(p:bE):Prop where
 name:eo p.name
 bx:eM ns 3 p.bx
 default:dz 5 p.default
structure JM(s:bO):Prop where
 aj:0<=s.aj/\s.aj<=2
 aD:eo s.aD
 bind:eo s.bind
 cond:dz 12 s.cond
 value:dz 12 s.value
structure pr(ns:List ByteArray)(d:bh):Prop where
 aj:0<=d.aj/\d.aj<=3
 name:eo d.name
 sum:Oo d.sum
 aD:Dc ns d.aD
 pl:d.params.length<=3
 params:∀p∈d.params,Ny ns p
 bx:eM ns 3 d.bx
 body:dz 12 d.body
 sl:d.mf.length<=3
 mf:∀s∈d.mf,JM s
abbrev R8:ar:=ar.mk ⟨#[]⟩ []
abbrev R9:ac:=ac.mk ⟨#[]⟩ [] [] [] (D8 0 0)
def JN:Oo R8:=⟨by simp,mD,by simp⟩
def JO{ns:amx amw}:Dc ns R9:=⟨mD,by simp,by simp,by simp,by simp,by simp,by simp,uz (by decide)⟩
section
variable {l:amx Int}{m:amw}{ss:amx ar}{ts:amx ac}{fs:amx aU}
def ZL(h:WB l ss ts fs){i:Int}:T (RL (ay.mk l i m ss ts fs)) λr=>r.1.length<=3/\r.2.1.length=r.1.length/\(0<=r.2.2.1/\r.2.2.1<=r.1.length)/\(∀p∈r.1,Ny (eT ss) p)/\∀t∈r.2.1,eM (eT ss) 3 t:=by
 unfold RL;refine qn h (by decide) λv v0 v1=>?_
 refine T.ju (λq(s:amx bE×amx ai×Int×Int×Int)=>0<=s.2.2.2.1/\s.2.2.2.1<=v.1/\q=(v.1 - s.2.2.2.1).toNat/\s.1.length=s.2.2.2.1.toNat/\s.2.1.length=s.1.length/\0<=s.2.2.1/\s.2.2.1<=v.1/\(∀p∈s.1,Ny (eT ss) p)/\∀t∈s.2.1,eM (eT ss) 3 t) (m:=v.1.toNat) (by omega) ⟨by simp,by simpa using v0,by simp,by simp,by simp,by simpa using v0,by simp,by simp,by simp⟩ ?_;rintro q ⟨a2,a3,a4,a5,a6⟩ ⟨g1,g2,rfl,g3,g4,g5,g6,g7,g8⟩;dsimp only at g1 g2 g3 g4 g5 g6 g7 g8 |-;refine T.bif (λe=>?_) λe=>T.some (T.some ⟨by dsimp only;omega,g4,⟨g5,?_⟩,g7,g8⟩)
 ·have hp:a5<v.1:=by simpa using e
  refine T.step (TP (b:=ay.mk _ _ _ _ _ _) h) λt ht=>T.eA ⟨g1,by simp;omega⟩ λn hn _=>qn h (by decide) λw _ _=>?_
  have hn:eo n:=eK (l:=[⟨#[112]⟩,⟨#[113]⟩,⟨#[114]⟩]) (by decide) _ hn;refine T.bind (T.mono (P:=λr=>∃(b:amz)(u:ai),r= .inl (b,u)/\eM (eT ss) 3 u) (T.bif (λ_=>T.some ⟨_,_,rfl,ht⟩) λ_=>T.some ⟨_,_,rfl,dR (by decide)⟩) ?_);rintro _ ⟨b,u,rfl,hu⟩;refine qn h (by decide) λx _ _=>?_
  refine T.bind (T.mono (P:=λ_=>True) (T.bif (λ_=>T.some trivial) λ_=>T.some trivial) λa23 _=>?_);refine T.bind (T.mono (P:=λr=>∃q:Int×amz×aa×Int,r= .inl q/\0<=q.1/\q.1<=v.1/\dz 5 q.2.2.1) (T.bif (λ_=>T.step (XX h ht (by decide)) λy hy=>T.some ⟨_,rfl,by dsimp only;split<;>omega,by dsimp only;split<;>omega,hy⟩) λ_=>T.some ⟨_,rfl,g5,g6,uz (by decide)⟩) ?_);rintro _ ⟨⟨b1,b2,b3,b4⟩,rfl,k1,k2,k3⟩;dsimp only at k1 k2 k3;have ew:IntKind.i64.wrap (a5+1)=a5+1:=by rw[amG];omega
  refine T.ck (by simp;omega) (T.ck (by simp;omega) (T.some ⟨_,?_,?_,?_,rfl,?_,?_,k1,k2,bT g7 ⟨hn,hu,k3⟩,bT g8 ht⟩))<;>(try simp only[ew,amO,amA,amB])<;>omega
 ·have hp:¬a5<v.1:=by simpa using e
  dsimp only;omega
def ZM{ns:amx amw}{ps:amx bE}{us:amx ai}(hl:us.length=ps.length)(h3:ps.length<=3)(hp:∀p∈ps,Ny ns p)(ht:∀t∈us,eM ns 3 t):T (RM ps us) λr=>pM ns r/\r.length<=3:=by
 unfold RM;refine T.dg (λj s=>pM ns s/\s.length<=j) ⟨by intro x hx;simp at hx,by simp⟩ ?_ λs hs=>T.some ⟨hs.1,by omega⟩
 intro j p s _ hpm hlt ⟨g1,g2⟩;exact T.eA ⟨by omega,by omega⟩ λt htm _=>T.step (RZ g1 (by omega) (hp p hpm).name (ht t htm).mono) λr hr=>T.some ⟨hr.1,by omega⟩
def TS{a b:Int}(h0:0<=a/\a<=100)(h1:0<=b/\b<=100):IntKind.i64.wrap (a+b)=a+b:=by rw[amG];omega
def T43(h:WB l ss ts fs){i:Int}{n:amw}(hn:eo n):T (Ty (ay.mk l i m ss ts fs) n) λr=>(pr (eT ss) r.1/\r.1.aj=2)/\r.2.1.name=n/\r.2.1.cC=m/\r.2.1.params.length<=3/\(0<=r.2.1.gr/\r.2.1.gr<=r.2.1.params.length)/\(∀p∈r.2.1.params,eM (eT ss) 3 p)/\eM (eT ss) 3 r.2.1.lz:=by
 unfold Ty;refine T.step (ZL h) λp hp=>T.step (TP (b:=ay.mk _ _ _ _ _ _) h) λt ht=>T.step (ZM hp.2.1 hp.1 hp.2.2.2.1 hp.2.2.2.2) λe he=>qn h (by decide) λv v0 v1=>?_
 refine T.step (R7 h (d:=3) (by decide) he.1 (by omega) ht.mono (by rw[TS (by decide) (by omega)];omega) (by rw[TS (by decide) (by omega)];omega)) λx hx=>qn h (by decide) λw _ _=>?_
 refine T.bind (T.mono (P:=λr=>∃(b:amz)(u:ai),r= .inl (b,u)/\eM (eT ss) 3 u) (T.bif (λ_=>T.some ⟨_,_,rfl,ht⟩) λ_=>T.some ⟨_,_,rfl,dR (by decide)⟩) ?_);rintro _ ⟨b,u,rfl,hu⟩;exact T.some ⟨⟨⟨by simp,hn,JN,JO,hp.1,hp.2.2.2.1,hu,hx,by simp,by simp⟩,rfl⟩,rfl,rfl,by dsimp only;omega,⟨hp.2.2.1.1,by dsimp only;omega⟩,hp.2.2.2.2,ht⟩
def T99(h:WB l ss ts fs)(ht:0<ts.length)(hc:∀t∈ts,1<=t.af.length){i:Int}{dX:amx aE}(he:pM (eT ss) dX)(hb:dX.length<=3):T (Tz (ay.mk l i m ss ts fs) dX) λr=>JM r.1:=by
 unfold Tz;refine iW h (by simp) ht λv t htm=>T.step (RW (h.t t htm).2.1 (h.t t htm).2.2) λu hu=>qn h (by decide) λw w0 w1=>T.bif (λ_=>T.step (R7 h (d:=2) (by decide) he (by omega) (hu.1.le (by decide)) (by decide) (by decide)) λx hx=>T.some ⟨⟨w0,by dsimp only;omega⟩,(h.t t htm).1,mD,uz (by decide),hx.le (by decide)⟩) λ_=>?_
 refine T.step (TQ (b:=ay.mk _ _ _ _ _ _) h (by omega)) λn hn=>T.step (RZ he (by omega) hn (hu.1.le (by decide))) λe' he'=>T.step (R7 h (d:=2) (by decide) he'.1 (by omega) (dR (by decide)) (by decide) (by decide)) λx hx=>?_
 refine T.bind (T.mono (P:=λr=>∃(y:aa)(i:Int),r= .inl (y,i)/\dz 12 y) (T.bif (λ_=>?_) λ_=>T.some ⟨_,_,rfl,uz (by decide)⟩) ?_)
 ·have hc1:=hc t htm;have hl:=hu.1.2.2.2.1 hu.2.1;have hn8:=hu.2.2;refine qn h (by simp;omega) λz z0 z1=>?_
  simp only[amJ]at z1;exact T.eA ⟨z0,z1⟩ λc hcm _=>T.eA ⟨z0,by omega⟩ λk hk _=>T.step (R7 h (d:=1) (by decide) he'.1 (by omega) ((hu.1.2.2.2.2.2.2.2.2 k hk).le (by decide)) (by decide) (by decide)) λy hy=>T.some ⟨_,_,rfl,(XR (d:=8) (hu.1.2.2.2.2.2.2.2.1 c hcm) (Nw hn) hy).le (by decide)⟩
 ·rintro _ ⟨y,j,rfl,hy⟩;exact T.some ⟨⟨w0,by dsimp only;omega⟩,(h.t t htm).1,hn,hx.le (by decide),hy⟩
def T44(h:WB l ss ts fs)(ht:0<ts.length)(hc:∀t∈ts,1<=t.af.length){i:Int}{n:amw}(hn:eo n):T (TA (ay.mk l i m ss ts fs) n) λr=>pr (eT ss) r.1/\r.1.aj=3:=by
 unfold TA;refine T.step (ZL h) λp hp=>qn h (by decide) λv v0 v1=>?_
 have ew:IntKind.i64.wrap (1+v.1)=1+v.1:=TS (by decide) (by omega);refine T.ju (λq(s:Int×amx bO×Int)=>0<=s.1/\s.1<=2/\q=s.1.toNat/\s.2.1.length+q<=2/\∀x∈s.2.1,JM x) (m:=(1+v.1).toNat) (by omega) ⟨by rw[ew];dsimp only;omega,by rw[ew];dsimp only;omega,by rw[ew],by simp;omega,by simp⟩ ?_;rintro q ⟨a3,a4,a5⟩ ⟨g1,g2,rfl,g3,g4⟩;dsimp only at g1 g2 g3 g4 |-;refine T.bif (λe=>?_) λ_=>T.some (T.some ⟨⟨by simp,hn,JN,JO,hp.1,hp.2.2.2.1,dR (by decide),uz (by decide),by dsimp only;omega,g4⟩,rfl⟩)
 have afr:0<a3:=by simpa using e
 have ew2:IntKind.i64.wrap (a3 - 1)=a3 - 1:=by rw[amG];omega
 refine T.step (ZM hp.2.1 hp.1 hp.2.2.2.1 hp.2.2.2.2) λe he=>T.step (T99 h ht hc he.1 he.2) λx hx=>T.ck (by simp;omega) (T.some ⟨(a3 - 1).toNat,?_,?_,?_,?_,?_,bT g4 hx⟩)<;>(try simp only[ew2,amO,amA,amB])<;>omega
def T41(h:WB l ss ts fs)(ht:2<=ts.length){i k:Int}(hm:eo m):T (Ts (ay.mk l i m ss ts fs) k) λr=>(pr (eT ss) r.1/\r.1.aj=2)/\eo r.2.1.name/\r.2.1.cC=m/\r.2.1.params.length<=3/\(0<=r.2.1.gr/\r.2.1.gr<=r.2.1.params.length)/\(∀p∈r.2.1.params,eM (eT ss) 3 p)/\eM (eT ss) 3 r.2.1.lz:=by
 unfold Ts;have px:∀{s:amw}{b:amz}{e:aa},eo s->dz 5 e->Ny (eT ss) (bE.mk s false (la 0) b e 0 0):=λhs he=>⟨hs,dR (by decide),he⟩
 have row:∀{j:Int}{β:Type}{f:ac->ai->amy β}{Q:β->Prop},(0<=j/\j<2)->(∀t u,eM (eT ss) 2 u->T (f t u) Q)->T ((au ts j).bind λt=>(Ag t).bind λu=>f t u) Q:=λhj k=>T.eA ⟨hj.1,by omega⟩ λt htm _=>T.step (TO (h.t t htm).2.1 (h.t t htm).2.2) λu hu=>k t u hu
 refine T.step (RV (b:=ay.mk _ _ _ _ _ _) h) λv hv=>?_
 refine T.bind (T.mono (P:=λr=>∃q:amx ai×ai×amw×amx bE×aa,r= .inl q/\q.1.length<=3/\(1<=q.1.length/\(k=2->q.1.length=2))/\(∀t∈q.1,eM (eT ss) 3 t)/\eM (eT ss) 3 q.2.1/\eo q.2.2.1/\q.2.2.2.1.length<=3/\(∀p∈q.2.2.2.1,Ny (eT ss) p)/\dz 12 q.2.2.2.2) ?_ ?_)
 ·have v1:eM (eT ss) 3 v.1:=hv.le (by decide);have t0:eM (eT ss) 3 (la 0):=dR (by decide);have X:∀{d:Nat}{s:amw},eo s->dz (d+1) (Nx s):=λh=>Nw h
  have z5:dz 5 (D8 0 0):=uz (by decide);have nx:eo ⟨#[120]⟩:=gD (by rfl);have ny:eo ⟨#[121]⟩:=gD (by rfl);have nn:eo ⟨#[110]⟩:=gD (by rfl);refine T.bif (λe=>?_) λn1=>T.bif (λe=>?_) λn2=>T.bif (λe=>?_) λn3=>?_
  ·refine row (by decide) λt u hu=>T.some ⟨_,rfl,by simp,⟨by simp,λe2=>?_⟩,by simpa using hu.mono,dR (by decide),gD (by rfl),by simp,by simpa using px nx z5,(XS (d:=11) (gD (by rfl)) (X nx))⟩
   have:k=1:=by simpa using e
   omega
  ·refine T.ck (by simp) (T.some ⟨_,rfl,by simp,by simp,by simpa using⟨v1,t0⟩,sA rfl (by simp) (eK (by decide)) (by simpa using⟨hv.le (by decide),dR (by decide)⟩),gD (by rfl),by simp,by simpa using⟨px nx z5,px ny z5⟩,XQ (d:=11) (by simp) rfl (eK (by decide)) (by simpa using⟨X ny,X nx⟩)⟩)
  ·refine T.ck (by simp) (row (by decide) λt u hu=>row (by decide) λt2 u2 hu2=>T.some ⟨_,rfl,by simp,⟨by simp,by simp⟩,by simpa using⟨hu.mono,t0⟩,hu2.mono,gD (by rfl),by simp,by simpa using⟨px nx z5,px nn (uz (by decide))⟩,XR (d:=11) (gD (by rfl)) (X nx) (nN (d:=10) (by simp[kV]) (XS (d:=9) (gD (by rfl)) (X nx)) (X nn))⟩)
  ·refine T.some ⟨_,rfl,by simp,⟨by simp,λe2=>?_⟩,by simpa using v1,v1,gD (by rfl),by simp,by simpa using px nx z5,X nx⟩;have:¬k=2:=by simpa using n2
   exact absurd e2 this
 ·rintro _ ⟨⟨b1,b2,b3,b4,b5⟩,rfl,k1,⟨k2,k2'⟩,k3,k4,k5,k6,k7,k8⟩;dsimp only at k1 k2 k2' k3 k4 k5 k6 k7 k8;refine T.bind (T.mono (P:=λr=>∃q:Int,r= .inl q/\0<=q/\q<=b1.length) (T.bif (λe=>T.some ⟨_,rfl,by omega,?_⟩) λ_=>T.some ⟨_,rfl,by omega,by omega⟩) ?_)
  ·have:k=2:=by simpa using e
   have:=k2' this;omega
  ·rintro _ ⟨q,rfl,q0,q1⟩;exact T.some ⟨⟨⟨by simp,k5,JN,JO,k6,k7,dR (by decide),k8,by simp,by simp⟩,rfl⟩,k5,rfl,k1,⟨q0,q1⟩,k3,k4⟩
def ZN{a c:aK}{n:amw}{d:bh}(ha:a.cb.length<=1000)(hc:c.cb.length<=1000):
 T (RE a c n d) λr=>r.1.name=a.name/\r.2.name=c.name/\(r.1.cb=a.cb/\r.2.cb=c.cb++[d]\/r.1.cb=a.cb++[d]/\r.2.cb=c.cb):=by
 unfold RE;refine T.bind (T.bif (λ_=>T.ck (by simp;omega) (T.some (T.some ⟨rfl,rfl,.inl ⟨rfl,rfl⟩⟩))) λ_=>T.ck (by simp;omega) (T.some (T.some ⟨rfl,rfl,.inr ⟨rfl,rfl⟩⟩)))
end
end
section
set_option linter.unusedVariables false
theorem T.seq{α β:Type}{o:amy α}{f:α->amy β}{Q:β->Prop}(h:T o λ_=>True)(k:∀a,T (f a) Q):T (o.bind f) Q:=h.step λa _=>k a
theorem T.ok{α:Type}{o:amy α}(h:o.isSome=true):T o λ_=>True:=by
 cases o with
 |none=>simp at h
 |some a=>exact⟨a,rfl,trivial⟩
theorem T.JP{α β γ:Type}{x:α⊕β}{f:α->amy γ}{g:β->amy γ}{Q:γ->Prop}(h:∀a,T (f a) Q)(k:∀b,T (g b) Q):T (Sum.elim f g x) Q:=T.sum (λa _=>h a) λb _=>k b
theorem Ah(P:amw->amz)(h:JK.all P=true):∀x,eo x->P x=true:=λx hx=>amR.1 h x hx
theorem N8:∀x,eo x->x.size<=8:=λx hx=>by simpa using Ah (λx=>decide (x.size<=8)) (by decide) x hx
theorem BB{x:amw}(h:eo x):T (pB x) λ_=>True:=T.ok (Ah (λx=>(pB x).isSome) (by decide+kernel) x h)
theorem DE{x:amw}(h:eo x):T (qX x) λ_=>True:=T.ok (Ah (λx=>(qX x).isSome) (by decide+kernel) x h)
theorem X1{x:amw}(h:eo x):T (Fi x) λ_=>True:=T.ok (Ah (λx=>(Fi x).isSome) (by decide+kernel) x h)
theorem ZO{n:Int}(h:0<=n/\n<=100):T (Mk n) λs=>s.size<=3:=by
 have key:((List.range 101).all λk=>(Mk (k:Int)).any λs=>decide (s.size<=3))=true:=by decide+kernel
 have:=amR.1 key n.toNat (by simp;omega);rw[show((n.toNat:Nat):Int)=n by omega]at this;cases e:Mk n with
 |none=>rw[e]at this;simp at this
 |some s=>rw[e]at this;exact⟨s,rfl,by simpa using this⟩
theorem Nz(l:amx amw)(x:amw):T (A8 l x) λr=> -1<=r/\r<l.length:=by
 unfold A8;exact T.dg (λ_ _=>True) trivial (λj y _ _ _ hlt _=>T.bif (λ_=>T.some (T.some ⟨by omega,by omega⟩)) λ_=>T.some trivial) λ_ _=>T.some ⟨by omega,by omega⟩
theorem X2(k:Int):T (Fg k) λ_=>True:=by
 unfold Fg
 repeat' first|exact T.some trivial|refine T.seq ?_ λ_=>?_|refine T.bif (λ_=>?_) λ_=>?_
theorem X3(e:aa):T (Fh e) λ_=>True:=by
 unfold Fh
 repeat' first|exact T.some trivial|exact(Nz _ _).mono λ_ _=>trivial|refine T.seq ?_ λ_=>?_|refine T.bif (λ_=>?_) λ_=>?_|refine T.JP (λ_=>?_) λ_=>?_
theorem Sb{l:amx amw}{b:amz}(h:∀x∈l,eo x):T (CU l b) λ_=>True:=by
 unfold CU;refine T.dg (λ_ _=>True) trivial (λj x _ _ hx _ _=>?_) λ_ _=>T.some trivial
 refine T.seq (BB (h x hx)) λ_=>T.seq ?_ λ_=>T.bif (λ_=>T.some (T.some trivial)) λ_=>T.some trivial
 repeat' first|exact T.some trivial|refine T.bif (λ_=>?_) λ_=>?_
theorem X4{d:Nat}{e:aa}(h:dz d e):T (Fj e) λ_=>True:=by
 cases d with
 |zero=>exact h.elim
 |succ d=>
  have hs:=h.1;unfold Fj;have w1:=Sb (b:=e.aj==10) hs.2.2.2.2.2.2.1;have w2:=Sb (b:=true) hs.2.2.2.2.2.2.2.1;have lp:T ((bg (λ(i65:Nat)(v66:amw)=>λ(_:Unit)=>((qX v66).bind λv72=>bif (!v72)then(some (.inr (.inr (.inr (6:Int)))))else(some (.inl ())):amy (Unit⊕(Unit⊕(Unit⊕Int))))) (λ(_:Unit)=>()) 0 e.aF ()).bind (Sum.elim (λ(_:Unit)=>some (.inl ())) some)) λ_=>True:=
   T.dg (λ_ _=>True) trivial (λj x _ _ hx _ _=>T.seq (DE (hs.2.2.2.2.2.2.1 x hx)) λ_=>T.bif (λ_=>T.some (T.some trivial)) λ_=>T.some trivial) λ_ _=>T.some trivial
  repeat' first|exact T.some trivial|exact X2 _|exact X3 _|exact BB hs.2.1|exact BB hs.2.2.1|exact DE hs.2.1|exact X1 hs.2.2.1|exact lp|exact w1|exact w2|refine T.seq ?_ λ_=>?_|refine T.bif (λ_=>?_) λ_=>?_|refine T.JP (λ_=>?_) λ_=>?_
theorem NA(t:ai):T (uf t) λ_=>True:=by
 unfold uf
 repeat' first|exact T.some trivial|refine T.seq ?_ λ_=>?_|refine T.bif (λ_=>?_) λ_=>?_
theorem BC(t:aa):T (pI t) λ_=>True:=by
 unfold pI
 repeat' first|exact T.some trivial|refine T.seq ?_ λ_=>?_|refine T.bif (λ_=>?_) λ_=>?_
theorem X5(t:ac):T (Jx t) λ_=>True:=by
 unfold Jx
 repeat' first|exact T.some trivial|exact BC _|refine T.seq ?_ λ_=>?_|refine T.bif (λ_=>?_) λ_=>?_
theorem X6(d:bh):T (Jy d) λ_=>True:=by
 unfold Jy;have l1:∀(l:amx aB){f:Unit->amy amz},(∀u,T (f u) λ_=>True)->T ((bg (λ(i50:Nat)(v51:aB)=>λ(_:Unit)=>((bif (!v51.has)then((uf v51.arg).bind λv60=>some (!v60))else(some false):amy amz).bind (λ(a57:amz)=>bif a57 then(some (.inr (.inr false)))else(some (.inl ()))):amy (Unit⊕(Unit⊕amz)))) (λ(_:Unit)=>()) 0 l ()).bind (Sum.elim f some)) λ_=>True:=λl f hf=>
  T.dg (λ_ _=>True) trivial (λj x _ _ hx _ _=>T.seq (by repeat' first|exact T.some trivial|exact NA _|refine T.seq ?_ λ_=>?_|refine T.bif (λ_=>?_) λ_=>?_) λ_=>T.bif (λ_=>T.some (T.some trivial)) λ_=>T.some trivial) λ_ _=>hf _
 have l2:∀(l:amx bE){f:Unit->amy amz},(∀u,T (f u) λ_=>True)->T ((bg (λ(i62:Nat)(v63:bE)=>λ(_:Unit)=>((bif (!v63.me)then((uf v63.bx).bind λv72=>some (!v72))else(some false):amy amz).bind (λ(a69:amz)=>(bif a69 then(some true)else(bif (!v63.has)then((pI v63.default).bind λv77=>some (!v77))else(some false)):amy amz).bind (λ(a73:amz)=>bif a73 then(some (.inr (.inr false)))else(some (.inl ())))):amy (Unit⊕(Unit⊕amz)))) (λ(_:Unit)=>()) 0 l ()).bind (Sum.elim f some)) λ_=>True:=λl f hf=>
  T.dg (λ_ _=>True) trivial (λj x _ _ hx _ _=>T.seq (by repeat' first|exact T.some trivial|exact NA _|refine T.seq ?_ λ_=>?_|refine T.bif (λ_=>?_) λ_=>?_) λ_=>T.seq (by repeat' first|exact T.some trivial|exact BC _|refine T.seq ?_ λ_=>?_|refine T.bif (λ_=>?_) λ_=>?_) λ_=>T.bif (λ_=>T.some (T.some trivial)) λ_=>T.some trivial) λ_ _=>hf _
 repeat' first|exact T.some trivial|exact X5 _|exact BC _|exact NA _|refine l1 _ λ_=>?_|refine l2 _ λ_=>?_|refine T.seq ?_ λ_=>?_|refine T.bif (λ_=>?_) λ_=>?_
theorem Sc:{d n:Nat}->{a c:aa}->dz d a->d<=n->T (Dy n a c) λ_=>True
 |0,_,_,_,h,_=>h.elim
 |d+1,0,_,_,_,h=>absurd h (by omega)
 |d+1,n+1,a,c,h,hn=>by
  unfold Dy;refine T.seq ?_ λ_=>T.seq ?_ λ_=>T.seq ?_ λa7=>?_
  iterate 3 (repeat' first|exact T.some trivial|refine T.bif (λ_=>?_) λ_=>?_)
  refine T.step (P:=λr=>r=false->a.aG.length=c.aG.length) (T.bif (λ_=>T.some (by simp)) λ_=>T.some (by simp;omega)) λa10 h10=>T.bif (λ_=>T.some trivial) λe=>?_
  have hl:=h10 e;refine T.seq (XN _ _) λv=>T.seq ?_ λ_=>T.bif (λ_=>T.some trivial) λ_=>?_
  ·exact T.bif (λ_=>T.some trivial) λ_=>T.seq (XN _ _) λ_=>T.some trivial
  ·exact T.dg (λ_ _=>True) trivial (λj x _ _ hx hlt _=>T.eA ⟨by omega,by omega⟩ λy _ _=>T.seq (Sc (h.2 x hx) (by omega)) λ_=>T.bif (λ_=>T.some (T.some trivial)) λ_=>T.some trivial) λ_ _=>T.some trivial
theorem NB(e:aa):T (vn e) λr=>0<=r/\r<=8:=by
 unfold vn;refine T.bind (T.mono (P:=λr=>∃a,r= .inl a) (by repeat' first|exact T.some ⟨_,rfl⟩|refine T.bif (λ_=>?_) λ_=>?_) ?_);rintro _ ⟨a,rfl⟩;refine T.bif (λ_=>T.some (by decide)) λ_=>T.bif (λ_=>T.some (by decide)) λ_=>T.bif (λ_=>T.bif (λ_=>T.some (by decide)) λ_=>?_) λ_=>T.some (by decide)
 refine T.step (Nz _ _) λv hv=>T.eA ⟨by split<;>omega,by simp only[amA,amB]at hv |-;split<;>omega⟩ λy hy _=>T.some ?_
 have:∀y∈([1,2,4,4,4,4,5,5,5,6]:amx Int),0<=y/\y<=8:=by decide
 exact this y hy
theorem NC(e:aa)(k:Int):T (A9 e k) λ_=>True:=by
 unfold A9;refine T.seq ((NB e).mono λ_ _=>trivial) λ_=>?_
 repeat' first|exact T.some trivial|refine T.bif (λ_=>?_) λ_=>?_
theorem Sd:{d n:Nat}->{e:aa}->dz d e->d<=n->T (CV n e) λ_=>True
 |0,_,_,h,_=>h.elim
 |d+1,0,_,_,h=>absurd h (by omega)
 |d+1,n+1,e,h,hn=>by
  unfold CV;have h9:=h.1.2.2.2.2.2.1;refine T.seq (X4 h) λv=>?_
  refine T.ju (λm(s:Int×Int)=>0<=s.2/\s.2<=e.aG.length/\m=e.aG.length - s.2.toNat) (m:=e.aG.length) (by omega) ⟨by simp,by simp,by simp⟩ ?_;rintro m ⟨a2,a3⟩ ⟨g1,g2,rfl⟩;dsimp only at g1 g2 |-;refine T.step (P:=λr=>r=true->a3<e.aG.length) (T.bif (λc=>T.some λ_=>by simpa using c) λ_=>T.some (by simp)) λa7 h7=>T.bif (λc=>?_) λ_=>T.some (T.some trivial)
  have h8:=h7 c;have ew:IntKind.i64.wrap (a3+1)=a3+1:=by rw[amG];omega
  refine T.eA ⟨g1,h8⟩ λk hk _=>T.seq (Sd (h.2 k hk) (by omega)) λ_=>T.some ⟨_,?_,?_,?_,rfl⟩<;>(try simp only[ew])<;>omega
theorem Se:{d n:Nat}->{e:aa}->dz d e->d<=n->T (CW n e) λ_=>True
 |0,_,_,h,_=>h.elim
 |d+1,0,_,_,h=>absurd h (by omega)
 |d+1,n+1,e,h,hn=>by
  unfold CW;refine T.dg (λ_ _=>True) trivial (λj x s _ hx hlt _=>?_) λc _=>?_
  ·have t5:=(NB x).mono (Q:=λ_=>True) λ_ _=>trivial
   have tl:∀{c:amz}{v s:Int},T ((bif c then(some (.inl (IntKind.i64.wrap (v+1))))else(some (.inl v)):amy (Int⊕(Int⊕(Int⊕Int)))).bind (Sum.elim (λ(a14:Int)=>some (.inl (if s<a14 then a14 else s))) some)) (Sum.elim (λ_=>True) λq=>T (Sum.elim (λ(c7:Int)=>(bif (e.aj==(14:Int))then(some (bZ e.name (⟨#[110,111,116]⟩:amw)))else(some false):amy amz).bind (λ(a29:amz)=>(bif a29 then(some (.inl (IntKind.i64.wrap (c7+(1:Int)))))else(some (.inl c7)):amy (Int⊕Int)).bind (Sum.elim (λ(a32:Int)=>some a32) some))) some q) λ_=>True):=λ{c v s}=>T.bind (T.bif (λ_=>T.some (T.some trivial)) λ_=>T.some (T.some trivial))
   refine T.seq (Se (h.2 x hx) (by omega)) λv=>T.bif (λ_=>T.seq t5 λ_=>T.seq (NC _ _) λ_=>tl) λ_=>T.bif (λ_=>T.seq t5 λ_=>T.seq (NC _ _) λ_=>tl) λ_=>T.some trivial
  ·repeat' first|exact T.some trivial|refine T.seq ?_ λ_=>?_|refine T.bif (λ_=>?_) λ_=>?_|refine T.JP (λ_=>?_) λ_=>?_
theorem T81{d:Nat}{e:aa}(h:dz d e)(hd:d<=1000):T (DY e) λ_=>True:=by
 unfold DY;refine T.seq (Sd h (by omega)) λ_=>T.seq (T.bif (λ_=>T.seq (Se h (by omega)) λ_=>T.some trivial) λ_=>T.some trivial) λ_=>T.bif (λ_=>T.some trivial) λ_=>T.some trivial
theorem Sf{ns:amx amw}:{d n:Nat}->{t:ai}->eM ns d t->d<=n->T (Bx n t) λ_=>True
 |0,_,_,h,_=>h.elim
 |d+1,0,_,h,_=>by omega
 |d+1,n+1,t,h,hn=>by
  unfold Bx;have hnm:=h.2.2.2.2.1;have hns:=h.2.2.2.2.2.2.2.1;have l2:∀{i:Unit},T ((bg (λ(i52:Nat)(v53:ai)=>λ(_:Unit)=>((Bx n v53).bind λv59=>bif (v59 !=(0:Int))then(some (.inr (.inr v59)))else(some (.inl ())):amy (Unit⊕(Unit⊕Int)))) (λ(_:Unit)=>()) 0 t.aG ()).bind (Sum.elim (λ(_:Unit)=>some (0:Int)) some)) λ_=>True:=λ{_}=>
   T.dg (λ_ _=>True) trivial (λj x _ _ hx _ _=>T.seq (Sf (h.2.2.2.2.2.2.2.2 x hx) (by omega)) λ_=>T.bif (λ_=>T.some (T.some trivial)) λ_=>T.some trivial) λ_ _=>T.some trivial
  have h8:=h.2.2.2.2.2.1;have l1:∀{f:Unit->amy Int}{c1 c2:Int},(∀u,T (f u) λ_=>True)->T ((bg (λ(i40:Nat)(v41:amw)=>λ(_:Unit)=>((pB v41).bind λv47=>bif (!v47)then(some (.inr (.inr c1)))else(bif decide ((i40:Int)>(0:Int))then((au t.aF (IntKind.i64.wrap ((i40:Int) - (1:Int)))).bind λv50=>bif (uk v41 v50||bZ v41 v50)then(some (.inr (.inr c2)))else(some (.inl ())))else(some (.inl ()))):amy (Unit⊕(Unit⊕Int)))) (λ(_:Unit)=>()) 0 t.aF ()).bind (Sum.elim f some)) λ_=>True:=λ{f c1 c2}hf=>by
   refine T.dg (λ_ _=>True) trivial (λj x _ _ hx hlt _=>?_) λ_ _=>hf _
   refine T.seq (BB (hns x hx)) λ_=>T.bif (λ_=>T.some (T.some trivial)) λ_=>T.bif (λc=>?_) λ_=>T.some trivial
   have hj:0<j:=by simpa using c
   have ew:IntKind.i64.wrap ((j:Int) - 1)=j - 1:=by rw[amG];omega
   rw[ew];exact T.eA ⟨by omega,by omega⟩ λ_ _ _=>T.bif (λ_=>T.some (T.some trivial)) λ_=>T.some trivial
  repeat' first|exact T.some trivial|exact DE hnm|exact(Nz _ _).mono λ_ _=>trivial|exact l1 λ_=>l2 (i:=())|refine T.seq ?_ λ_=>?_|refine T.bif (λ_=>?_) λ_=>?_
theorem Sg{ns:amx amw}:{d n:Nat}->{t:ai}->eM ns d t->d<=n->T (Dw n t) λ_=>True
 |0,_,_,h,_=>h.elim
 |d+1,0,_,h,_=>by omega
 |d+1,n+1,t,h,hn=>by
  unfold Dw;exact T.dg (λ_ _=>True) trivial (λj x _ _ hx _ _=>T.seq (Sg (h.2.2.2.2.2.2.2.2 x hx) (by omega)) λ_=>T.some trivial) λ_ _=>T.some trivial
theorem lE{l:amx amw}{s:amw}{B:Nat}(hs:s.size<=2)(hl:l.length<=9)(hb:∀x∈l,x.size<=B)(hB:B<=900000000000000000):T (pJ l s) λr=>r.size<=9*(B+2):=by
 unfold pJ;refine T.dg (λj(a:amw)=>a.size<=j*(B+2)) (anp _) ?_ λc hc=>T.some ?_
 ·intro j x a _ hx hlt ha;have hx:=hb x hx;have hj:(j+1)*(B+2)=j*(B+2)+(B+2):=aof _ _;have hj2:j*(B+2)<=9*(B+2):=anc _ (by omega);refine T.bind (T.mono (P:=λr=>∃q:amw,r= .inl q/\q.size<=a.size+2) (T.bif (λ_=>T.dj (by omega) (T.some ⟨_,rfl,by rw[amF];omega⟩)) λ_=>T.some ⟨_,rfl,by omega⟩) ?_);rintro _ ⟨q,rfl,hq⟩;exact T.dj (by omega) (T.some (by dsimp only[Sum.elim_inl];rw[amF];omega))
 ·exact anH hc (anc _ hl)
def SB(d:Nat):Nat:=640*11 ^ d
theorem Ai(d:Nat):SB (d+1)=11*SB d:=by simp[SB,Nat.pow_succ];omega
theorem DF(d:Nat):640<=SB d:=by
 have:0<11 ^ d:=Nat.pos_of_ne_zero (by simp);simp only[SB];omega
theorem sB{d e:Nat}(h:d<=e):SB d<=SB e:=Nat.mul_le_mul_left _ (Nat.pow_le_pow_right (by decide) h)
theorem oo{d:Nat}(h:d<=13):SB d<=30000000000000000:=anH (sB h) (by decide)
theorem ND{ns:amx amw}:{d n:Nat}->{t:ai}->eM ns d t->d<=n->d<=13->T (By n t) λs=>s.size<=SB d
 |0,_,_,h,_,_=>h.elim
 |d+1,0,_,h,_,_=>by omega
 |d+1,n+1,t,h,hn,hd=>by
  unfold By;have h10:=Ai d;have hlo:=DF d;have hhi:=oo (d:=d) (by omega);have hn8:=N8 _ h.2.2.2.2.1;refine T.bind (T.mono (P:=λr=>∃a,r= .inl a/\(a=true->0<=t.aj/\t.aj<=2)) ?_ ?_)
  ·refine T.bif (λc=>T.some ⟨_,rfl,λ_=>?_⟩) λ_=>T.bif (λc=>T.some ⟨_,rfl,λ_=>?_⟩) λ_=>T.some ⟨_,rfl,λc=>?_⟩<;>simp at c<;>omega
  rintro _ ⟨a,rfl,ha⟩;refine T.bif (λc=>?_) λ_=>T.bif (λc=>?_) λ_=>T.bif (λc=>?_) λ_=>T.some (by omega)
  ·obtain⟨a0,a1⟩:=ha c;refine T.eA ⟨a0,by simp;omega⟩ λx hx _=>T.some ?_
   have:∀y∈([⟨#[73,110,116]⟩,⟨#[84,101,120,116]⟩,⟨#[66,111,111,108]⟩]:amx amw),y.size<=8:=by decide
   have:=this x hx;omega
  ·have hk:=h.2.2.1 (by simpa using c);refine T.eA ⟨by decide,by omega⟩ λx hx _=>T.step (ND (h.2.2.2.2.2.2.2.2 x hx) (by omega) (by omega)) λr hr=>T.dj ?_ (T.dj ?_ (T.some ?_))<;>(try simp only[amF])<;>(try simp only[show(⟨#[91]⟩:amw).size=1 from rfl,show(⟨#[93]⟩:amw).size=1 from rfl])<;>omega
  ·have hk:=h.2.2.2.1 (by simpa using c);have hns:=h.2.2.2.2.2.2.2.1;have hl8:=h.2.2.2.2.2.1;refine T.dg (λj(a:amx amw)=>a.length=j/\∀x∈a,x.size<=SB d+10) ⟨rfl,by simp⟩ ?_ ?_
   ·rintro j x a _ hx hlt ⟨g1,g2⟩;have hx8:=N8 _ (hns x hx);refine T.dj (by simp only[show(⟨#[58,32]⟩:amw).size=2 from rfl];omega) (T.eA ⟨by omega,by omega⟩ λk hk2 _=>T.step (ND (h.2.2.2.2.2.2.2.2 k hk2) (by omega) (by omega)) λr hr=>?_);have e1:(x++⟨#[58,32]⟩:amw).size=x.size+2:=by rw[amF];rfl
    have e2:(x++⟨#[58,32]⟩++r:amw).size=x.size+2+r.size:=by rw[amF,e1]
    exact T.dj (by omega) (T.ck (by simp;omega) (T.some ⟨by simp[g1],bT g2 (by omega)⟩))
   ·rintro c ⟨g1,g2⟩;refine T.bif (λ_=>T.some (by show(2:Nat)<=_;omega)) λ_=>T.step (lE (by decide) (by omega) g2 (by omega)) λr hr=>T.dj ?_ (T.dj ?_ (T.some ?_))<;>(try simp only[amF])<;>(try simp only[show(⟨#[123,32]⟩:amw).size=2 from rfl,show(⟨#[32,125]⟩:amw).size=2 from rfl])<;>omega
theorem X7{ns:amx amw}{d:Nat}{t:ai}(h:eM ns d t)(hd:d<=12):T (Jz t) λr=>r.1.size<=SB 12:=by
 unfold Jz;have:=sB hd;refine T.seq (Sf h (by omega)) λ_=>T.seq (T.bif (λ_=>T.seq (Sg h (by omega)) λ_=>T.some trivial) λ_=>T.some trivial) λ_=>T.bind (T.mono (P:=λr=>∃a,r= .inl a) (T.bif (λ_=>T.some ⟨_,rfl⟩) λ_=>T.some ⟨_,rfl⟩) ?_)
 rintro _ ⟨a,rfl⟩;exact T.bif (λ_=>T.some (anp _)) λ_=>T.step (ND h (by omega) (by omega)) λr hr=>T.some (by dsimp only;omega)
theorem mG{d:Nat}{e:aa}(h:dz d e):T (vB e) λr=>r.length=e.aF.length/\∀x∈r,x.size<=30:=by
 cases d with
 |zero=>exact h.elim
 |succ d=>
  have hs:=h.1;have h13:=hs.2.2.2.2.2.2.2.2.2.2.2.2.2.2.2.1;unfold vB;have z1:(⟨#[32,60,45,32]⟩:amw).size=4:=rfl;have z2:(⟨#[40]⟩:amw).size=1:=rfl;have z3:(⟨#[41]⟩:amw).size=1:=rfl;have z4:(⟨#[32,45,62,32]⟩:amw).size=4:=rfl;have z5:(⟨#[32,61,32]⟩:amw).size=3:=rfl;refine T.dg (λj(a:amx amw)=>a.length=j/\∀x∈a,x.size<=30) ⟨rfl,by simp⟩ ?_ λc hc=>T.some hc
  rintro j x a _ hx hlt ⟨g1,g2⟩;have hx8:=N8 _ (hs.2.2.2.2.2.2.1 x hx);have hl8:=hs.2.2.2.1;refine T.bind (T.mono (P:=λr=>∃q:amw,r= .inl q/\q.size<=30) ?_ ?_)
  ·refine T.bif (λ_=>T.bif (λ_=>T.dj (by omega) (T.some ⟨_,rfl,by rw[amF];omega⟩)) λ_=>T.some ⟨_,rfl,by omega⟩) λ_=>T.bif (λc=>?_) λ_=>T.dj (by omega) (T.some ⟨_,rfl,by rw[amF];omega⟩)
   have hb:=(h13 (by simpa using c)).2;refine T.eA ⟨by omega,by omega⟩ λb hbm _=>?_
   refine T.bind (T.mono (P:=λr=>∃q:amw,r= .inl q/\q.size<=20) (T.bif (λ_=>T.dj (by omega) (T.eA ⟨by omega,by omega⟩ λb2 hb2 _=>?_)) λ_=>T.some ⟨_,rfl,by omega⟩) ?_)
   ·have hb8:=N8 _ (hs.2.2.2.2.2.2.2.1 b2 hb2);have e1:(x++⟨#[40]⟩:amw).size=x.size+1:=by rw[amF];rfl
    have e2:(x++⟨#[40]⟩++b2:amw).size=x.size+1+b2.size:=by rw[amF,e1]
    exact T.dj (by omega) (T.dj (by omega) (T.some ⟨_,rfl,by rw[amF];omega⟩))
   ·rintro _ ⟨q,rfl,hq⟩;exact T.dj (by omega) (T.some ⟨_,rfl,by rw[amF];omega⟩)
  ·rintro _ ⟨q,rfl,hq⟩;exact T.ck (by simp;omega) (T.some ⟨by simp[g1],bT g2 hq⟩)
theorem dz.n{d:Nat}{e:aa}(h:dz d e):eo e.name/\eo e.s:=by
 cases d with
 |zero=>exact h.elim
 |succ d=>exact⟨h.1.2.1,h.1.2.2.1⟩
section
variable {d n:Nat}(ih:∀e,dz d e->T (ug n e) λs=>s.size<=SB d)
include ih
theorem lF{e:aa}{k:Int}(h:dz (d+1) e)(hd:d<=12)(h0:0<=k)(h1:k<e.aG.length):T (kB (n+1) e k) λs=>s.size<=SB d+2:=by
 unfold kB;have hhi:=oo (d:=d) (by omega);have z2:(⟨#[40]⟩:amw).size=1:=rfl;have z3:(⟨#[41]⟩:amw).size=1:=rfl;refine T.eA ⟨h0,h1⟩ λx hx _=>T.step (ih x (h.2 x hx)) λr hr=>T.eA ⟨h0,h1⟩ λy hy _=>T.seq ((NB y).mono λ_ _=>trivial) λ_=>T.seq (NC _ _) λ_=>T.bif (λ_=>?_) λ_=>T.some (by omega)
 have e1:(⟨#[40]⟩++r:amw).size=1+r.size:=by rw[amF];rfl
 exact T.dj (by omega) (T.dj (by omega) (T.some (by rw[amF];omega)))
theorem eF{e:aa}{k:Int}{l:amx amw}(h:dz (d+1) e)(hd:d<=12)(h0:0<=k)(h1:k<=1)(hl:∀x∈l,x.size<=30):T (sx (n+2) e k l) λr=>r.length<=9/\∀x∈r,x.size<=SB d+32:=by
 unfold sx;have h9:=h.1.2.2.2.2.2.1;have hhi:=oo (d:=d) (by omega);refine T.ju (λm(s:amx amw×Int)=>k<=s.2/\m=9 - s.2.toNat/\(s.2<=9)/\s.1.length=(s.2 - k).toNat/\∀x∈s.1,x.size<=SB d+32) (m:=9 - k.toNat) (by omega) ⟨by simp,by simp,by dsimp only;omega,by simp,by simp⟩ ?_;rintro m ⟨a1,a2⟩ ⟨g1,rfl,g2,g3,g4⟩;dsimp only at g1 g2 g3 g4 |-;refine T.bif (λc=>?_) λ_=>T.some (T.some ⟨by omega,g4⟩)
 have hlt:a2<e.aG.length:=by simpa using c
 have e1:IntKind.i64.wrap (a2 - k)=a2 - k:=by rw[amG];omega
 have e2:IntKind.i64.wrap (a2+1)=a2+1:=by rw[amG];omega
 rw[e1];refine T.bind (T.mono (P:=λr=>∃q:amw,r= .inl q/\q.size<=30) (T.bif (λc2=>T.eA ⟨by omega,by simpa using c2⟩ λx hx _=>T.some ⟨_,rfl,hl x hx⟩) λ_=>T.some ⟨_,rfl,anp _⟩) ?_);rintro _ ⟨q,rfl,hq⟩;refine T.step (lF ih h hd (by omega) hlt) λr hr=>T.dj (by omega) (T.ck (by simp;omega) (T.some ⟨9 - (a2+1).toNat,?_,?_,?_,?_,?_,bT g4 (by rw[amF];omega)⟩))<;>(try simp only[e2,amO,amA,amB])<;>omega
end
theorem jg(l:amx UInt8):(ByteArray.mk l.toArray).size=l.length:=rfl
theorem NE:{d n:Nat}->{e:aa}->dz d e->3*d<=n->d<=13->T (ug n e) λs=>s.size<=SB d
 |0,_,_,h,_,_=>h.elim
 |d+1,0,_,_,h,_=>absurd h (by omega)
 |d+1,1,_,_,h,_=>absurd h (by omega)
 |d+1,2,_,_,h,_=>absurd h (by omega)
 |d+1,n+3,e,h,hn,hd=>by
  have i0:∀e,dz d e->T (ug n e) λs=>s.size<=SB d:=λe he=>NE he (by omega) (by omega)
  have i1:∀e,dz d e->T (ug (n+1) e) λs=>s.size<=SB d:=λe he=>NE he (by omega) (by omega)
  have hd:d<=12:=by omega
  have h10:=Ai d;have hlo:=DF d;have hhi:=oo (d:=d) (by omega);have hn8:=N8 _ h.n.1;have hs8:=N8 _ h.n.2;obtain⟨_,_,_,_,_,h9,_,_,hnn,k6,k7,k8,k10,k11,k12,k13,k14,k5⟩:=h.1;unfold ug;refine T.bif (λ_=>?_) λn0=>T.bif (λ_=>?_) λn1=>T.bif (λ_=>?_) λn2=>T.bif (λ_=>?_) λn3=>T.bif (λ_=>?_) λn4=>T.bif (λc=>?_) λn5=>T.bif (λc=>?_) λn6=>T.bif (λc=>?_) λn7=>T.bif (λc=>?_) λn8=>T.bif (λc=>?_) λn9=>T.bif (λc=>?_) λn10=>T.bif (λc=>?_) λn11=>T.bif (λc=>?_) λn12=>T.bif (λc=>?_) λn13=>T.bif (λc=>?_) λn14=>?_
  ·exact T.step (ZO hnn) λs hs=>T.some (by omega)
  ·repeat' first|exact T.some (by first|(show(_:Nat)<=_;simp only[amF,jg,amA,amB];omega)|(show(_:Nat)<=_;omega))|refine T.dj (by simp only[amF,jg,amA,amB];omega) ?_|refine T.step (lF i1 h hd (by decide) (by omega)) λr hr=>?_|refine T.step (mG h) λl hl=>?_|refine T.step (eF i0 h hd (by decide) (by decide) (by assumption)) λl hl=>?_|refine T.step (eF i0 h hd (by decide) (by decide) (amU (by assumption))) λl hl=>?_|refine T.step (eF i0 h hd (by decide) (by decide) (by simp)) λl hl=>?_|refine T.step (lE (B:=SB d+32) (by decide) (ani (by assumption)) (amU (by assumption)) (by omega)) λr hr=>?_|refine T.bif (λ_=>?_) λ_=>?_
  ·refine T.step (TM ⟨by omega,by omega⟩ (by decide)) λv hv=>T.eA ⟨hv.1,by simp;omega⟩ λx hx _=>T.some ?_
   have:∀y∈([⟨#[102,97,108,115,101]⟩,⟨#[116,114,117,101]⟩]:amx amw),y.size<=8:=by decide
   have:=this x hx;omega
  ·exact T.some (by omega)
  ·repeat' first|exact T.some (by first|(show(_:Nat)<=_;simp only[amF,jg,amA,amB];omega)|(show(_:Nat)<=_;omega))|refine T.dj (by simp only[amF,jg,amA,amB];omega) ?_|refine T.step (lF i1 h hd (by decide) (by omega)) λr hr=>?_|refine T.step (mG h) λl hl=>?_|refine T.step (eF i0 h hd (by decide) (by decide) (by assumption)) λl hl=>?_|refine T.step (eF i0 h hd (by decide) (by decide) (amU (by assumption))) λl hl=>?_|refine T.step (eF i0 h hd (by decide) (by decide) (by simp)) λl hl=>?_|refine T.step (lE (B:=SB d+32) (by decide) (ani (by assumption)) (amU (by assumption)) (by omega)) λr hr=>?_|refine T.bif (λ_=>?_) λ_=>?_
  ·refine T.bif (λ_=>T.some (by omega)) λc0=>?_
   have hk:e.aG.length≠0:=by simpa using c0
   repeat' first|exact T.some (by first|(show(_:Nat)<=_;simp only[amF,jg,amA,amB];omega)|(show(_:Nat)<=_;omega))|refine T.dj (by simp only[amF,jg,amA,amB];omega) ?_|refine T.step (lF i1 h hd (by decide) (by omega)) λr hr=>?_|refine T.step (mG h) λl hl=>?_|refine T.step (eF i0 h hd (by decide) (by decide) (by assumption)) λl hl=>?_|refine T.step (eF i0 h hd (by decide) (by decide) (amU (by assumption))) λl hl=>?_|refine T.step (eF i0 h hd (by decide) (by decide) (by simp)) λl hl=>?_|refine T.step (lE (B:=SB d+32) (by decide) (ani (by assumption)) (amU (by assumption)) (by omega)) λr hr=>?_|refine T.bif (λ_=>?_) λ_=>?_
  ·repeat' first|exact T.some (by first|(show(_:Nat)<=_;simp only[amF,jg,amA,amB];omega)|(show(_:Nat)<=_;omega))|refine T.dj (by simp only[amF,jg,amA,amB];omega) ?_|refine T.step (lF i1 h hd (by decide) (by omega)) λr hr=>?_|refine T.step (mG h) λl hl=>?_|refine T.step (eF i0 h hd (by decide) (by decide) (by assumption)) λl hl=>?_|refine T.step (eF i0 h hd (by decide) (by decide) (amU (by assumption))) λl hl=>?_|refine T.step (eF i0 h hd (by decide) (by decide) (by simp)) λl hl=>?_|refine T.step (lE (B:=SB d+32) (by decide) (ani (by assumption)) (amU (by assumption)) (by omega)) λr hr=>?_|refine T.bif (λ_=>?_) λ_=>?_
  ·have hk:=k7 (by simpa using c)
   repeat' first|exact T.some (by first|(show(_:Nat)<=_;simp only[amF,jg,amA,amB];omega)|(show(_:Nat)<=_;omega))|refine T.dj (by simp only[amF,jg,amA,amB];omega) ?_|refine T.step (lF i1 h hd (by decide) (by omega)) λr hr=>?_|refine T.step (mG h) λl hl=>?_|refine T.step (eF i0 h hd (by decide) (by decide) (by assumption)) λl hl=>?_|refine T.step (eF i0 h hd (by decide) (by decide) (amU (by assumption))) λl hl=>?_|refine T.step (eF i0 h hd (by decide) (by decide) (by simp)) λl hl=>?_|refine T.step (lE (B:=SB d+32) (by decide) (ani (by assumption)) (amU (by assumption)) (by omega)) λr hr=>?_|refine T.bif (λ_=>?_) λ_=>?_
  ·have hk:=k8 (by simpa using c)
   repeat' first|exact T.some (by first|(show(_:Nat)<=_;simp only[amF,jg,amA,amB];omega)|(show(_:Nat)<=_;omega))|refine T.dj (by simp only[amF,jg,amA,amB];omega) ?_|refine T.step (lF i1 h hd (by decide) (by omega)) λr hr=>?_|refine T.step (mG h) λl hl=>?_|refine T.step (eF i0 h hd (by decide) (by decide) (by assumption)) λl hl=>?_|refine T.step (eF i0 h hd (by decide) (by decide) (amU (by assumption))) λl hl=>?_|refine T.step (eF i0 h hd (by decide) (by decide) (by simp)) λl hl=>?_|refine T.step (lE (B:=SB d+32) (by decide) (ani (by assumption)) (amU (by assumption)) (by omega)) λr hr=>?_|refine T.bif (λ_=>?_) λ_=>?_
  ·repeat' first|exact T.some (by first|(show(_:Nat)<=_;simp only[amF,jg,amA,amB];omega)|(show(_:Nat)<=_;omega))|refine T.dj (by simp only[amF,jg,amA,amB];omega) ?_|refine T.step (lF i1 h hd (by decide) (by omega)) λr hr=>?_|refine T.step (mG h) λl hl=>?_|refine T.step (eF i0 h hd (by decide) (by decide) (by assumption)) λl hl=>?_|refine T.step (eF i0 h hd (by decide) (by decide) (amU (by assumption))) λl hl=>?_|refine T.step (eF i0 h hd (by decide) (by decide) (by simp)) λl hl=>?_|refine T.step (lE (B:=SB d+32) (by decide) (ani (by assumption)) (amU (by assumption)) (by omega)) λr hr=>?_|refine T.bif (λ_=>?_) λ_=>?_
  ·have hk:=k10 (by simpa using c)
   repeat' first|exact T.some (by first|(show(_:Nat)<=_;simp only[amF,jg,amA,amB];omega)|(show(_:Nat)<=_;omega))|refine T.dj (by simp only[amF,jg,amA,amB];omega) ?_|refine T.step (lF i1 h hd (by decide) (by omega)) λr hr=>?_|refine T.step (mG h) λl hl=>?_|refine T.step (eF i0 h hd (by decide) (by decide) (by assumption)) λl hl=>?_|refine T.step (eF i0 h hd (by decide) (by decide) (amU (by assumption))) λl hl=>?_|refine T.step (eF i0 h hd (by decide) (by decide) (by simp)) λl hl=>?_|refine T.step (lE (B:=SB d+32) (by decide) (ani (by assumption)) (amU (by assumption)) (by omega)) λr hr=>?_|refine T.bif (λ_=>?_) λ_=>?_
  ·have hk:=k11 (by simpa using c)
   repeat' first|exact T.some (by first|(show(_:Nat)<=_;simp only[amF,jg,amA,amB];omega)|(show(_:Nat)<=_;omega))|refine T.dj (by simp only[amF,jg,amA,amB];omega) ?_|refine T.step (lF i1 h hd (by decide) (by omega)) λr hr=>?_|refine T.step (mG h) λl hl=>?_|refine T.step (eF i0 h hd (by decide) (by decide) (by assumption)) λl hl=>?_|refine T.step (eF i0 h hd (by decide) (by decide) (amU (by assumption))) λl hl=>?_|refine T.step (eF i0 h hd (by decide) (by decide) (by simp)) λl hl=>?_|refine T.step (lE (B:=SB d+32) (by decide) (ani (by assumption)) (amU (by assumption)) (by omega)) λr hr=>?_|refine T.bif (λ_=>?_) λ_=>?_
  ·have hk:=k12 (by simpa using c)
   repeat' first|exact T.some (by first|(show(_:Nat)<=_;simp only[amF,jg,amA,amB];omega)|(show(_:Nat)<=_;omega))|refine T.dj (by simp only[amF,jg,amA,amB];omega) ?_|refine T.step (lF i1 h hd (by decide) (by omega)) λr hr=>?_|refine T.step (mG h) λl hl=>?_|refine T.step (eF i0 h hd (by decide) (by decide) (by assumption)) λl hl=>?_|refine T.step (eF i0 h hd (by decide) (by decide) (amU (by assumption))) λl hl=>?_|refine T.step (eF i0 h hd (by decide) (by decide) (by simp)) λl hl=>?_|refine T.step (lE (B:=SB d+32) (by decide) (ani (by assumption)) (amU (by assumption)) (by omega)) λr hr=>?_|refine T.bif (λ_=>?_) λ_=>?_
  ·have hk:=(k13 (by simpa using c)).1
   repeat' first|exact T.some (by first|(show(_:Nat)<=_;simp only[amF,jg,amA,amB];omega)|(show(_:Nat)<=_;omega))|refine T.dj (by simp only[amF,jg,amA,amB];omega) ?_|refine T.step (lF i1 h hd (by decide) (by omega)) λr hr=>?_|refine T.step (mG h) λl hl=>?_|refine T.step (eF i0 h hd (by decide) (by decide) (by assumption)) λl hl=>?_|refine T.step (eF i0 h hd (by decide) (by decide) (amU (by assumption))) λl hl=>?_|refine T.step (eF i0 h hd (by decide) (by decide) (by simp)) λl hl=>?_|refine T.step (lE (B:=SB d+32) (by decide) (ani (by assumption)) (amU (by assumption)) (by omega)) λr hr=>?_|refine T.bif (λ_=>?_) λ_=>?_
  ·have hk:e.aG.length=2\/e.aG.length=1:=by rcases k14 (by simpa using c)with h|h;exact .inl h.1;exact .inr h.1
   refine T.bif (λc1=>?_) λc1=>?_
   ·have hk1:e.aG.length=1:=by simp at c1;omega
    repeat' first|exact T.some (by first|(show(_:Nat)<=_;simp only[amF,jg,amA,amB];omega)|(show(_:Nat)<=_;omega))|refine T.dj (by simp only[amF,jg,amA,amB];omega) ?_|refine T.step (lF i1 h hd (by decide) (by omega)) λr hr=>?_|refine T.step (mG h) λl hl=>?_|refine T.step (eF i0 h hd (by decide) (by decide) (by assumption)) λl hl=>?_|refine T.step (eF i0 h hd (by decide) (by decide) (amU (by assumption))) λl hl=>?_|refine T.step (eF i0 h hd (by decide) (by decide) (by simp)) λl hl=>?_|refine T.step (lE (B:=SB d+32) (by decide) (ani (by assumption)) (amU (by assumption)) (by omega)) λr hr=>?_|refine T.bif (λ_=>?_) λ_=>?_
   ·have hk1:e.aG.length=2:=by simp at c1;omega
    repeat' first|exact T.some (by first|(show(_:Nat)<=_;simp only[amF,jg,amA,amB];omega)|(show(_:Nat)<=_;omega))|refine T.dj (by simp only[amF,jg,amA,amB];omega) ?_|refine T.step (lF i1 h hd (by decide) (by omega)) λr hr=>?_|refine T.step (mG h) λl hl=>?_|refine T.step (eF i0 h hd (by decide) (by decide) (by assumption)) λl hl=>?_|refine T.step (eF i0 h hd (by decide) (by decide) (amU (by assumption))) λl hl=>?_|refine T.step (eF i0 h hd (by decide) (by decide) (by simp)) λl hl=>?_|refine T.step (lE (B:=SB d+32) (by decide) (ani (by assumption)) (amU (by assumption)) (by omega)) λr hr=>?_|refine T.bif (λ_=>?_) λ_=>?_
  ·repeat' first|exact T.some (by first|(show(_:Nat)<=_;simp only[amF,jg,amA,amB];omega)|(show(_:Nat)<=_;omega))|refine T.dj (by simp only[amF,jg,amA,amB];omega) ?_|refine T.step (lF i1 h hd (by decide) (by omega)) λr hr=>?_|refine T.step (mG h) λl hl=>?_|refine T.step (eF i0 h hd (by decide) (by decide) (by assumption)) λl hl=>?_|refine T.step (eF i0 h hd (by decide) (by decide) (amU (by assumption))) λl hl=>?_|refine T.step (eF i0 h hd (by decide) (by decide) (by simp)) λl hl=>?_|refine T.step (lE (B:=SB d+32) (by decide) (ani (by assumption)) (amU (by assumption)) (by omega)) λr hr=>?_|refine T.bif (λ_=>?_) λ_=>?_
theorem X8{d:Nat}{e:aa}(h:dz d e)(hd:d<=12):T (JF e) λr=>r.1.size<=SB 12:=by
 unfold JF;have:=sB hd;exact T.seq (T81 h (by omega)) λ_=>T.bif (λ_=>T.some (anp _)) λ_=>T.step (NE h (by omega) (by omega)) λr hr=>T.some (by dsimp only;omega)
end
end Go.Ab

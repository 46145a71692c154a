/- Plain laws. -/
import Derived.KernelRfl
import Derived.Test.YtlahelaeeahggaaGreatDoorV13
import Derived.Test.YtlahelaeeahggaaGreatDoorP2
set_option linter.all false
open Go Go.RowKit Go.Proofs
namespace Go.Ab
section
set_option linter.unusedVariables false
set_option linter.unusedSimpArgs false
def MB:Nat:=SB 12
def nE:MB=2008594161101440:=by decide
def sC{s x:amw}{e:Int}(h:s.size+x.size<=9223372036854775807):T (eb (aq.mk s e) x) λr=>r.size=s.size+x.size:=by
 unfold eb;exact T.dj h (T.some (amF ..))
def eL{s:amw}{l:amx UInt8}{e:Int}(h:s.size+l.length<=9223372036854775807):T (eb (aq.mk s e) ⟨l.toArray⟩) λr=>r.size=s.size+l.length:=sC h
def sD(w:aq)(e:Int):T (nL w e) λ_=>True:=by
 unfold nL
 repeat' first|exact T.some trivial|refine T.seq ?_ λ_=>?_|refine T.bif (λ_=>?_) λ_=>?_|refine T.JP (λ_=>?_) λ_=>?_
def Oq{α β γ:Type}{c:amz}{o:amy α}{v:α}{f:α->amy γ}{g:β->amy γ}{Q:γ->Prop}(h:T o λ_=>True)(k:∀a,T (f a) Q):T ((bif c then(o.bind λx=>some (.inl x))else(some (.inl v)):amy (α⊕β)).bind (Sum.elim f g)) Q:=T.bind (T.bif (λ_=>h.step λa _=>T.some (k a)) λ_=>T.some (k v))
def pN{s x:amw}{e:Int}(hx:eo x)(h:s.size<=9000000000000000000):T (m6 (aq.mk s e) x) λr=>r.1.size<=s.size+8:=by
 unfold m6;have:=N8 x hx;exact T.seq (BB hx) λ_=>Oq (sD _ _) λa=>T.step (sC (by dsimp only;omega)) λr hr=>T.some (by dsimp only at hr |-;omega)
def JQ{ns:amx amw}{s:amw}{e:Int}{d:Nat}{t:ai}(ht:eM ns d t)(hd:d<=12)(h:s.size<=9000000000000000000):T (vA (aq.mk s e) t) λr=>r.1.size<=s.size+MB:=by
 unfold vA;have:=nE;exact T.step (X7 ht hd) λv hv=>T.seq (sD _ _) λ_=>T.step (sC (by have:v.1.size<=MB:=hv;dsimp only;omega)) λr hr=>T.some (by have:v.1.size<=MB:=hv;dsimp only at hr |-;omega)
def vG{s:amw}{e:Int}{d:Nat}{t:aa}(ht:dz d t)(hd:d<=12)(h:s.size<=9000000000000000000):T (pK (aq.mk s e) t) λr=>r.1.size<=s.size+MB:=by
 unfold pK;have:=nE;exact T.step (X8 ht hd) λv hv=>T.seq (sD _ _) λ_=>T.step (sC (by have:v.1.size<=MB:=hv;dsimp only;omega)) λr hr=>T.some (by have:v.1.size<=MB:=hv;dsimp only at hr |-;omega)
def hX{γ β:Type}{c:amz}{s:amw}{e:Int}{l:amx UInt8}{f:amw->amy γ}{g:β->amy γ}{Q:γ->Prop}(h:s.size+l.length<=9223372036854775807)(k:∀r:amw,r.size<=s.size+l.length->T (f r) Q):
 T ((bif c then((eb (aq.mk s e) ⟨l.toArray⟩).bind λx=>some (.inl x))else(some (.inl s)):amy (amw⊕β)).bind (Sum.elim f g)) Q:=
 T.bind (T.bif (λ_=>(eL h).step λa ha=>T.some (k a (by omega))) λ_=>T.some (k s (by omega)))
def Sh{ns:amx amw}{s:amw}{e:Int}{ps:amx bE}(hl:ps.length<=3)(hp:∀p∈ps,Ny ns p)(h:s.size<=8000000000000000000):T (Dz (aq.mk s e) ps) λr=>r.1.size<=s.size+10*MB:=by
 unfold Dz;have:=nE;refine T.step (eL (by simp only[amA,amB];omega)) λr hr=>?_
 simp only[amA,amB]at hr;refine T.dg (λj(a:amw×Int)=>a.1.size<=s.size+1+j*(3*MB)) (by dsimp only;omega) ?_ ?_
 ·rintro j p ⟨a2,a3⟩ _ hpm hlt ha;have hw:=hp p hpm;dsimp only at ha |-;have hj:j*(3*MB)<=2*(3*MB):=anc _ (by omega);have hj1:(j+1)*(3*MB)=j*(3*MB)+3*MB:=aof _ _;refine T.bind (hX (by simp only[amA,amB];omega) λu hu=>?_);simp only[amA,amB]at hu;refine T.step (pN hw.name (by omega)) λv hv=>?_
  refine T.bind (T.mono (P:=λr=>∃q:amw×Int,r= .inl q/\q.1.size<=v.1.size+2+MB) (T.bif (λ_=>T.step (eL (by simp only[amA,amB];omega)) λx hx=>T.step (JQ hw.bx (by omega) (by simp only[amA,amB]at hx;omega)) λy hy=>T.some ⟨_,rfl,by simp only[amA,amB]at hx;dsimp only;omega⟩) λ_=>T.some ⟨_,rfl,by dsimp only;omega⟩) ?_);rintro _ ⟨⟨q1,q2⟩,rfl,hq⟩;dsimp only at hq;refine T.bif (λ_=>T.step (eL (by simp only[amA,amB];omega)) λx hx=>?_) λ_=>T.some (T.some (by show(_:Nat)<=_;dsimp only;omega))
  simp only[amA,amB]at hx;exact T.step (vG hw.default (by omega) (by omega)) λy hy=>T.some (T.some (by show(_:Nat)<=_;dsimp only;omega))
 ·rintro⟨a2,a3⟩ ha;dsimp only at ha |-;have hj:ps.length*(3*MB)<=3*(3*MB):=anc _ hl;refine T.step (eL (by simp only[amA,amB];omega)) λx hx=>T.some ?_
  simp only[amA,amB]at hx;dsimp only;omega
def X9{s:amw}{e:Int}{x:bO}(hx:JM x)(h:s.size<=8000000000000000000):T (JH (aq.mk s e) x) λr=>r.1.size<=s.size+3*MB:=by
 unfold JH;have:=nE;have cd:T (pI x.cond) λ_=>True:=BC _
 refine T.bind (T.mono (P:=λr=>∃q:amw×Int,r= .inl q/\q.1.size<=s.size+3*MB) ?_ ?_)
 ·refine T.bif (λ_=>?_) λ_=>T.bif (λ_=>?_) λ_=>T.bif (λ_=>?_) λ_=>T.seq (sD _ _) λ_=>T.some ⟨_,rfl,by dsimp only;omega⟩
  ·refine T.seq (T.bif (λ_=>T.some trivial) λ_=>T.seq (BC _) λ_=>T.some trivial) λ_=>Oq (sD _ _) λa=>?_
   refine T.step (eL (by simp only[amA,amB];omega)) λr hr=>?_
   simp only[amA,amB]at hr;refine T.step (pN hx.aD (by omega)) λr2 hr2=>T.step (eL (by simp only[amA,amB];omega)) λr3 hr3=>?_
   simp only[amA,amB]at hr3;exact T.step (vG hx.value (by omega) (by omega)) λr4 hr4=>T.some ⟨_,rfl,by dsimp only;omega⟩
  ·refine T.seq (BC _) λ_=>Oq (sD _ _) λa=>?_
   refine T.step (eL (by simp only[amA,amB];omega)) λr hr=>?_
   simp only[amA,amB]at hr;refine T.step (pN hx.aD (by omega)) λr2 hr2=>T.step (eL (by simp only[amA,amB];omega)) λr3 hr3=>?_
   simp only[amA,amB]at hr3;refine T.step (pN hx.bind (by omega)) λr4 hr4=>T.step (eL (by simp only[amA,amB];omega)) λr5 hr5=>?_
   simp only[amA,amB]at hr5;exact T.step (vG hx.cond (by omega) (by omega)) λr6 hr6=>T.some ⟨_,rfl,by dsimp only;omega⟩
  ·refine T.step (eL (by simp only[amA,amB];omega)) λr hr=>?_
   simp only[amA,amB]at hr;refine T.step (pN hx.aD (by omega)) λr2 hr2=>T.step (eL (by simp only[amA,amB];omega)) λr3 hr3=>?_
   simp only[amA,amB]at hr3;refine T.step (pN hx.bind (by omega)) λr4 hr4=>T.step (eL (by simp only[amA,amB];omega)) λr5 hr5=>?_
   simp only[amA,amB]at hr5;refine T.step (vG hx.cond (by omega) (by omega)) λr6 hr6=>T.step (eL (by simp only[amA,amB];omega)) λr7 hr7=>?_
   simp only[amA,amB]at hr7;exact T.step (vG hx.value (by omega) (by omega)) λr8 hr8=>T.some ⟨_,rfl,by dsimp only;omega⟩
 ·rintro _ ⟨⟨q1,q2⟩,rfl,hq⟩;exact T.some hq
def Ya{s:amw}{e:Int}{d:bh}(hs:Oo d.sum)(hn:eo d.name)(h:s.size<=8000000000000000000):T (JB (aq.mk s e) d) λr=>r.1.size<=s.size+10*MB:=by
 unfold JB;have:=nE;have:=N8 _ hn;refine T.dj (by simp only[amF,jg,amA,amB];omega) (T.dj (by simp only[amF,jg,amA,amB];omega) (T.step (sC (by simp only[amF,jg,amA,amB];omega)) λr hr=>?_));simp only[amF,jg,amA,amB]at hr;refine T.dg (λj(a:amw×Int)=>a.1.size<=s.size+16+j*(3*MB)) (by dsimp only;omega) ?_ ?_
 ·rintro j c ⟨a4,a5⟩ _ hc hlt ha;have hk:=hs.2.2 c hc;have h3:=hs.1;have:=N8 _ hk.1;dsimp only at ha |-;have hj:j*(3*MB)<=2*(3*MB):=anc _ (by omega);have hj1:(j+1)*(3*MB)=j*(3*MB)+3*MB:=aof _ _;refine T.bind (hX (by simp only[amA,amB];omega) λu hu=>T.seq (DE hk.1) λ_=>Oq (sD _ _) λa=>?_);simp only[amA,amB]at hu;refine T.step (sC (by omega)) λv hv=>T.bif (λ_=>T.step (eL (by simp only[amA,amB];omega)) λx hx=>?_) λ_=>T.some (T.some (by show(_:Nat)<=_;dsimp only;omega))
  simp only[amA,amB]at hx;refine T.step (JQ hk.2 (by omega) (by omega)) λy hy=>T.step (eL (by simp only[amA,amB];omega)) λz hz=>T.some (T.some ?_)
  simp only[amA,amB]at hz
  show(_:Nat)<=_;dsimp only;omega
 ·rintro⟨a4,a5⟩ ha;dsimp only at ha |-;have hj:d.sum.bG.length*(3*MB)<=3*(3*MB):=anc _ hs.1;exact T.some (by dsimp only;omega)
def Yb{ns:amx amw}{s:amw}{e:Int}{d:bh}(ht:Dc ns d.aD)(hn:eo d.name)(h:s.size<=8000000000000000000):T (JG (aq.mk s e) d) λr=>r.1.size<=s.size+20*MB:=by
 unfold JG;have:=nE;have:=N8 _ hn;obtain⟨t1,t2,t3,t4,t5,t6,t7,t8⟩:=ht;refine T.dj (by simp only[amF,jg,amA,amB];omega) (T.dj (by simp only[amF,jg,amA,amB];omega) (T.step (sC (by simp only[amF,jg,amA,amB];omega)) λr hr=>?_));simp only[amF,jg,amA,amB]at hr;refine T.dg (λj(a:amw×Int)=>a.1.size<=s.size+16+j*(2*MB)) (by dsimp only;omega) ?_ ?_
 ·rintro j c ⟨a4,a5⟩ _ hc hlt ha;have hk:=t3 c hc;dsimp only at ha |-;have hj:j*(2*MB)<=4*(2*MB):=anc _ (by omega);have hj1:(j+1)*(2*MB)=j*(2*MB)+2*MB:=aof _ _;refine hX (by simp only[amA,amB];omega) λu hu=>?_
  simp only[amA,amB]at hu;refine T.step (eL (by simp only[amA,amB];omega)) λv hv=>?_
  simp only[amA,amB]at hv;refine T.step (pN hk.1 (by omega)) λx hx=>T.step (eL (by simp only[amA,amB];omega)) λy hy=>?_
  simp only[amA,amB]at hy;exact T.step (JQ hk.2 (by omega) (by omega)) λz hz=>T.some (by show(_:Nat)<=_;dsimp only;omega)
 ·rintro⟨a4,a5⟩ ha;dsimp only at ha |-;have hj:d.aD.af.length*(2*MB)<=5*(2*MB):=anc _ t2;refine hX (by simp only[amA,amB];omega) λu hu=>?_
  simp only[amA,amB]at hu;refine T.step (eL (by simp only[amA,amB];omega)) λv hv=>?_
  simp only[amA,amB]at hv;refine T.dg (λj(a:amw×Int)=>a.1.size<=v.size+j*10) (by dsimp only;omega) ?_ ?_
  ·rintro j x ⟨a6,a7⟩ _ hx hlt hb;dsimp only at hb |-;refine hX (by simp only[amA,amB];omega) λw hw=>?_
   simp only[amA,amB]at hw;exact T.step (pN (t5 x hx) (by omega)) λy hy=>T.some (by show(_:Nat)<=_;dsimp only;omega)
  ·rintro⟨a6,a7⟩ hb;dsimp only at hb |-;refine T.step (eL (by simp only[amA,amB];omega)) λw hw=>?_
   simp only[amA,amB]at hw;refine T.dg (λj(a:amw×Int)=>a.1.size<=w.size+j*30) (by dsimp only;omega) ?_ ?_
   ·rintro j x ⟨a8,a9⟩ _ hx hlt hc;dsimp only at hc |-;have hk:=t7 x hx;refine T.step (eL (by simp only[amA,amB];omega)) λy hy=>?_
    simp only[amA,amB]at hy;refine T.step (pN hk.1 (by omega)) λz hz=>T.step (eL (by simp only[amA,amB];omega)) λq hq=>?_
    simp only[amA,amB]at hq;exact T.step (pN hk.2 (by omega)) λp hp=>T.some (by show(_:Nat)<=_;dsimp only;omega)
   ·rintro⟨a8,a9⟩ hc;dsimp only at hc |-;refine T.seq (Sc t8 (by decide)) λ_=>?_
    refine T.bind (T.mono (P:=λr=>∃q:amw×Int,r= .inl q/\q.1.size<=a8.size+8+MB) (T.bif (λ_=>T.step (eL (by simp only[amA,amB];omega)) λy hy=>T.step (vG t8 (by decide) (by simp only[amA,amB]at hy;omega)) λz hz=>T.some ⟨_,rfl,by simp only[amA,amB]at hy;dsimp only;omega⟩) λ_=>T.some ⟨_,rfl,by dsimp only;omega⟩) ?_);rintro _ ⟨⟨q1,q2⟩,rfl,hq⟩;exact T.some (by dsimp only at hq |-;omega)
def Yc{ns:amx amw}{s:amw}{e:Int}{d:bh}(hd:pr ns d)(h:s.size<=7000000000000000000):T (JI (aq.mk s e) d) λr=>r.1.size<=s.size+30*MB:=by
 unfold JI;have:=nE;have:=N8 _ hd.name;refine T.seq (X6 d) λ_=>Oq (sD _ _) λa=>T.seq (T.bif (λ_=>T.seq (DE hd.name) λ_=>T.some trivial) λ_=>T.some trivial) λ_=>T.seq (T.bif (λ_=>T.some trivial) λ_=>T.bif (λ_=>T.seq (BB hd.name) λ_=>T.some trivial) λ_=>T.some trivial) λ_=>Oq (sD _ _) λa16=>?_
 refine T.bind (T.mono (P:=λr=>∃q:amw×Int,r= .inl q/\q.1.size<=s.size+29*MB) ?_ ?_)
 ·dsimp only;refine T.bif (λ_=>T.step (Ya hd.sum hd.name (by omega)) λr hr=>T.some ⟨_,rfl,by dsimp only;omega⟩) λ_=>T.bif (λ_=>T.step (Yb hd.aD hd.name (by omega)) λr hr=>T.some ⟨_,rfl,by dsimp only;omega⟩) λ_=>T.bif (λ_=>?_) λ_=>T.bif (λ_=>?_) λ_=>T.some ⟨_,rfl,by dsimp only;omega⟩
  ·refine T.dj (by simp only[jg,amA,amB];omega) (T.step (sC (by simp only[amF,jg,amA,amB];omega)) λr hr=>?_);simp only[amF,jg,amA,amB]at hr;refine T.step (Sh hd.pl hd.params (by omega)) λp hp=>?_
   refine T.bind (T.mono (P:=λr=>∃q:amw×Int,r= .inl q/\q.1.size<=p.1.size+2+MB) (T.bif (λ_=>T.step (eL (by simp only[amA,amB];omega)) λy hy=>T.step (JQ hd.bx (by decide) (by simp only[amA,amB]at hy;omega)) λz hz=>T.some ⟨_,rfl,by simp only[amA,amB]at hy;dsimp only;omega⟩) λ_=>T.some ⟨_,rfl,by dsimp only;omega⟩) ?_);rintro _ ⟨⟨q1,q2⟩,rfl,hq⟩;dsimp only at hq;refine T.step (eL (by simp only[amA,amB];omega)) λy hy=>?_
   simp only[amA,amB]at hy;exact T.step (vG hd.body (by decide) (by omega)) λz hz=>T.some ⟨_,rfl,by dsimp only;omega⟩
  ·refine T.dj (by simp only[jg,amA,amB];omega) (T.step (sC (by simp only[amF,jg,amA,amB];omega)) λr hr=>?_);simp only[amF,jg,amA,amB]at hr;refine T.step (Sh hd.pl hd.params (by omega)) λp hp=>T.step (eL (by simp only[amA,amB];omega)) λy hy=>?_
   simp only[amA,amB]at hy;refine T.dg (λj(a:amw×Int)=>a.1.size<=y.size+j*(4*MB)) (by dsimp only;omega) ?_ ?_
   ·rintro j x ⟨a4,a5⟩ _ hx hlt ha;dsimp only at ha |-;have hsl:=hd.sl;have hj:j*(4*MB)<=2*(4*MB):=anc _ (by omega);have hj1:(j+1)*(4*MB)=j*(4*MB)+4*MB:=aof _ _;refine hX (by simp only[amA,amB];omega) λu hu=>?_
    simp only[amA,amB]at hu;exact T.step (X9 (hd.mf x hx) (by omega)) λz hz=>T.some (by show(_:Nat)<=_;dsimp only;omega)
   ·rintro⟨a4,a5⟩ ha;dsimp only at ha |-;have hj:d.mf.length*(4*MB)<=3*(4*MB):=anc _ hd.sl;exact T.some ⟨_,rfl,by dsimp only;omega⟩
 ·rintro _ ⟨⟨q1,q2⟩,rfl,hq⟩;dsimp only at hq;refine T.step (eL (by simp only[amA,amB];omega)) λy hy=>T.some ?_
  simp only[amA,amB]at hy;dsimp only;omega
def T45{ns:amx amw}{m:aK}(hl:m.cb.length<=20)(hd:∀d∈m.cb,pr ns d):T (TB m) λ_=>True:=by
 unfold TB;have:=nE;refine T.dg (λj(a:amw×Int)=>a.1.size<=j*(30*MB)) (anp _) ?_ λc _=>T.bif (λ_=>T.some trivial) λ_=>T.some trivial
 rintro j d ⟨a1,a2⟩ _ hdm hlt ha;dsimp only at ha |-;have hj:j*(30*MB)<=20*(30*MB):=anc _ (by omega);have hj1:(j+1)*(30*MB)=j*(30*MB)+30*MB:=aof _ _;exact T.step (Yc (hd d hdm) (by omega)) λr hr=>T.some (by show(_:Nat)<=_;dsimp only;omega)
end
section
set_option linter.unusedVariables false
set_option linter.unusedSimpArgs false
set_option maxRecDepth 100000
def U{α:Type}(c:Prop)(o:amy α)(Q:α->Prop):Prop:=T o Q\/(o=none/\c)
def U.step{α β:Type}{c:Prop}{o:amy α}{f:α->amy β}{P:α->Prop}{Q:β->Prop}(h:T o P)(k:∀a,P a->U c (f a) Q):U c (o.bind f) Q:=by
 obtain⟨a,rfl,h⟩:=h;exact k a h
def U.Si{α β:Type}{c:Prop}{o:amy α}{f:α->amy β}{P:α->Prop}{Q:β->Prop}(h:U c o P)(k:∀a,P a->T (f a) Q):U c (o.bind f) Q:=by
 rcases h with h|⟨rfl,hc⟩
 ·exact .inl (h.step k)
 ·exact .inr ⟨rfl,hc⟩
def U.aP{σ ρ:Type}{c:Prop}{step:σ->amy (σ⊕ρ)}(I:Nat->σ->Prop){Q:ρ->Prop}:
 {n m:Nat}->{s:σ}->m<n->I m s->(∀m s,I m s->U c (step s) (Sum.elim (λs=>∃k,k<m/\I k s) λr=>Q r))->U c (aP step n s) Q
 |0,_,_,h,_,_=>absurd h (Nat.not_lt_zero _)
 |n+1,m,s,h,hI,hr=>by
  unfold Ab.aP;rcases hr m s hI with⟨a,e,ha⟩|⟨e,hc⟩
  ·rw[e];cases a with
   |inl s'=>obtain⟨k,hk,hI'⟩:=ha;exact U.aP I (by omega) hI' hr
   |inr r=>exact .inl ⟨_,rfl,ha⟩
  ·exact .inr ⟨by rw[e];rfl,hc⟩
def U.bif{α:Type}{c:Prop}{b:amz}{x y:amy α}{Q:α->Prop}(h:b=true->U c x Q)(k:b=false->U c y Q):U c (bif b then x else y) Q:=by
 cases b
 ·exact k rfl
 ·exact h rfl
theorem U.aS{β:Type}{c p:Prop}[Decidable p]{f:Unit->amy β}{Q:β->Prop}(h:p)(k:U c (f ()) Q):U c ((Ab.aS p).bind f) Q:=by
 unfold Ab.aS;rw[amH h];exact k
def U.eA{α β:Type}{c:Prop}{xs:amx α}{i:Int}{f:α->amy β}{Q:β->Prop}(h:0<=i/\i<xs.length)(k:∀x,x∈xs->U c (f x) Q):U c ((au xs i).bind f) Q:=by
 obtain⟨x,e,_,hm⟩:=qm h.1 h.2;rw[e];exact k x hm
def fW(s:ar):bh:=bh.mk 0 s.name s R9 [] false (la 0) (D8 0 0) [] 0 0 0
def gK(t:ac):bh:=bh.mk 1 t.name R8 t [] false (la 0) (D8 0 0) [] 0 0 0
def JR(ns:amx amw)(f:aU):Prop:=eo f.name/\eo f.cC/\f.params.length<=3/\(0<=f.gr/\f.gr<=f.params.length)/\(∀p∈f.params,eM ns 3 p)/\eM ns 3 f.lz
def vH:amw:=⟨#[97,112,112]⟩
def pe:amw:=⟨#[98,97,115,101]⟩
def Aj:amw:=⟨#[115,99,104,101,109,97]⟩
structure sQ(r:ay×List aK)(q:DP)(aga ae6:List bh):Prop where
 ok:q.ok
 aN:r.1.aN=q.aN
 am:r.1.am=q.am
 fn:r.1.cK.length<=16
 cK:∀f∈r.1.cK,JR (eT q.aN) f
 BD:r.2=[⟨vH,aga⟩,⟨pe,(q.aN.drop 1).map fW++ae6⟩,⟨Aj,fW ⟨gk,q.bG⟩::q.am.map gK⟩]
 al:aga.length<=12
 bl:ae6.length<=10
 app:∀d∈aga,pr (eT q.aN) d/\(d.aj=2\/d.aj=3)
 cj:∀d∈ae6,pr (eT q.aN) d/\d.aj=2
def KJ{ns:amx amw}{s:ar}(h:Oo s):pr ns (fW s):=⟨by simp[fW],h.2.1,h,JO,by simp[fW],by simp[fW],dR (by decide),uz (by decide),by simp[fW],by simp[fW]⟩
def Sj{ns:amx amw}{t:ac}(h:Dc ns t):pr ns (gK t):=⟨by simp[gK],h.1,JN,h,by simp[gK],by simp[gK],dR (by decide),uz (by decide),by simp[gK],by simp[gK]⟩
def WB.Ak{l:amx Int}{ss:amx ar}{ts:amx ac}{fs:amx aU}(h:WB l ss ts [])(hl:fs.length<=16)(hf:∀f∈fs,JR (eT ss) f):WB l ss ts fs:=⟨h.l,h.sn,h.tn,hl,h.s,h.t,hf⟩
def sQ.vI{r:ay×amx aK}{q:DP}{ad bd:amx bh}(h:sQ r q ad bd):∀m∈r.2,m.cb.length<=20/\∀d∈m.cb,pr (eT q.aN) d:=by
 have s1:(q.aN.drop 1).length<=1:=by cases e:q.sh<;>simp[DP.aN,e]
 have t1:q.am.length<=3:=by cases e:q.cL<;>simp[DP.am,e]
 have hb:=h.bl;have ha:=h.al;intro m hm;rw[h.BD]at hm;simp only[amE,amP,amQ]at hm;rcases hm with rfl|rfl|rfl
 ·exact⟨by dsimp only;omega,λd hd=>(h.app d hd).1⟩
 ·refine⟨by simp only[amO,amJ];omega,λd hd=>?_⟩;rcases amZ.1 hd with hd|hd
  ·obtain⟨s,hs,rfl⟩:=am3.1 hd;exact KJ (DP.DD h.ok s (aob hs)).1
  ·exact(h.cj d hd).1
 ·refine⟨by simp only[amA,amJ];omega,λd hd=>?_⟩;rcases amE.1 hd with rfl|hd
  ·exact KJ (DP.DD h.ok _ (by simp[DP.aN])).1
  ·obtain⟨t,ht,rfl⟩:=am3.1 hd;exact Sj (DP.KI h.ok t ht)
def pO(l:amx Int):amx Int:=(l.drop (0:Int).toNat).take ((IntKind.i64.wrap (((l.map (AV.int .i64)).length:Int).tdiv 2)).toNat - (0:Int).toNat)
def DG{ns:amx amw}{f:aU}{m:amw}(hm:eo m)(h:eo f.name/\f.cC=m/\f.params.length<=3/\(0<=f.gr/\f.gr<=f.params.length)/\(∀p∈f.params,eM ns 3 p)/\eM ns 3 f.lz):JR ns f:=⟨h.1,h.2.1▸hm,h.2.2⟩
def Yd{n:Nat}{l:amx Int}(hl:∀x∈l,kj x)(hlen:l.length<9000000000000000000)(aiK:∀b,sN n (pO l)=some b->∃q ad bd,sQ b q ad bd):
 U (sN n (pO l)=none) (sN (n+1) l) λr=>∃q ad bd,sQ r q ad bd:=by
 generalize hc0:(sN n (pO l)=none)=c0;unfold sN;refine U.step (T39 (b:=ay.mk _ _ _ _ _ _) hl) ?_;rintro⟨i1,ss,ts⟩ ⟨q,hq,e1,e2⟩;dsimp only at e1 e2;subst e1;subst e2;have wb0:=DP.wb hq hl;have t1:q.am.length<=3:=by cases e:q.cL<;>simp[DP.am,e]
 have t2:2<=q.am.length:=by cases e:q.cL<;>simp[DP.am,e]
 have s1:(q.aN.drop 1).length<=1:=by cases e:q.sh<;>simp[DP.aN,e]
 have tc:∀t∈q.am,1<=t.af.length:=λt ht=>by
  simp only[DP.am,amZ,amE,amP,amQ]at ht;rcases ht with(rfl|rfl)|ht
  ·simp[DP.cf,DP.gd]
  ·simp[DP.gl,DP.nD]
  ·cases e:q.cL<;>rw[e]at ht<;>simp at ht;subst ht;simp[iw]
 refine U.step (P:=λr=>r= .inl ([fW ⟨gk,q.bG⟩],(q.aN.drop 1).map fW)) ?_ ?_
 ·cases e:q.sh with
  |none=>
   refine⟨_,?_,rfl⟩;simp only[DP.aN,e];kernel_rfl
  |some b=>
   refine⟨_,?_,rfl⟩;simp only[DP.aN,e];kernel_rfl
 rintro _ rfl;refine U.step (P:=λr=>r= .inl (fW ⟨gk,q.bG⟩::q.am.map gK)) ?_ ?_
 ·refine T.mono (P:=λr=>∃a,r= .inl a/\a=[fW ⟨gk,q.bG⟩]++q.am.map gK) (T.bg (λj(a:amx bh)=>a=[fW ⟨gk,q.bG⟩]++(q.am.take j).map gK) (by simp) ?_ ?_) ?_
  ·intro j t a _ hj ha;rw[Nat.sub_zero]at hj;have hlt:=(an5.1 hj).1;refine T.ck (by subst ha;simp only[amO,amA,amB,amJ,ant];omega) (T.some ?_)
   show _=_
   subst ha;rw[anA,hj];simp[gK]
  ·intro a ha;exact⟨_,rfl,by rw[ha,anE,anz]⟩
  ·rintro _ ⟨a,rfl,rfl⟩;rfl
 rintro _ rfl;have nb:∀x∈([⟨#[98,97,115,101]⟩,⟨#[97,112,112]⟩]:amx amw),eo x:=eK (by decide);refine U.step (sP (b:=ay.mk _ _ _ _ _ _) hl (by decide)) λw hw=>?_
 let sh:=(q.aN.drop 1).map fW
 have shl:sh.length<=1:=by simpa[sh]using s1
 refine U.step (P:=λr=>∃(bd ad:amx bh)(i:Int)(m:amw)(fs:amx aU),r= .inl (pe,sh++bd,vH,ad,i,m,fs)/\bd.length<=4/\ad.length<=4/\fs.length<=4/\(∀d∈bd,pr (eT q.aN) d/\d.aj=2)/\(∀d∈ad,pr (eT q.aN) d/\d.aj=2)/\∀f∈fs,JR (eT q.aN) f) ?_ ?_
 ·refine T.aP (λk(s:Int×Int×amw×amx bh×amw×amx bh×Int×amw×amx aU)=>0<=s.2.1/\s.2.1<=4/\k=4 - s.2.1.toNat/\∃(bd ad:amx bh),s.2.2.1=pe/\s.2.2.2.1=sh++bd/\s.2.2.2.2.1=vH/\s.2.2.2.2.2.1=ad/\bd.length<=s.2.1.toNat/\ad.length<=s.2.1.toNat/\s.2.2.2.2.2.2.2.2.length<=s.2.1.toNat/\(∀d∈bd,pr (eT q.aN) d/\d.aj=2)/\(∀d∈ad,pr (eT q.aN) d/\d.aj=2)/\∀f∈s.2.2.2.2.2.2.2.2,JR (eT q.aN) f) (m:=4) (by decide) ⟨by simp,by simp,by simp,[],[],rfl,by simp[sh],rfl,rfl,by simp,by simp,by simp,by simp,by simp,by simp⟩ ?_;rintro k ⟨a31,a32,a33,a34,a35,a36,a37,a38,a39⟩ ⟨g1,g2,rfl,bd,ad,h1,h2,h3,h4,h5,h6,h7,h8,h9,h10⟩;dsimp only at g1 g2 h1 h2 h3 h4 h5 h6 h7 h8 h9 h10 |-;subst h1 h2 h3 h4;refine T.bif (λc=>?_) λc=>T.some ⟨bd,a36,a37,a38,a39,rfl,by omega,by omega,by omega,h8,h9,h10⟩
  have hlt:a32<4:=by simpa using c
  have wb:WB l q.aN q.am a39:=wb0.Ak (by omega) h10;refine iW wb rfl (by decide) λv m hm=>T.step (T41 wb t2 (nb m hm)) λd hd=>T.aS (by decide) ?_
  have ew:IntKind.i64.wrap (a32+1)=a32+1:=by rw[amG];omega
  refine T.bind (T.mono (P:=λr=>∃(bd' ad':amx bh)(fs':amx aU),r= .inl (pe,sh++bd',vH,ad',fs')/\bd'.length<=bd.length+1/\ad'.length<=a36.length+1/\fs'.length<=a39.length+1/\(∀d∈bd',pr (eT q.aN) d/\d.aj=2)/\(∀d∈ad',pr (eT q.aN) d/\d.aj=2)/\∀f∈fs',JR (eT q.aN) f) (T.bif (λ_=>?_) λ_=>T.some ⟨bd,a36,a39,rfl,by omega,by omega,by omega,h8,h9,h10⟩) ?_)
  ·refine T.step (ZN (by simp only[amO];omega) (by dsimp only;omega)) ?_;rintro⟨⟨n1,d1⟩,⟨n2,d2⟩⟩ ⟨e1,e2,e3⟩;dsimp only at e1 e2 e3;subst e1 e2;have hf:=DG (nb m hm) hd.2;rcases e3 with⟨rfl,rfl⟩|⟨rfl,rfl⟩
   ·exact T.ck (by simp;omega) (T.some ⟨bd,_,_,rfl,by omega,by simp,by simp,h8,bT h9 hd.1,bT h10 hf⟩)
   ·exact T.ck (by simp;omega) (T.some ⟨bd++[d.1],_,_,by simp,by simp,by omega,by simp,bT h8 hd.1,h9,bT h10 hf⟩)
  ·rintro _ ⟨bd',ad',fs',rfl,k1,k2,k3,k4,k5,k6⟩;dsimp only[Sum.elim_inl];refine T.aS (by decide) ?_;refine T.some ⟨4 - (a32+1).toNat,?_,?_,?_,?_,bd',ad',rfl,rfl,rfl,rfl,?_,?_,?_,k4,k5,k6⟩<;>(try simp only[ew])<;>(try dsimp only)<;>omega
 rintro _ ⟨bd1,ad1,i2,m2,fs2,rfl,b1,b2,b3,b4,b5,b6⟩;dsimp only[Sum.elim_inl];refine U.step (sP (b:=ay.mk _ _ _ _ _ _) hl (by decide)) λw2 hw2=>?_
 have ew1:IntKind.i64.wrap (1+w2.1)=1+w2.1:=TS (by decide) (by omega);refine U.step (P:=λr=>∃(bd ad:amx bh)(i:Int)(m:amw)(fs:amx aU),r= .inl (pe,sh++bd,vH,ad,i,m,fs)/\bd.length<=8/\ad.length<=8/\fs.length<=8/\(∀d∈bd,pr (eT q.aN) d/\d.aj=2)/\(∀d∈ad,pr (eT q.aN) d/\d.aj=2)/\∀f∈fs,JR (eT q.aN) f) ?_ ?_
 ·refine T.aP (λk(s:Int×amw×amx bh×amw×amx bh×Int×amw×amx aU)=>0<=s.1/\s.1<=4/\k=s.1.toNat/\∃(bd ad:amx bh),s.2.1=pe/\s.2.2.1=sh++bd/\s.2.2.2.1=vH/\s.2.2.2.2.1=ad/\bd.length+k<=8/\ad.length+k<=8/\s.2.2.2.2.2.2.2.length+k<=8/\(∀d∈bd,pr (eT q.aN) d/\d.aj=2)/\(∀d∈ad,pr (eT q.aN) d/\d.aj=2)/\∀f∈s.2.2.2.2.2.2.2,JR (eT q.aN) f) (m:=(1+w2.1).toNat) (by omega) ⟨by rw[ew1];dsimp only;omega,by rw[ew1];dsimp only;omega,by rw[ew1],bd1,ad1,rfl,rfl,rfl,rfl,by omega,by omega,by dsimp only;omega,b4,b5,b6⟩ ?_;rintro k ⟨a66,a67,a68,a69,a70,a71,a72,a73⟩ ⟨g1,g2,rfl,bd,ad,h1,h2,h3,h4,h5,h6,h7,h8,h9,h10⟩;dsimp only at g1 g2 h1 h2 h3 h4 h5 h6 h7 h8 h9 h10 |-;subst h1 h2 h3 h4;refine T.bif (λc=>?_) λc=>T.some ⟨bd,_,a71,a72,a73,rfl,by omega,by omega,by omega,h8,h9,h10⟩
  have afr:0<a66:=by simpa using c
  have wb:WB l q.aN q.am a73:=wb0.Ak (by omega) h10;refine iW wb rfl (by decide) λv m hm=>T.eA ⟨by omega,by simp;omega⟩ λn hn _=>?_
  have hn:eo n:=eK (l:=[⟨#[]⟩,⟨#[102]⟩,⟨#[103]⟩,⟨#[104]⟩,⟨#[107]⟩]) (by decide) _ hn;refine T.step (T43 wb hn) λd hd=>T.step (ZN (by simp only[amO];omega) (by dsimp only;omega)) ?_
  rintro⟨⟨n1,d1⟩,⟨n2,d2⟩⟩ ⟨e1,e2,e3⟩;dsimp only at e1 e2 e3 |-;subst e1 e2;have hf:JR (eT q.aN) d.2.1:=DG (nb m hm) ⟨hd.2.1▸hn,hd.2.2⟩;have ew:IntKind.i64.wrap (a66 - 1)=a66 - 1:=by rw[amG];omega
  refine T.ck (by simp;omega) ?_;rcases e3 with⟨rfl,rfl⟩|⟨rfl,rfl⟩
  ·refine T.some ⟨(a66 - 1).toNat,?_,?_,?_,?_,bd,_,rfl,rfl,rfl,rfl,?_,?_,?_,h8,bT h9 hd.1,bT h10 hf⟩<;>(try simp only[ew,amO,amA,amB])<;>(try dsimp only)<;>omega
  ·refine T.some ⟨(a66 - 1).toNat,?_,?_,?_,?_,bd++[d.1],_,rfl,?_,rfl,rfl,?_,?_,?_,bT h8 hd.1,h9,bT h10 hf⟩<;>(try simp only[ew,amO,amA,amB,aoy])<;>(try dsimp only)<;>omega
 rintro _ ⟨bd2,ad2,i3,m3,fs3,rfl,c1,c2,c3,c4,c5,c6⟩;dsimp only[Sum.elim_inl];refine U.step (sP (b:=ay.mk _ _ _ _ _ _) hl (by decide)) λw3 hw3=>?_
 refine U.step (P:=λr=>∃(ad:amx bh)(i:Int),r= .inl (ad,i)/\ad.length<=10/\∀d∈ad,pr (eT q.aN) d/\(d.aj=2\/d.aj=3)) ?_ ?_
 ·refine T.aP (λk(s:Int×amx bh×Int)=>0<=s.1/\s.1<=2/\k=s.1.toNat/\s.2.1.length+k<=10/\∀d∈s.2.1,pr (eT q.aN) d/\(d.aj=2\/d.aj=3)) (m:=w3.1.toNat) (by omega) ⟨hw3.1,by dsimp only;omega,rfl,by dsimp only;omega,λd hd=>⟨(c5 d hd).1,.inl (c5 d hd).2⟩⟩ ?_;rintro k ⟨a91,a92,a93⟩ ⟨g1,g2,rfl,g3,g4⟩;dsimp only at g1 g2 g3 g4 |-;refine T.bif (λc=>?_) λc=>T.some ⟨_,_,rfl,by omega,g4⟩
  have afr:0<a91:=by simpa using c
  refine T.eA ⟨by omega,by simp;omega⟩ λn hn _=>?_
  have hn:eo n:=eK (l:=[⟨#[]⟩,⟨#[112,117,116]⟩,⟨#[102,105,120]⟩]) (by decide) _ hn;have ew:IntKind.i64.wrap (a91 - 1)=a91 - 1:=by rw[amG];omega
  refine T.step (T44 (wb0.Ak (by omega) c6) (by omega) tc hn) λd hd=>T.ck (by simp;omega) (T.some ⟨(a91 - 1).toNat,?_,?_,?_,?_,?_,bT g4 ⟨hd.1,.inr hd.2⟩⟩)<;>(try simp only[ew,amO,amA,amB])<;>(try dsimp only)<;>omega
 rintro _ ⟨ad3,i4,rfl,d1,d2⟩;dsimp only[Sum.elim_inl];have done:sQ (ay.mk l i4 ⟨#[97,112,112]⟩ q.aN q.am fs3,[⟨vH,ad3⟩,⟨pe,(q.aN.drop 1).map fW++bd2⟩,⟨Aj,fW ⟨gk,q.bG⟩::q.am.map gK⟩]) q ad3 bd2:=
  ⟨hq,rfl,rfl,by dsimp only;omega,c6,rfl,by omega,by omega,d2,c4⟩
 refine U.Si (P:=λr=>r= .inl ()\/∃b q ad bd,r= .inr b/\sQ b q ad bd) (U.aP (λk(i:Int)=>0<=i/\i<=3/\k=3 - i.toNat) (m:=3) (by decide) ⟨by decide,by decide,rfl⟩ ?_) ?_
 ·rintro k i ⟨g1,g2,rfl⟩;refine U.bif (λc=>?_) λc=>.inl (T.some (.inl rfl))
  have hlt:i<3:=by simpa using c
  have ew:IntKind.i64.wrap (i+1)=i+1:=by rw[amG];omega
  refine U.eA ⟨g1,by simpa using hlt⟩ λm hm=>U.step (T45 (done.vI m hm).1 (done.vI m hm).2) λv _=>U.bif (λ_=>U.aS (by decide) (U.aS ?_ ?_)) λ_=>.inl (T.some ⟨_,?_,?_,?_,rfl⟩)
  ·have:((l.map (AV.int .i64)).length:Int)=l.length:=by simp
   rw[this];have h0:(0:Int)<=l.length:=by omega
   have h1:(l.length:Int).tdiv 2=l.length / 2:=Int.tdiv_eq_ediv_of_nonneg h0;rw[h1,amG];omega
  ·change U c0 ((sN n (pO l)).bind _) _;cases e:sN n (pO l)with
   |none=>exact .inr ⟨rfl,hc0▸e⟩
   |some b=>
    obtain⟨q',ad,bd,hb⟩:=aiK b e;exact .inl (T.some (.inr ⟨b,q',ad,bd,rfl,hb⟩))
  all_goals(try simp only[ew])<;>omega
 ·rintro _ (rfl|⟨b,q',ad,bd,rfl,hb⟩)
  ·exact T.some ⟨q,ad3,bd2,done⟩
  ·exact T.some ⟨q',ad,bd,hb⟩
abbrev Ws(r:ay×amx aK):Prop:=∃q ad bd,sQ r q ad bd
def pf:pO []=[]:=rfl
def ui(l:amx Int)(h:l.length<9000000000000000000):pO l=l.take (l.length / 2):=by
 have e:((l.map (AV.int .i64)).length:Int)=l.length:=by simp
 have h1:(l.length:Int).tdiv 2=l.length / 2:=Int.tdiv_eq_ediv_of_nonneg (by omega);unfold pO;have e2:(IntKind.i64.wrap ((l.length:Int) / 2)).toNat - (0:Int).toNat=l.length / 2:=by rw[amG];omega
 rw[e,h1,e2];rfl
def JS:(sN 1 []).isSome=true:=by decide+kernel
def Sk(l:amx Int):sN 0 l=none:=rfl
def pg(n:Nat):∀b,sN n []=some b->Ws b:=by
 induction n with
 |zero=>intro b h;rw[Sk]at h;cases h
 |succ n ih=>
  intro b h;rcases Yd (n:=n) (l:=[]) (by simp) (by simp) (by rw[pf];exact ih)with⟨a,e,ha⟩|⟨e,_⟩
  ·rw[e]at h;rw[<-am5 h];exact ha
  ·rw[e]at h;cases h
def sE(n:Nat):sN (n+1) []≠none:=by
 induction n with
 |zero=>intro h;have:=JS;rw[anE]at h;rw[h]at this;cases this
 |succ n ih=>
  intro h;rcases Yd (n:=n+1) (l:=[]) (by simp) (by simp) (by rw[pf];exact pg (n+1))with⟨a,e,ha⟩|⟨_,e⟩
  ·rw[e]at h;cases h
  ·rw[pf]at e;exact ih e
def ZP:(k:Nat)->(l:amx Int)->(n:Nat)->l.length<2 ^ k->k<n->k<=62->(∀x∈l,kj x)->T (sN n l) Ws
 |0,l,0,_,h,_,_=>absurd h (by omega)
 |0,l,n+1,h,_,_,_=>by
  have:l=[]:=anu (by simpa using h);subst this;cases e:sN (n+1) []with
  |none=>exact absurd e (sE n)
  |some b=>exact⟨b,rfl,pg _ b e⟩
 |k+1,l,0,_,h,_,_=>absurd h (by omega)
 |k+1,l,n+1,h,hk,h62,hl=>by
  have hp:2 ^(k+1)<=2 ^ 62:=Nat.pow_le_pow_right (by decide) h62;have hlen:l.length<9000000000000000000:=by
   have:(2:Nat) ^ 62=4611686018427387904:=by decide
   omega
  have hh:(pO l).length<2 ^ k:=by
   rw[ui l hlen,ant];rw[Nat.pow_succ]at h;omega
  have ih:=ZP k (pO l) n hh (by omega) (by omega) (λx hx=>hl x (by rw[ui l hlen]at hx;exact anX hx));rcases Yd (n:=n) (l:=l) hl hlen (λb hb=>by obtain⟨a,e,ha⟩:=ih;rw[e]at hb;cases hb;exact ha)with h|⟨_,e⟩
  ·exact h
  ·obtain⟨a,e2,_⟩:=ih;rw[e2]at e;cases e
def ZQ{l:amx Int}(h:l.length<2 ^ 62)(hl:∀x∈l,kj x):T (sN 1000000 l) Ws:=ZP 62 l 1000000 h (by decide) (by decide) hl
end
section
set_option maxRecDepth 1000000
set_option linter.unusedVariables false
def T12:Xp=some true:=by decide+kernel
def Sl(l:amx amw):T (A6 l l) λr=>r=true:=by
 unfold A6;refine T.bif (λh=>by simp at h) λ_=>?_
 refine T.dg (λ_ _=>True) trivial (λj x s hx _ hj _=>?_) λ_ _=>T.some rfl
 refine T.eA ⟨by omega,by omega⟩ λy hy e=>?_
 have:y=x:=by rw[show((j:Int).toNat)=j by omega,hx]at e;simpa using e.symm
 subst this;exact T.bif (λh=>by simp at h) λ_=>T.some trivial
def dE:Nat->aa->Prop
 |0,_=>False
 |d+1,e=>∀k∈e.aG,dE d k
def Ye:{d n:Nat}->{e:aa}->dE d e->d<=n->T (Mo n e e) λr=>r=true
 |0,_,_,h,_=>h.elim
 |d+1,0,_,_,h=>absurd h (by omega)
 |d+1,n+1,e,h,hn=>by
  unfold Mo;refine T.step (Sl _) λv1 h1=>T.step (Sl _) λv2 h2=>?_
  subst h1 h2;have tt:∀{c:amz},c=false->T (bif false then some true else some c) λr=>r=false:=λh=>T.some h
  refine T.step (P:=λr=>r=false) (T.some rfl) λa ha=>?_
  subst ha;refine T.step (tt (by simp)) λa ha=>?_
  subst ha;refine T.step (tt (by simp)) λa ha=>?_
  subst ha;refine T.step (tt (by simp)) λa ha=>?_
  subst ha;refine T.step (tt (by simp)) λa ha=>?_
  subst ha;refine T.step (tt (by simp)) λa ha=>?_
  subst ha;refine T.step (tt (by simp)) λa ha=>?_
  subst ha;refine T.step (tt (by simp)) λa ha=>?_
  subst ha
  show T ((bg _ _ 0 e.aG ()).bind _) _
  refine T.dg (λ_ _=>True) trivial (λj x s hx hm hj _=>?_) λ_ _=>T.some rfl
  refine T.eA ⟨by omega,by omega⟩ λy hy e2=>?_
  have:y=x:=by rw[show((j:Int).toNat)=j by omega,hx]at e2;simpa using e2.symm
  subst this;refine T.step (Ye (h y hm) (by omega)) λv hv=>?_
  subst hv;exact T.bif (λh=>by simp at h) λ_=>T.some trivial
def wB:Nat->aa->Prop
 |0,_=>False
 |d+1,e=>(e.aj=10->e.aG.length=e.aF.length+1)/\(e.aj=13->e.aG.length<=e.binds.length+1)/\e.aF.length<=8/\e.binds.length<=8/\e.aG.length<=9/\∀k∈e.aG,wB d k
def dz.wB:{d:Nat}->{e:aa}->dz d e->wB d e
 |0,_,h=>h.elim
 |d+1,e,⟨h,k⟩=>⟨λe=>by have:=h.2.2.2.2.2.2.2.2.2.2.2.2.1 e;omega,λe=>by have:=h.2.2.2.2.2.2.2.2.2.2.2.2.2.2.2.1 e;omega,h.2.2.2.1,h.2.2.2.2.1,h.2.2.2.2.2.1,λx hx=>(k x hx).wB⟩
theorem wB.mono:{d:Nat}->{e:aa}->wB d e->wB (d+1) e
 |0,_,h=>h.elim
 |d+1,e,⟨a,b,c,f,g,k⟩=>⟨a,b,c,f,g,λx hx=>(k x hx).mono⟩
def wB.le{d e:Nat}{t:aa}(h:wB d t)(l:d<=e):wB e t:=by
 induction l with
 |refl=>exact h
 |step _ ih=>exact ih.mono
def ZR{g:bA}{n:Int}(hl:∀x∈g.l,kj x)(hn:0<n):T (DB g n) λr=>0<=r.1/\r.1<n:=by
 unfold DB;exact T.step (TN hl hn) λa ha=>T.some ha
def T58{g:bA}(hl:∀x∈g.l,kj x):T (D7 g) λ_=>True:=by
 unfold D7;exact T.step (ZR hl (by decide)) λv hv=>T.eA (by simpa using hv) λ_ _ _=>T.some trivial
def ZS{l:amx Int}(hl:∀x∈l,kj x):(d:Nat)->(n:Nat)->(i p:Int)->d<n->d<=100->T (ux n (bA.mk l i p) d) λr=>wB (d+1) r.1
 |d,0,_,_,h,_=>absurd h (by omega)
 |d,n+1,i,p,h,hd=>by
  unfold ux;have N:∀{i p n:Int}{β:Type}{f:Int×Int->amy β}{Q:β->Prop},0<n->(∀v:Int×Int,0<=v.1->v.1<n->T (f v) Q)->T ((DB (bA.mk l i p) n).bind f) Q:=λhn k=>T.step (ZR (g:=bA.mk _ _ _) hl hn) λv hv=>k v hv.1 hv.2
  have S:∀{i p:Int}{β:Type}{f:amw×Int->amy β}{Q:β->Prop},(∀v,T (f v) Q)->T ((D7 (bA.mk l i p)).bind f) Q:=λk=>T.step (T58 (g:=bA.mk _ _ _) hl) λv _=>k v
  refine N (by decide) λv1 a0 a1=>?_
  dsimp only;refine T.step (P:=λr=>r=false->d≠0) (T.bif (λ_=>T.some (by simp)) λe=>T.some λ_=>by simpa using e) λa2 h2=>?_
  refine T.bind (T.mono (P:=λr=>∃(k:Int)(nm s:amw)(ns bs:amx amw)(ks:amx aa)(i p:Int),r= .inl (k,nm,s,ns,bs,ks,i,p)/\(k=10->ks.length=ns.length+1)/\(k=13->ks.length<=bs.length+1)/\ns.length<=8/\bs.length<=8/\ks.length<=9/\∀x∈ks,wB d x) ?_ ?_)
  ·refine T.bif (λ_=>S λv=>T.some ⟨_,_,_,_,_,_,_,_,rfl,by simp,by simp,by simp,by simp,by simp,by simp⟩) λe2=>?_
   have h0:=h2 e2;obtain⟨d,rfl⟩:∃m,d=m+1:=⟨d - 1,by omega⟩;have ew:IntKind.i64.wrap (((d+1:Nat):Int) - 1)=(d:Int):=by rw[amG];omega
   rw[ew];have R:∀{i p:Int}{β:Type}{f:aa×Int×Int->amy β}{Q:β->Prop},(∀v:aa×Int×Int,wB (d+1) v.1->T (f v) Q)->T ((ux n (bA.mk l i p) d).bind f) Q:=λk=>T.step (ZS hl d n _ _ (by omega) (by omega)) λv hv=>k v hv
   refine T.bif (λ_=>S λv=>R λv1 k1=>R λv2 k2=>T.some ⟨_,_,_,_,_,_,_,_,rfl,by simp,by simp,by simp,by simp,by simp,by simp[k1,k2]⟩) λ_=>?_
   refine T.bif (λ_=>S λv=>S λw=>N (by decide) λu u0 u1=>T.eA (by simpa using⟨u0,u1⟩) λx _ _=>R λv1 k1=>R λv2 k2=>R λv3 k3=>T.some ⟨_,_,_,_,_,_,_,_,rfl,by simp,by simp,by simp,by simp,by simp,by simp[k1,k2,k3]⟩) λ_=>?_
   refine T.bif (λ_=>S λv=>S λw=>N (by decide) λu u0 u1=>T.eA (by simpa using⟨u0,u1⟩) λx _ _=>R λv1 k1=>R λv2 k2=>R λv3 k3=>T.some ⟨_,_,_,_,_,_,_,_,rfl,by simp,by simp,by simp,by simp,by simp,by simp[k1,k2,k3]⟩) λ_=>?_
   refine T.bif (λ_=>N (by decide) λu u0 u1=>T.eA (by simpa using⟨u0,u1⟩) λx _ _=>R λv1 k1=>R λv2 k2=>T.some ⟨_,_,_,_,_,_,_,_,rfl,by simp,by simp,by simp,by simp,by simp,by simp[k1,k2]⟩) λ_=>?_
   exact N (by decide) λu u0 u1=>T.eA (by simpa using⟨u0,u1⟩) λx _ _=>N (by decide) λu u0 u1=>T.eA (by simpa using⟨u0,u1⟩) λx _ _=>R λv1 k1=>T.some ⟨_,_,_,_,_,_,_,_,rfl,by simp,by simp,by simp,by simp,by simp,by simp[k1]⟩
  ·rintro _ ⟨k,nm,s,ns,bs,ks,i,p,rfl,h1,h2,h3,h4,h5,h6⟩;exact T.some ⟨h1,h2,h3,h4,h5,h6⟩
def T7{l:amx Int}(hl:∀x∈l,kj x):T (F7 l) λr=>wB 5 r:=by
 unfold F7;exact T.step (ZS hl 4 1000000 0 0 (by decide) (by decide)) λv hv=>T.some hv
def T13{l:amx Int}(h:l.length<2 ^ 62)(hl:∀x∈l,kj x):T (TC l) λr=>∃b q ad bd,sQ (b,r) q ad bd:=by
 unfold TC;exact T.step (ZQ h hl) λv⟨q,ad,bd,hv⟩=>T.some ⟨v.1,q,ad,bd,hv⟩
end
section
set_option maxRecDepth 1000000
set_option linter.unusedVariables false
def Sm(x:Int):kj (IntKind.i64.wrap x):=by unfold kj;rw[amG];omega
def T8{s:ah}{x:GStep}{n:Int}(h:s.am.length<=3)(hn:kj n):T (F8 s x n) λr=>r.length<=6:=by
 unfold F8;refine T.dg (λj(a:amx amw)=>a.length=3+j) (by simp) (λj t a _ _ hj ha=>?_) λc hc=>?_
 ·refine T.ck (by simp;omega) (T.some ?_);simp only[anb,amO,amA,amB];omega
 ·refine T.step (TM hn (by decide)) λv hv=>?_
  refine T.dg (λj(a:Int×amx amw)=>a.2.length<=j) (by simp) (λj t a _ _ hj ha=>?_) λc hc=>T.some ?_
  ·obtain⟨a1,a2⟩:=a;dsimp only at ha |-;refine T.aS (by decide) ?_;refine T.bind (T.mono (P:=λr=>∃q:amx amw,r= .inl q/\q.length<=j+1) (T.bif (λ_=>T.ck (by simp;omega) (T.some ⟨_,rfl,by simp;omega⟩)) λ_=>T.some ⟨_,rfl,by omega⟩) ?_);rintro _ ⟨q,rfl,hq⟩;simp only[anb];refine T.aS (p:=(4:Int)≠0) (by decide) (T.some ?_);exact hq
  ·obtain⟨a1,a2⟩:=c;dsimp only at hc |-;omega
def sQ.wb{r:ay×amx aK}{q:DP}{ad bd:amx bh}(h:sQ r q ad bd){l:amx Int}(hl:∀x∈l,kj x):WB l r.1.aN r.1.am r.1.cK:=by
 rw[h.aN,h.am];exact(DP.wb h.ok hl).Ak h.fn h.cK
def T6{l k:amx Int}(h:l.length<2 ^ 62)(hl:∀x∈l,kj x)(hk:∀x∈k,kj x):T (F6 l k) λr=>wB 12 r.1:=by
 unfold F6;refine T.step (ZQ h hl) λv⟨q,ad,bd,hv⟩=>?_
 have wb:=hv.wb hk;refine T.step (TP (b:=ay.mk _ _ _ _ _ _) wb) λt ht=>?_
 exact T.step (R7 (m:=⟨#[97,112,112]⟩) wb (d:=3) (by decide) (by simp[pM]) (by simp) (ht.le (by decide)) (by decide) (by decide)) λe he=>T.some (dz.wB he)
end
section
set_option maxRecDepth 1000000
set_option linter.unusedVariables false
def bW(q:DP):ah:=⟨q.aN,[q.gl,q.cf]++bif q.cL then[iw]else[]⟩
def dG:amx amw:=[⟨#[102,114,101,115,104]⟩,⟨#[101,120,116,114,97]⟩,⟨#[108,97,116,101]⟩,⟨#[111,116,104,101,114]⟩,⟨#[105,100]⟩,⟨#[105,116,101,109]⟩,⟨#[120]⟩]
def v0:aA:=aA.mk 0 0 ⟨#[]⟩ [] []
def lc:amx aA:=[aA.mk 0 7 ⟨#[]⟩ [] [],aA.mk 1 0 ⟨#[110,101,119]⟩ [] [],aA.mk 2 1 ⟨#[]⟩ [] [],aA.mk 3 0 ⟨#[82,101,100]⟩ [] []]
def fP:amx amw->amx (amx amw)
 | []=>[[]]
 |a::r=>fP r++(fP r).map (a:: ·)
def m7:{l cs:amx amw}->cs.Sublist l->cs∈fP l
 | [],cs,h=>by simp at h;simp[fP,h]
 |a::r,cs,h=>by
  simp only[fP,amZ,am3];cases h with
  |cons _ h=>exact .inl (m7 h)
  |cons_cons _ h=>exact .inr ⟨_,m7 h,rfl⟩
def uj(a b:amw):bZ a b=bZ b a:=Bool.beq_comm
def db(l:amx amw)(n:amw):amz:=l.any λy=>bZ y n
def kC(t:ac):amx amw:=(t.af.map (·.name)).filter λn=> !db t.key n&& !db ((sL t.aC).getD []) n
def sF:amw:=⟨#[83,116,97,116,101]⟩
def qo:amx (amx amw):=[[⟨#[79,102,102]⟩,⟨#[79,110]⟩],[⟨#[82,101,100]⟩],[⟨#[82,101,100]⟩,⟨#[79,110]⟩],[⟨#[82,101,100]⟩,⟨#[79,110]⟩,⟨#[88]⟩]]
inductive ld (ts:List ac) (t:ac):GStep->Prop
 |plain {c:ae} {w:ByteArray} {k:Int}:c∈t.af->w∈dG->k∈([0,1,5,7]:List Int)->ld ts t ⟨k,t.name,c.name,w,[],v0⟩
 |add {w:ByteArray} {v:aA}:w∈dG->v∈lc->ld ts t ⟨2,t.name,w,w,[],v⟩
 |split {c:ae} {w:ByteArray} {cs:List ByteArray}:c∈t.af->w∈dG->cs∈fP (kC t)->ld ts t ⟨3,t.name,c.name,w,cs,v0⟩
 |DH {c:ae} {w:ByteArray} {cs:List ByteArray}:c∈t.af->w∈dG->cs∈fP (kC t)->ld ts t ⟨3,t.name,c.name,w,cs++[c.name],v0⟩
 |vW {c:ae} {u:ac}:c∈t.af->u∈ts->ld ts t ⟨4,t.name,c.name,u.name,[],v0⟩
 |sum {c:ae} {cs:List ByteArray}:c∈t.af->cs∈qo->ld ts t ⟨6,t.name,c.name,sF,cs,v0⟩
def ZT(l:amx amw)(x:amw):T (Bb l x) λr=>r=db l x:=by
 unfold Bb;refine T.dg (λj _=>db (l.take j) x=false) (by simp[db]) (λj y s hy hm hj hI=>?_) λs hI=>T.some (by rw[<-hI,anz])
 refine T.bif (λh=>T.some ?_) λh=>T.some ?_
 ·exact T.some (by symm;exact anx.2 ⟨y,hm,h⟩)
 ·have e:l.take (j+1)=l.take j++[y]:=by rw[anA,hy];rfl
  show db (l.take (j+1)) x=false
  rw[e];unfold db at hI |-;rw[aog,hI];simp[h]
def DI:∀c∈ed,(sL c).isSome=true:=by decide+kernel
def T18{t:ac}(h:(sL t.aC).isSome=true)(x:amw):T (L9 t x) λr=>r=db ((sL t.aC).getD []) x:=by
 unfold L9;cases e:sL t.aC with
 |none=>rw[e]at h;simp at h
 |some l=>
  simp only[amD,anV];exact T.step (ZT l x) λv hv=>T.some hv
def DJ:(sL iX).isSome=true:=by decide+kernel
def fd{q:DP}{t:ac}(h:t∈(bW q).am):t=q.gl\/t=q.cf\/(t=iw/\q.cL=true):=by
 cases e:q.cL<;>simp[bW,e]at h
 ·rcases h with h|h
  ·exact .inl h
  ·exact .inr (.inl h)
 ·rcases h with h|h|h
  ·exact .inl h
  ·exact .inr (.inl h)
  ·exact .inr (.inr ⟨h,rfl⟩)
def JT{q:DP}(hq:q.ok){t:ac}(h:t∈(bW q).am):(sL t.aC).isSome=true:=by
 rcases fd h with rfl|rfl|⟨rfl,_⟩
 ·exact DJ
 ·exact DI _ hq.c
 ·exact DJ
def jy(q:DP):1<=(bW q).am.length/\(bW q).am.length<=3:=by cases e:q.cL<;>simp[bW,e]
def gS{q:DP}{t:ac}(h:t∈(bW q).am):1<=t.af.length/\t.af.length<=5/\t.aY.length<=1:=by
 rcases fd h with rfl|rfl|⟨rfl,_⟩
 ·cases e:q.done<;>simp[DP.gl,DP.nD,e]
 ·cases e:q.aV<;>cases e2:q.bK<;>simp[DP.cf,DP.gd,e,e2]
 ·simp[iw]
def BE{q:DP}{t:ac}(h:t∈(bW q).am):T (Ma t) λk=>∀r∈t.aY,(bZ r.aw k)=false:=by
 rcases fd h with rfl|rfl|⟨rfl,_⟩
 ·exact⟨KG,rfl,by intro r hr;simp[DP.gl]at hr;subst hr;decide+kernel⟩
 ·exact⟨KG,rfl,by simp[DP.cf]⟩
 ·exact⟨⟨#[]⟩,rfl,by decide+kernel⟩
def T5{q:DP}(hq:q.ok){l:amx Int}(hl:∀x∈l,kj x):T (F5 (bW q) l) λx=>∃t∈(bW q).am,ld (bW q).am t x:=by
 unfold F5;have sl:=jy q;have N:∀{i n:Int}{β:Type}{f:Int->amy β}{Q:β->Prop},0<n->(∀v:Int,0<=v->v<n->T (f v) Q)->T ((om l i n).bind f) Q:=λhn k=>T.step (TN hl hn) λv hv=>k v hv.1 hv.2
 refine T.bif (λh=>by simp only[amJ,am7]at h;omega) λ_=>?_
 refine N (by simp only[amJ];omega) λv2 a0 a1=>T.eA ⟨a0,by simpa using a1⟩ λt ht _=>?_
 have tc:=gS ht;refine N (by simp only[amJ];omega) λv4 b0 b1=>T.eA ⟨b0,by simpa using b1⟩ λc hc _=>?_
 refine N (by decide) λv6 c0 c1=>T.eA ⟨c0,by simp;omega⟩ λw hw _=>?_
 refine N (by decide) λv8 _ _=>?_
 refine T.bind (T.mono (P:=λr=>∃w∈dG,r= .inl w) (T.bif (λ_=>N (by simp) λv13 d0 d1=>T.eA ⟨d0,by simpa using d1⟩ λw hw _=>T.some ⟨w,hw,rfl⟩) λ_=>T.some ⟨w,hw,rfl⟩) ?_);rintro _ ⟨w,hw,rfl⟩;simp only[anb];refine N (by decide) λk k0 k1=>?_
 refine T.bind (T.mono (P:=λr=>∃a b cs v,r= .inl (a,b,cs,v)/\ld (bW q).am t ⟨k,t.name,a,b,cs,v⟩) ?_ ?_)
 ·refine T.bif (λe=>?_) λe2=>T.bif (λe=>?_) λe3=>T.bif (λe=>?_) λe4=>T.bif (λe=>?_) λe6=>?_
  ·simp only[am7]at e;subst e;exact N (by decide) λv23 d0 d1=>T.eA ⟨d0,by simpa using d1⟩ λv hv _=>T.some ⟨_,_,_,_,rfl,.add hw hv⟩
  ·simp only[am7]at e;subst e;refine T.dg (λj(a:amx amw)=>a.Sublist (((t.af.take j).map (·.name)).filter λn=> !db t.key n&& !db ((sL t.aC).getD []) n)/\a.length<=j) ⟨by simp,by simp⟩ (λj y a hy hm hj hI=>?_) λa hI=>?_
   ·refine T.bind ?_;refine T.step (ZT _ _) λv38 h38=>T.step (T18 (JT hq ht) _) λv39 h39=>?_
    refine T.step (P:=λr=>r=(!v38&& !v39)) (by cases v38<;>exact T.some rfl) λa40 h40=>?_
    refine T.step (P:=λr=>r=true->a40=true) (T.bif (λh=>N (by decide) λv46 _ _=>T.some λ_=>h) λ_=>T.some (by simp)) λa43 h43=>?_
    have e:(((t.af.take (j+1)).map (·.name)).filter λn=> !db t.key n&& !db ((sL t.aC).getD []) n)=(((t.af.take j).map (·.name)).filter λn=> !db t.key n&& !db ((sL t.aC).getD []) n)++(bif !v38&& !v39 then[y.name]else[]):=by
     rw[anA,hy];simp only[Option.toList_some,amY,List.filter_append,amV,aoO];congr 1;rw[h38,h39];cases hb:(!db t.key y.name&& !db ((sL t.aC).getD []) y.name)<;>simp[List.filter,hb]
    refine T.bif (λh=>T.ck (by simp;omega) (T.some ?_)) λh=>T.some ?_
    ·refine T.some ?_
     show _/\_
     rw[e];have:=h43 h;rw[h40]at this;rw[this];exact⟨List.Sublist.append hI.1 (.refl _),by simp;omega⟩
    ·refine T.some ?_
     show _/\_
     rw[e];exact⟨hI.1.trans (List.sublist_append_left _ _),by omega⟩
   ·rw[anz]at hI;have hs:a∈fP (kC t):=m7 hI.1;refine N (by decide) λv49 _ _=>T.bif (λ_=>T.ck (by simp;omega) (T.some ⟨_,_,_,_,rfl,.DH hc hw hs⟩)) λ_=>T.some ⟨_,_,_,_,rfl,.split hc hw hs⟩
  ·simp only[am7]at e;subst e;refine N (by simp only[amJ];omega) λv53 d0 d1=>T.eA ⟨d0,by simpa using d1⟩ λu hu _=>?_
   refine T.dg (λ_ _=>True) trivial (λj y _ _ hm _ _=>?_) λ_ _=>T.some ⟨_,_,_,_,rfl,.vW hc hu⟩
   have hr:=(gS hm).2.2;refine T.ju (λm(s:Int)=>0<=s/\s<=y.aY.length/\m=y.aY.length - s.toNat) (m:=y.aY.length) (by omega) ⟨by simp,by simp,by simp⟩ ?_;rintro m s ⟨g1,g2,rfl⟩;refine T.bif (λh=>?_) λ_=>T.some (T.some trivial)
   simp only[amJ,amS]at h;have ew:IntKind.i64.wrap (s+1)=s+1:=by rw[amG];omega
   refine T.bind (T.mono (P:=λr=>r= .inl ()) (T.eA ⟨g1,h⟩ λr hr _=>T.step (BE hm) λk hk=>T.bif (λh=>by rw[hk r hr]at h;simp at h) λ_=>T.some rfl) ?_);rintro _ rfl;refine T.some ⟨_,?_,?_,?_,rfl⟩<;>(try simp only[ew])<;>omega
  ·simp only[am7]at e;subst e;refine T.dg (λ_(a:amw)=>∃c∈t.af,a=c.name) ⟨c,hc,rfl⟩ (λj y a _ hm _ hI=>?_) λa hI=>?_
   ·refine T.bind ?_;refine T.step (P:=λ_=>True) (T.bif (λ_=>N (by decide) λv _ _=>T.some trivial) λ_=>T.some trivial) λa86 _=>T.bif (λ_=>T.some (T.some ⟨y,hm,rfl⟩)) λ_=>T.some (T.some hI)
   ·obtain⟨c',hc',rfl⟩:=hI;refine N (by decide) λv91 _ _=>T.bif (λ_=>N (by decide) λv93 d0 d1=>?_) λ_=>T.some ⟨_,_,_,_,rfl,.sum hc' (by simp[qo])⟩
    have ew:IntKind.i64.wrap (1+v93)=1+v93:=by rw[amG];omega
    refine T.aS (by rw[ew];simp;omega) (T.some ⟨_,_,_,_,rfl,.sum hc' ?_⟩);rw[ew];have:v93=0\/v93=1\/v93=2:=by omega
    rcases this with rfl|rfl|rfl<;>simp[qo]
  ·have:k=0\/k=1\/k=5\/k=7:=by simp only[anl,ne_eq]at e2 e3 e4 e6;omega
   exact T.some ⟨_,_,_,_,rfl,.plain hc hw (by simpa using this)⟩
 ·rintro _ ⟨a,b,cs,v,rfl,h⟩;exact T.some ⟨t,ht,h⟩
end
section
set_option maxRecDepth 1000000
set_option linter.unusedVariables false
def BJ(o:amy amz):amz:=match o with
 |some b=>b
 |none=>false
def vJ{o:amy amz}(h:BJ o=true):o=some true:=by
 cases o with
 |none=>simp[BJ]at h
 |some b=>simp only[BJ]at h;rw[h]
def DL(o:amy Int):amz:=match o with
 |some i=>decide (i<0)
 |none=>false
def DM{o:amy Int}(h:DL o=true):T o λi=>i<0:=by
 cases o with
 |none=>simp[DL]at h
 |some i=>exact⟨i,rfl,by simpa[DL]using h⟩
def JU(o:amy Int):amz:=match o with
 |some i=>decide (0<=i)
 |none=>false
def NF{o:amy Int}(h:JU o=true):T o λi=>0<=i:=by
 cases o with
 |none=>simp[JU]at h
 |some i=>exact⟨i,rfl,by simpa[JU]using h⟩
def Sn(ss:amx ar)(l:amx ae)(j:Nat):amz:=match l[j]? with
 |some c=>BJ (wu c.name)&&BJ (Og ss c.bx)&&DL (Fl (l.take j) c.name)
 |none=>true
def Sp(l:amx ae)(ks:amx amw)(j:Nat):amz:=match ks[j]? with
 |some k=>JU (Fl l k)&&DL (E9 (ks.take j) k)
 |none=>true
structure Al(ms:List aK)(ss:List ar)(t:ac):Prop where
 Sq:BJ (wu t.name)=true
 aS:DY t.aC=some 0
 cl:t.af.length<=8
 Yf:∀j,j<t.af.length->Sn ss t.af j=true
 kl:1<=t.key.length/\t.key.length<=3
 Yg:∀j,j<t.key.length->Sp t.af t.key j=true
 aY:t.aY=[]\/∃r t' i c,t.aY=[r]/\Fl t.af r.aw=some i/\0<=i/\t.af[i.toNat]?=some c/\KB ms r.aD=some (t',true)/\S9 t' c.bx=some true
def KK{α:Type}(l:amx α)(j:Nat):(l.drop (0:Int).toNat).take ((j:Int).toNat - (0:Int).toNat)=l.take j:=by simp
def Yh{ms:amx aK}{ss:amx ar}{t:ac}(h:Al ms ss t):T (TG ms ss (gK t)) λr=>r=([],false):=by
 unfold TG
 show T ((wu t.name).bind _) _
 rw[vJ h.Sq];simp only[amD,gK,h.aS,aor,ana,aoP,anb];have hc:=h.cl;refine T.bind (T.mono (P:=λr=>r= .inl []) (T.bif (λe=>by simp at e;omega) λ_=>T.some rfl) ?_);rintro _ rfl;simp only[anb];refine T.dg (λ_(s:amx (amx amw)×amz)=>s=([],false)) rfl (λj c s hj hm hlt hI=>?_) λs hI=>?_
 ·subst hI;have hb:=h.Yf j hlt;unfold Sn at hb;rw[hj]at hb;simp only[amC]at hb;obtain⟨⟨b1,b2⟩,b3⟩:=hb;rw[vJ b1];simp only[amD,aor,ana];refine T.bind (T.mono (P:=λr=>r= .inl ([],false)) ?_ ?_)
  ·refine T.aS (by simp;omega) ?_;rw[KK];refine T.step (DM b3) λi hi=>?_
   refine T.bind (T.mono (P:=λr=>r= .inl false) (T.bif (λe=>by simp at e;omega) λ_=>T.some rfl) ?_);rintro _ rfl;simp only[anb];rw[vJ b2];exact T.some rfl
  ·rintro _ rfl;exact T.some rfl
 ·subst hI;have kl:=h.kl;refine T.step (P:=λr=>r=false) (T.bif (λe=>by simp at e;omega) λ_=>T.some (by simp;omega)) λa ha=>?_
  subst ha;simp only[ana,amD,anb];refine T.dg (λ_(s:amx (amx amw)×amz)=>s=([],false)) rfl (λj k s hj hm hlt hI=>?_) λs hI=>?_
  ·subst hI;have hb:=h.Yg j hlt;unfold Sp at hb;rw[hj]at hb;simp only[amC]at hb;refine T.bind (T.mono (P:=λr=>r= .inl ([],false)) ?_ ?_)
   ·refine T.step (NF hb.1) λi hi=>?_
    refine T.bind (T.mono (P:=λr=>r= .inl false) (T.bif (λe=>by simp at e;omega) λ_=>T.some rfl) ?_);rintro _ rfl;simp only[anb];refine T.aS (by simp;omega) ?_;rw[KK];refine T.step (DM hb.2) λi hi=>?_
    exact T.bif (λe=>by simp at e;omega) λ_=>T.some rfl
   ·rintro _ rfl;exact T.some rfl
  ·subst hI;rcases h.aY with e|⟨r,t',i,c,e,e1,e2,e3,e4,e5⟩
   ·rw[e];exact T.some rfl
   ·rw[e];refine T.dg (λ_(s:amx (amx amw)×amz)=>s=([],false)) rfl (λj k s hj hm hlt hI=>?_) λs hI=>T.some (by rw[hI])
    subst hI;have hk:k=r:=by simpa using hm
    have hj0:j=0:=by simp at hlt;exact hlt
    subst hk hj0;rw[e1];simp only[amD];refine T.bind (T.mono (P:=λr=>r= .inl ([],false)) ?_ ?_)
    ·refine T.ju (λm(s:amz×Int)=>s=(false,0)) (m:=0) (by decide) rfl ?_;rintro m s rfl;refine T.bif (λe=>by simp at e) λ_=>T.some ?_
     simp only[Sum.elim_inr,anb];rw[e4];have ei:decide (i<0)=false:=by simp;omega
     have ei2:decide (i>=0)=true:=by simp;omega
     simp only[amD,aor,ana,ei,anb,ane,ei2];have hl:i.toNat<t.af.length:=(an5.1 e3).1;refine T.bind (T.mono (P:=λr=>r= .inl false) (T.eA ⟨e2,by omega⟩ λx _ hx=>?_) ?_)
     ·rw[e3]at hx;cases hx;rw[e5];exact T.some rfl
     ·rintro _ rfl;exact T.some rfl
    ·rintro _ rfl;exact T.some rfl
end
section
set_option maxRecDepth 1000000
set_option linter.unusedVariables false
def DN:∀c∈ed,DY c=some 0:=by decide+kernel
def lG{n:Nat}{p:Nat->amz}(h:((List.range n).all p)=true):∀j,j<n->p j=true:=λj hj=>amR.1 h j (an0.2 hj)
def BF{q:DP}(h:q.ok)(ms:amx aK):Al ms q.aN q.cf:=by
 obtain⟨a,bV,sh,k,c,aV,bK,done,cL⟩:=q;have hk:k=0\/k=1:=by have:=h.k;dsimp only at this;omega
 have ha:a=0\/a=1\/a=2:=by have:=h.a;dsimp only at this;omega
 have hc:=h.c;refine⟨by kernel_rfl,DN _ hc,by cases aV<;>cases bK<;>simp[DP.cf,DP.gd],?_,by simp[DP.cf],?_,.inl rfl⟩
 ·clear h hc;cases aV
  ·rcases hk with rfl|rfl<;>cases bK<;>exact lG (by kernel_rfl)
  ·rcases hk with rfl|rfl<;>rcases ha with rfl|rfl|rfl<;>cases bV<;>cases bK<;>exact lG (by kernel_rfl)
 ·clear h hc;cases aV<;>cases bK<;>exact lG (by kernel_rfl)
def DQ{n:amw}{t:ac}{m1 m2 m3:aK}(h1:m1.cb.length<=1000/\∀d∈m1.cb,d.aj≠1)(h2:m2.cb.length<=1000/\∀d∈m2.cb,d.aj≠1)(h3:KB [m3] n=some (t,true)):KB [m1,m2,m3] n=some (t,true):=by
 have skip:∀{m:aK}{ρ:Type},(m.cb.length<=1000/\∀d∈m.cb,d.aj≠1)->
  aP (λ(a8:Int)=>(bif decide (a8<((m.cb.map bh.ak).length:Int))then((au m.cb a8).bind λv12=>(bif (v12.aj==(1:Int))then(some (bZ v12.name n))else(some false):amy amz).bind (λ(a13:amz)=>bif a13 then(some (.inr (.inr (.inr (.inr (v12.aD,true))))))else(some (.inl (IntKind.i64.wrap (a8+(1:Int)))))))else(some (.inr (.inl ()))):amy (Int⊕(Unit⊕(Unit⊕(Unit⊕(ac×amz))))))) 1000000 (0:Int)=some (.inl ()):=by
  intro m ρ hm;have:T (aP (λ(a8:Int)=>(bif decide (a8<((m.cb.map bh.ak).length:Int))then((au m.cb a8).bind λv12=>(bif (v12.aj==(1:Int))then(some (bZ v12.name n))else(some false):amy amz).bind (λ(a13:amz)=>bif a13 then(some (.inr (.inr (.inr (.inr (v12.aD,true))))))else(some (.inl (IntKind.i64.wrap (a8+(1:Int)))))))else(some (.inr (.inl ()))):amy (Int⊕(Unit⊕(Unit⊕(Unit⊕(ac×amz))))))) 1000000 (0:Int)) λr=>r= .inl ():=by
   refine T.aP (λk(s:Int)=>0<=s/\s<=m.cb.length/\k=m.cb.length - s.toNat) (m:=m.cb.length) (by omega) ⟨by simp,by simp,by simp⟩ ?_;rintro k s ⟨g1,g2,rfl⟩;refine T.bif (λe=>?_) λ_=>T.some rfl
   simp only[amJ,amS]at e;have ew:IntKind.i64.wrap (s+1)=s+1:=by rw[amG];omega
   refine T.eA ⟨g1,e⟩ λd hd _=>?_
   have hk:(d.aj==(1:Int))=false:=by simpa using hm.2 d hd
   rw[hk];refine T.some ⟨_,?_,?_,?_,rfl⟩<;>(try simp only[ew])<;>omega
  obtain⟨r,e,rfl⟩:=this;exact e
 unfold KB at h3 |-;simp only[bg]at h3 |-;rw[skip h1 (ρ:=Unit)];simp only[amD,anb];rw[skip h2 (ρ:=Unit)];simp only[amD,anb];exact h3
def sQ.BG{r:ay×amx aK}{q:DP}{ad bd:amx bh}(h:sQ r q ad bd):ad.length<=1000/\∀d∈ad,d.aj=2\/d.aj=3:=⟨by have:=h.al;omega,λd hd=>(h.app d hd).2⟩
def sQ.NG{r:ay×amx aK}{q:DP}{ad bd:amx bh}(h:sQ r q ad bd):((q.aN.drop 1).map fW++bd).length<=1000/\∀d∈(q.aN.drop 1).map fW++bd,d.aj≠1:=by
 have hl:=h.bl;have s1:(q.aN.drop 1).length<=1:=by cases e:q.sh<;>simp[DP.aN,e]
 refine⟨by simp only[amO,amJ];omega,λd hd=>?_⟩;rcases amZ.1 hd with hd|hd
 ·obtain⟨s,_,rfl⟩:=am3.1 hd;simp[fW]
 ·have:=(h.cj d hd).2;omega
def JV{r:ay×amx aK}{q:DP}{ad bd:amx bh}(h:sQ r q ad bd):Al r.2 q.aN q.gl:=by
 have e84:KB r.2 cT=some (q.cf,true):=by
  rw[h.BD];refine DQ ⟨h.BG.1,λd hd=>by have:=h.BG.2 d hd;omega⟩ h.NG ?_;obtain⟨a,bV,sh,k,c,aV,bK,done,cL⟩:=q;clear h;cases cL<;>kernel_rfl
 have hk:q.k=0\/q.k=1:=by have:=h.ok.k;omega
 refine⟨by kernel_rfl,(by decide+kernel:DY iX=some 0),by cases e:q.done<;>simp[DP.gl,DP.nD,e],?_,by simp[DP.gl],?_,.inr ⟨⟨pc,cT⟩,q.cf,0,⟨pc,la q.k⟩,rfl,by kernel_rfl,by decide,rfl,e84,?_⟩⟩
 all_goals
  clear h e84;obtain⟨a,bV,sh,k,c,aV,bK,done,cL⟩:=q;dsimp only at hk
 ·rcases hk with rfl|rfl<;>cases done<;>exact lG (by kernel_rfl)
 ·cases done<;>exact lG (by kernel_rfl)
 ·rcases hk with rfl|rfl<;>kernel_rfl
def NH{r:ay×amx aK}{q:DP}{ad bd:amx bh}(h:sQ r q ad bd):Al r.2 q.aN iw:=by
 have e84:KB r.2 fO=some (q.gl,true):=by
  rw[h.BD];refine DQ ⟨h.BG.1,λd hd=>by have:=h.BG.2 d hd;omega⟩ h.NG ?_;obtain⟨a,bV,sh,k,c,aV,bK,done,cL⟩:=q;clear h;cases cL<;>kernel_rfl
 refine⟨by kernel_rfl,(by decide+kernel:DY iX=some 0),by decide,lG (by kernel_rfl),by decide,lG (by kernel_rfl),.inr ⟨⟨fO,fO⟩,q.gl,0,⟨fO,la 0⟩,rfl,by kernel_rfl,by decide,rfl,e84,by kernel_rfl⟩⟩
end
end Go.Ab

/- Plain laws. -/
import Derived.Test.YtlahelaeeahggaaGreatDoorV12
set_option linter.all false
open Go Go.RowKit Go.Proofs
namespace Go.Ab
section
variable {α β σ τ ρ:Type}
@[simp] theorem RU(a:amw):bZ a a=true:=beq_self_eq_true _
def T(o:amy α)(Q:α->Prop):Prop:=∃a,o=some a/\Q a
theorem T.some{a:α}{Q:α->Prop}(h:Q a):T (Option.some a) Q:=⟨a,rfl,h⟩
def T.bind{o:amy α}{f:α->amy β}{Q:β->Prop}(h:T o λa=>T (f a) Q):T (o.bind f) Q:=by
 obtain⟨a,rfl,h⟩:=h;exact h
theorem T.mono{o:amy α}{P Q:α->Prop}(h:T o P)(k:∀a,P a->Q a):T o Q:=by
 obtain⟨a,e,h⟩:=h;exact⟨a,e,k a h⟩
def T.step{o:amy α}{f:α->amy β}{P:α->Prop}{Q:β->Prop}(h:T o P)(k:∀a,P a->T (f a) Q):T (o.bind f) Q:=(h.mono k).bind
def T.bif{c:amz}{x y:amy α}{Q:α->Prop}(h:c=true->T x Q)(k:c=false->T y Q):T (bif c then x else y) Q:=by
 cases c
 ·exact k rfl
 ·exact h rfl
theorem T.aS{p:Prop}[Decidable p]{f:Unit->amy β}{Q:β->Prop}(h:p)(k:T (f ()) Q):T ((Ab.aS p).bind f) Q:=by
 unfold Ab.aS;rw[amH h];exact k
def T.ck{n b:Nat}{f:Unit->amy β}{Q:β->Prop}(h:n*b<=140737488355328)(k:T (f ()) Q):T ((Ab.ck n b).bind f) Q:=by
 unfold Ab.ck;rw[amH h];exact k
theorem T.dj{n:Nat}{f:Unit->amy β}{Q:β->Prop}(h:n<=9223372036854775807)(k:T (f ()) Q):T ((Ab.dj n).bind f) Q:=by
 unfold Ab.dj;rw[amH h];exact k
def qm{xs:amx α}{i:Int}(h:0<=i)(k:i<xs.length):∃x,au xs i=Option.some x/\xs[i.toNat]?=Option.some x/\x∈xs:=by
 obtain⟨n,rfl⟩:=Int.eq_ofNat_of_zero_le h;have hn:n<xs.length:=by omega
 exact⟨xs[n],by simp[au,hn],by simp[hn],List.getElem_mem hn⟩
def T.eA{xs:amx α}{i:Int}{f:α->amy β}{Q:β->Prop}(h:0<=i/\i<xs.length)(k:∀x,x∈xs->xs[i.toNat]?=Option.some x->T (f x) Q):T ((au xs i).bind f) Q:=by
 obtain⟨x,e,e2,hm⟩:=qm h.1 h.2;rw[e];exact k x hm e2
def T.sum{γ:Type}{x:α⊕β}{f:α->amy γ}{g:β->amy γ}{Q:γ->Prop}(h:∀a,x= .inl a->T (f a) Q)(k:∀b,x= .inr b->T (g b) Q):T (Sum.elim f g x) Q:=by
 cases x with
 |inl a=>exact h a rfl
 |inr b=>exact k b rfl
def T.bg{f:Nat->τ->σ->amy (σ⊕(α⊕ρ))}{p:σ->α}(I:Nat->σ->Prop){Q:α⊕ρ->Prop}:
 {i:Nat}->{xs:amx τ}->{s:σ}->(h0:I i s)->(∀j x s,i<=j->xs[j - i]?=Option.some x->I j s->T (f j x s) (Sum.elim (λs=>I (j+1) s) λq=>Q q))->
 (∀s,I (i+xs.length) s->Q (.inl (p s)))->T (bg f p i xs s) Q
 |i,[],s,h0,_,he=>⟨_,rfl,he s (by simpa using h0)⟩
 |i,x::xs,s,h0,hr,he=>by
  unfold Ab.bg;refine T.step (hr i x s (amW _) (by simp) h0) λa ha=>?_
  cases a with
  |inl s'=>
   refine T.bg I (i:=i+1) (xs:=xs) (s:=s') ha (λj y s hj hy hI=>hr j y s (by omega) ?_ hI) (λs hI=>he s ?_)
   ·rw[show j - i=(j - (i+1))+1 by omega];simpa using hy
   ·simpa[aoj,aoh 1]using hI
  |inr q=>exact⟨_,rfl,ha⟩
def T.aP{step:σ->amy (σ⊕ρ)}(I:Nat->σ->Prop){Q:ρ->Prop}:
 {n m:Nat}->{s:σ}->m<n->I m s->(∀m s,I m s->T (step s) (Sum.elim (λs=>∃k,k<m/\I k s) λr=>Q r))->T (aP step n s) Q
 |0,_,_,h,_,_=>absurd h (Nat.not_lt_zero _)
 |n+1,m,s,h,hI,hr=>by
  unfold Ab.aP;refine T.step (hr m s hI) λa ha=>?_
  cases a with
  |inl s'=>obtain⟨k,hk,hI'⟩:=ha;exact T.aP I (by omega) hI' hr
  |inr r=>exact⟨_,rfl,ha⟩
def T.dg{γ:Type}{f:Nat->τ->σ->amy (σ⊕(α⊕ρ))}{p:σ->α}{f':α->amy γ}{g':ρ->amy γ}(I:Nat->σ->Prop){Q:γ->Prop}{xs:amx τ}{s:σ}(h0:I 0 s)
 (hr:∀j x s,xs[j]?=Option.some x->x∈xs->j<xs.length->I j s->T (f j x s) (Sum.elim (λs=>I (j+1) s) λq=>T (Sum.elim f' g' q) Q))
 (he:∀s,I xs.length s->T (f' (p s)) Q):T ((Ab.bg f p 0 xs s).bind (Sum.elim f' g')) Q:=
 T.bind (T.bg I h0 (λj x s _ hx hI=>hr j x s (by simpa using hx) (anL hx) (by simpa using(an5.1 hx).1) hI) λs hI=>he s (by simpa using hI))
def T.ju{γ:Type}{step:σ->amy (σ⊕(α⊕ρ))}{f':α->amy γ}{g':ρ->amy γ}(I:Nat->σ->Prop){Q:γ->Prop}{n m:Nat}{s:σ}(hm:m<n)(h0:I m s)
 (hr:∀m s,I m s->T (step s) (Sum.elim (λs=>∃k,k<m/\I k s) λq=>T (Sum.elim f' g' q) Q)):T ((Ab.aP step n s).bind (Sum.elim f' g')) Q:=
 T.bind (T.aP I hm h0 hr)
end
section
set_option linter.unusedVariables false
def kj(x:Int):Prop:= -9223372036854775808<=x/\x<=9223372036854775807
def JK:amx amw:=[⟨#[]⟩,⟨#[120]⟩,⟨#[121]⟩,⟨#[122]⟩,⟨#[117]⟩,⟨#[118]⟩,⟨#[119]⟩,⟨#[112]⟩,⟨#[113]⟩,⟨#[114]⟩,⟨#[110]⟩,⟨#[112,101,114,115,111,110]⟩,⟨#[105,116,101,109]⟩,⟨#[116,97,103]⟩,⟨#[115,97,109,101]⟩,⟨#[116,105,116,108,101,95,111,102]⟩,⟨#[112,97,105,114]⟩,⟨#[111,108,100,101,114]⟩,⟨#[102]⟩,⟨#[103]⟩,⟨#[104]⟩,⟨#[107]⟩,⟨#[112,117,116]⟩,⟨#[102,105,120]⟩,⟨#[105,100]⟩,⟨#[110,97,109,101]⟩,⟨#[97,103,101]⟩,⟨#[99,111,108,111,114]⟩,⟨#[102,108,97,103]⟩,⟨#[111,119,110,101,114]⟩,⟨#[116,105,116,108,101]⟩,⟨#[100,111,110,101]⟩,⟨#[119,111,114,100]⟩,⟨#[97]⟩,⟨#[98]⟩,⟨#[97,98]⟩,⟨#[67,111,108,111,114]⟩,⟨#[83,104,97,112,101]⟩,⟨#[82,101,100]⟩,⟨#[82,103,98]⟩,⟨#[66,108,117,101]⟩,⟨#[68,111,116]⟩,⟨#[77,97,110,121]⟩,⟨#[98,97,115,101]⟩,⟨#[97,112,112]⟩,⟨#[115,99,104,101,109,97]⟩,⟨#[115,105,122,101]⟩,⟨#[115,117,109]⟩,⟨#[97,110,121]⟩,⟨#[97,108,108]⟩,⟨#[115,111,114,116]⟩,⟨#[100,105,115,116,105,110,99,116]⟩,⟨#[43]⟩,⟨#[45]⟩,⟨#[42]⟩,⟨#[43,43]⟩,⟨#[61,61]⟩,⟨#[33,61]⟩,⟨#[60]⟩,⟨#[60,61]⟩,⟨#[97,110,100]⟩,⟨#[111,114]⟩,⟨#[110,111,116]⟩,⟨#[116,120]⟩,⟨#[112,48]⟩,⟨#[112,49]⟩,⟨#[112,50]⟩,⟨#[112,51]⟩,⟨#[102,114,101,115,104]⟩,⟨#[101,120,116,114,97]⟩,⟨#[108,97,116,101]⟩,⟨#[111,116,104,101,114]⟩,⟨#[83,116,97,116,101]⟩,⟨#[79,102,102]⟩,⟨#[79,110]⟩,⟨#[88]⟩,⟨#[116]⟩,⟨#[120,49]⟩]
def eo(s:amw):Prop:=s∈JK
def eK{l:amx amw}(h:(l.all λx=>JK.any λy=>x.data.toList==y.data.toList)=true):∀x∈l,eo x:=λx hx=>by
 obtain⟨y,hy,e⟩:=anx.1 (amR.1 h x hx);have:x=y:=by cases x;cases y;simp at e;simpa using e
 subst this;exact hy
def eM(ns:amx amw):Nat->ai->Prop
 |0,_=>False
 |d+1,t=>(0<=t.aj/\t.aj<=5/\(t.aj<=3->t.aG=[]))/\(t.aj=3->t.name∈ns)/\(t.aj=4->t.aG.length=1)/\(t.aj=5->t.aG.length=t.aF.length)/\eo t.name/\
  t.aF.length<=8/\t.aG.length<=8/\(∀x∈t.aF,eo x)/\∀k∈t.aG,eM ns d k
theorem eM.mono{ns:amx amw}:{d:Nat}->{t:ai}->eM ns d t->eM ns (d+1) t
 |0,_,h=>h.elim
 |d+1,t,⟨a,b,c,e,f,g,i,j,k⟩=>⟨a,b,c,e,f,g,i,j,λx hx=>(k x hx).mono⟩
def eM.le{ns:amx amw}{d e:Nat}{t:ai}(h:eM ns d t)(l:d<=e):eM ns e t:=by
 induction l with
 |refl=>exact h
 |step _ ih=>exact ih.mono
abbrev kV:amx amw:=[⟨#[43]⟩,⟨#[45]⟩,⟨#[42]⟩,⟨#[43,43]⟩,⟨#[61,61]⟩,⟨#[33,61]⟩,⟨#[60]⟩,⟨#[60,61]⟩,⟨#[97,110,100]⟩,⟨#[111,114]⟩]
def sO(e:aa):Prop:=
 (0<=e.aj/\e.aj<=14)/\eo e.name/\eo e.s/\e.aF.length<=8/\e.binds.length<=8/\e.aG.length<=9/\(∀x∈e.aF,eo x)/\(∀x∈e.binds,eo x)/\(0<=e.n/\e.n<=100)/\
 (e.aj=6->e.aG.length=e.aF.length)/\(e.aj=7->e.aG.length=e.aF.length+1)/\(e.aj=8->e.aG.length=1)/\(e.aj=10->e.aG.length=e.aF.length+1)/\(e.aj=11->e.aG.length=2)/\(e.aj=12->e.aG.length=3)/\
 (e.aj=13->e.aG.length=e.aF.length+1/\e.binds.length=e.aF.length)/\(e.aj=14->(e.aG.length=2/\e.name∈kV)\/(e.aG.length=1/\e.name=⟨#[110,111,116]⟩))/\(e.aj=5->e.aG.length<=1)
def dz:Nat->aa->Prop
 |0,_=>False
 |d+1,e=>sO e/\∀k∈e.aG,dz d k
theorem dz.mono:{d:Nat}->{t:aa}->dz d t->dz (d+1) t
 |0,_,h=>h.elim
 |d+1,t,⟨a,k⟩=>⟨a,λx hx=>(k x hx).mono⟩
def dz.le{d e:Nat}{t:aa}(h:dz d t)(l:d<=e):dz e t:=by
 induction l with
 |refl=>exact h
 |step _ ih=>exact ih.mono
structure WB(l:List Int)(ss:List ar)(ts:List ac)(fs:List aU):Prop where
 l:∀x∈l,kj x
 sn:1<=ss.length/\ss.length<=2
 tn:ts.length<=3
 fn:fs.length<=16
 s:∀s∈ss,(1<=s.bG.length/\s.bG.length<=3)/\eo s.name/\∀c∈s.bG,eo c.name/\(c.has=true->eM [] 2 c.arg)
 t:∀t∈ts,eo t.name/\t.af.length<=5/\∀c∈t.af,eo c.name/\eM (ss.map (·.name)) 1 c.bx
 f:∀f∈fs,eo f.name/\eo f.cC/\f.params.length<=3/\(0<=f.gr/\f.gr<=f.params.length)/\(∀p∈f.params,eM (ss.map (·.name)) 3 p)/\eM (ss.map (·.name)) 3 f.lz
def TM{x n:Int}(hx:kj x)(hn:0<n):T (Ni x n) λr=>0<=r/\r<n:=by
 unfold Ni kj at*;have ef:∀a:Int,0<=a->T ((aS (n≠0)).bind λ_=>some (a.tmod n)) λr=>0<=r/\r<n:=λa ha=>
  T.aS (by omega) (T.some ⟨an1 _ ha,an2 _ hn⟩)
 refine T.bind (T.bif (λh=>T.some ?_) λh=>T.some ?_)
 ·simp only[amS]at h;exact ef _ (by rw[amG,amG];omega)
 ·simp only[anh]at h;exact ef _ (by omega)
def TN{l:amx Int}{i n:Int}(hl:∀x∈l,kj x)(hn:0<n):T (om l i n) λr=>0<=r/\r<n:=by
 unfold om;refine T.bind (T.bif (λh=>T.some ?_) λh=>T.some ?_)
 ·exact T.some ⟨by omega,hn⟩
 ·simp only[anh,amJ]at h |-;refine T.bif (λ_=>T.some ⟨by omega,hn⟩) λh2=>?_
  simp only[anh]at h2;exact T.eA ⟨by omega,by omega⟩ λx hx _=>T.step (TM (hl x hx) hn) λa ha=>T.some ha
def sP{b:ay}{n:Int}(hl:∀x∈b.l,kj x)(hn:0<n):T (gc b n) λr=>0<=r.1/\r.1<n:=by
 unfold gc;exact T.step (TN hl hn) λa ha=>T.some ha
def mD:eo ⟨#[]⟩:=eK (l:=[⟨#[]⟩]) (by decide) _ (by simp)
section types
variable {ns:amx amw}{d:Nat}
def dR{k:Int}(h:0<=k/\k<=2):eM ns (d+1) (ai.mk k ⟨#[]⟩ 0 [] []):=⟨⟨h.1,by dsimp only;omega,λ_=>rfl⟩,λe=>by dsimp only at e;omega,λe=>by dsimp only at e;omega,λe=>by dsimp only at e;omega,mD,by simp,by simp,by simp,by simp⟩
def sy{n:amw}(h:n∈ns)(k:eo n):eM ns (d+1) (ai.mk 3 n 0 [] []):=⟨⟨by simp,by simp,λ_=>rfl⟩,λ_=>h,by simp,by simp,k,by simp,by simp,by simp,by simp⟩
def iJ{t:ai}(h:eM ns d t):eM ns (d+1) (ai.mk 4 ⟨#[]⟩ 0 [] [t]):=⟨⟨by simp,by simp,by simp⟩,by simp,by simp,by simp,mD,by simp,by simp,by simp,by simpa using h⟩
def sA{ls:amx amw}{ts:amx ai}(hl:ls.length=ts.length)(h8:ls.length<=8)(hs:∀x∈ls,eo x)(ht:∀t∈ts,eM ns d t):eM ns (d+1) (ai.mk 5 ⟨#[]⟩ 0 ls ts):=⟨⟨by simp,by simp,by simp⟩,by simp,by simp,λ_=>hl.symm,mD,h8,by dsimp only;omega,hs,ht⟩
end types
def RV{b:ay}(h:WB b.l b.aN b.am b.cK):T (Bw b) λr=>eM (b.aN.map (·.name)) 1 r.1:=by
 unfold Bw;have hU:∀x:Int,0<=x->∀i:Int,T ((aS ((3:Int)≠0)).bind λ_=>some ((ai.mk (x.tmod (3:Int)) ⟨#[]⟩ 0 [] []),i)) λr:ai×Int=>eM (b.aN.map (·.name)) 1 r.1:=λx hx i=>by
  have:=an1 3 hx;have:=an2 x (b:=3) (by decide);exact T.aS (by decide) (T.some (dR ⟨by assumption,by omega⟩))
 refine T.step (sP h.l (by decide)) λv hv=>?_
 refine T.bind (T.bif (λe=>T.some ?_) λe=>T.some (hU _ hv.1 _));refine T.bif (λe2=>?_) λe2=>hU _ hv.1 _
 refine T.step (sP (b:=ay.mk _ _ _ _ _ _) h.l (by simpa using e2)) λw hw=>?_
 simp only[amJ]at hw;exact T.eA hw λs hs _=>T.some (sy (aoJ hs) (h.s s hs).2.1)
def RW{ns:amx amw}{t:ac}(hc:t.af.length<=5)(h:∀c∈t.af,eo c.name/\eM ns 1 c.bx):T (Ag t) λu=>eM ns 2 u/\u.aj=5/\u.aF.length=t.af.length:=by
 unfold Ag;refine T.step (T.bg (λj(s:amx amw×amx ai)=>s.1.length=j/\s.2.length=j/\(∀x∈s.1,eo x)/\∀x∈s.2,eM ns 1 x) (Q:=λr=>∃s:amx amw×amx ai,r= .inl s/\s.1.length=t.af.length/\s.2.length=t.af.length/\(∀x∈s.1,eo x)/\∀x∈s.2,eM ns 1 x) ⟨rfl,rfl,by simp,by simp⟩ ?_ ?_) ?_
 ·rintro j c ⟨a1,a2⟩ _ hj ⟨h1,h2,h3,h4⟩;have hj5:j<t.af.length:=by simpa using(an5.1 hj).1
  have hcm:c∈t.af:=anL hj;dsimp only at h1 h2 h3 h4 |-;refine T.step (T.aP (λm(i:Int)=>0<=i/\i<=j/\m=j - i.toNat) (Q:=λr=>∃i:Int,r= .inl i/\0<=i/\i<=j) (m:=j) (by omega) ⟨by simp,by simp,by simp⟩ ?_) ?_
  ·rintro m i ⟨i0,i1,rfl⟩;refine T.bif (λe=>?_) λe=>T.some ⟨i,rfl,i0,i1⟩
   simp only[amJ,amS]at e;refine T.eA ⟨i0,by omega⟩ λx _ _=>T.bif (λ_=>T.some ⟨_,?_,?_,?_,rfl⟩) λ_=>T.some ⟨i,rfl,i0,i1⟩<;>rw[amG]<;>omega
  ·rintro _ ⟨i,rfl,i0,i1⟩;have hi:i.toNat<=j:=by omega
   have l1:((a1.drop (0:Int).toNat).take (i.toNat - (0:Int).toNat)).length=i.toNat:=by simp;omega
   have l2:((a2.drop (0:Int).toNat).take (i.toNat - (0:Int).toNat)).length=i.toNat:=by simp;omega
   have l3:((a1.drop i.toNat).take (((a1.map AV.an).length:Int).toNat - i.toNat)).length=j - i.toNat:=by simp;omega
   have l4:((a2.drop i.toNat).take (((a2.map ai.ak).length:Int).toNat - i.toNat)).length=j - i.toNat:=by simp;omega
   simp only[anb,anP,amB,anE,amO,amA,l1,l2,l3,l4];refine T.aS ⟨by omega,i0,by simp;omega⟩ (T.ck (by omega) (T.ck (by omega) (T.aS ⟨i0,by simp;omega,by omega⟩ (T.ck (by omega) (T.aS ⟨by omega,i0,by simp;omega⟩ (T.ck (by omega) (T.ck (by omega) (T.aS ⟨i0,by simp;omega,by omega⟩ (T.ck (by omega) (T.some ?_))))))))));refine⟨by simp only[amO,l1,l3,amA,amB];omega,by simp only[amO,l2,l4,amA,amB];omega,?_,?_⟩
   ·intro x hx;simp only[amZ,amE,amP,amQ]at hx;rcases hx with(hx|rfl)|hx
    ·exact h3 x (aob (anX hx))
    ·exact(h c hcm).1
    ·exact h3 x (aob (anX hx))
   ·intro x hx;simp only[amZ,amE,amP,amQ]at hx;rcases hx with(hx|rfl)|hx
    ·exact h4 x (aob (anX hx))
    ·exact(h c hcm).2
    ·exact h4 x (aob (anX hx))
 ·rintro⟨a1,a2⟩ ⟨h1,h2,h3,h4⟩;exact⟨_,rfl,by simpa using h1,by simpa using h2,h3,h4⟩
 ·rintro _ ⟨⟨a1,a2⟩,rfl,h1,h2,h3,h4⟩;exact T.some ⟨sA (h1.trans h2.symm) (by dsimp only at h1;omega) h3 h4,rfl,h1⟩
def TO{ns:amx amw}{t:ac}(hc:t.af.length<=5)(h:∀c∈t.af,eo c.name/\eM ns 1 c.bx):T (Ag t) (eM ns 2):=(RW hc h).mono λ_ h=>h.1
def RX{b:ay}(h:WB b.l b.aN b.am b.cK){β:Type}{Q:β->Prop}{f:Int×Int->ac->ai->amy β}(i:Int)(hp:decide (((b.am.map ac.ak).length:Int)>0)=true)
 (k:∀v u t,u∈b.am->eM (b.aN.map (·.name)) 2 t->T (f v u t) Q):T ((gc (ay.mk b.l i b.cC b.aN b.am b.cK) ((b.am.map ac.ak).length:Int)).bind λv=>(au b.am v.1).bind λu=>(Ag u).bind λw=>f v u w) Q:=by
 refine T.step (sP (b:=ay.mk _ _ _ _ _ _) h.l (by simpa using hp)) λw hw=>?_
 simp only[amJ]at hw;exact T.eA hw λt ht _=>T.step (TO (h.t t ht).2.1 (h.t t ht).2.2) λr hr=>k _ _ _ ht hr
def TP{b:ay}(h:WB b.l b.aN b.am b.cK):T (Nl b) λr=>eM (b.aN.map (·.name)) 3 r.1:=by
 unfold Nl;refine T.step (sP h.l (by decide)) λv hv=>?_
 have ae5:∀i,T (Bw (ay.mk b.l i b.cC b.aN b.am b.cK)) λr=>eM (b.aN.map (·.name)) 1 r.1:=λi=>RV (b:=ay.mk _ _ _ _ _ _) h
 have last:∀i,T ((Bw (ay.mk b.l i b.cC b.aN b.am b.cK)).bind λv25=>some ((ai.mk (5:Int) (⟨#[]⟩) (0:Int) [⟨#[97]⟩,⟨#[98]⟩] [v25.1,(ai.mk (0:Int) (⟨#[]⟩) (0:Int) [] [])]),v25.2)) λr=>eM (b.aN.map (·.name)) 3 r.1:=λi=>
  T.step (ae5 i) λr hr=>T.some (sA rfl (by decide) (eK (by decide)) (by
   intro t ht;simp only[amE,amP,amQ]at ht;rcases ht with rfl|rfl
   ·exact hr.mono
   ·exact dR (by decide)))
 refine T.bind (T.bind (T.mono (P:=λr=>∃c,r= .inl c) ?_ ?_))
 ·repeat' first|exact T.some ⟨_,rfl⟩|refine T.bif (λ_=>?_) λ_=>?_
 rintro _ ⟨c,rfl⟩;refine T.bif (λ_=>T.step (ae5 _) λr hr=>T.some (T.some (hr.le (by decide)))) λ_=>T.bif (λ_=>T.step (ae5 _) λr hr=>T.some (T.some ((iJ hr).le (by decide)))) λ_=>T.bif (λ_=>?_) λ_=>T.bif (λ_=>?_) λ_=>T.some (last _)
 ·refine T.bif (λe=>RX h _ e λ_ _ t _ ht=>?_) λ_=>T.some (last _)
  exact T.some (T.some ht.mono)
 ·refine T.bif (λe=>RX h _ e λ_ _ t _ ht=>?_) λ_=>T.some (last _)
  exact T.some (T.some (iJ ht))
def RY{b:ay}(n:amw)(hn:n∈b.aN.map (·.name)):T (Ds b n) λr=>r.1∈b.aN:=by
 unfold Ds;refine T.dg (λj _=>∀(i:Nat)(s:ar),i<j->b.aN[i]?=some s->s.name≠n) (by intro i s hi;omega) ?_ ?_
 ·intro j s _ hj hs hlt hI;refine T.bif (λe=>T.some (T.some hs)) λe=>T.some ?_
  intro i s' hi hs';by_cases hij:i=j
  ·subst hij;rw[hj]at hs';cases hs';intro e2;rw[e2]at e;simp at e
  ·exact hI i s' (by omega) hs'
 ·intro _ hI;obtain⟨s,hs,rfl⟩:=am3.1 hn;obtain⟨i,hi,e⟩:=List.getElem_of_mem hs;exact absurd rfl (hI i s hi (by rw[<-e];simp[hi]))
def pM(ns:amx amw)(l:amx aE):Prop:=∀x∈l,eo x.name/\eM ns 4 x.bx
def RZ{ns:amx amw}{l:amx aE}{n:amw}{t:ai}(hl:pM ns l)(hb:l.length<=1000)(hn:eo n)(ht:eM ns 4 t):T (Kz l n t) λr=>pM ns r/\r.length<=l.length+1:=by
 unfold Kz;refine T.dg (λj s=>pM ns s/\s.length<=j+1) ⟨by intro x hx;simp at hx;subst hx;exact⟨hn,ht⟩,by simp⟩ ?_ λs hs=>T.some hs
 intro j x s hj hx hlt ⟨h1,h2⟩;refine T.bind (T.bif (λ_=>T.ck (by simp;omega) (T.some (T.some ⟨?_,by simp;omega⟩))) λ_=>T.some (T.some ⟨h1,by omega⟩));intro y hy;simp only[amZ,amE,amP,amQ]at hy;rcases hy with hy|rfl
 ·exact h1 y hy
 ·exact hl y hx
def R1(l:amx aE)(n:amw):T (Du l n) λ_=>True:=by
 unfold Du;exact T.dg (λ_ _=>True) trivial (λ_ _ _ _ _ _ _=>T.bif (λ_=>T.some (T.some trivial)) λ_=>T.some trivial) λ_ _=>T.some trivial
def TQ{b:ay}(h:WB b.l b.aN b.am b.cK){l:amx aE}(hl:l.length<=1000):T (Nn b l) λr=>eo r.1:=by
 unfold Nn;refine T.bind (T.mono (P:=λr=>r.1=true->0<b.am.length) (T.bif (λe=>?_) λe=>T.some (by simp)) ?_)
 ·have:0<b.am.length:=by simpa using e
  exact T.step (sP h.l (by decide)) λv _=>T.some λ_=>this
 ·rintro⟨a1,a2⟩ ha;refine T.bif (λe=>?_) λ_=>?_
  ·refine T.step (sP (b:=ay.mk _ _ _ _ _ _) h.l (by simpa using ha e)) λv hv=>?_
   simp only[amJ]at hv;exact T.eA hv λt ht _=>T.some (h.t t ht).1
  ·refine T.step (sP (b:=ay.mk _ _ _ _ _ _) h.l (by decide)) λv hv=>T.aS (by decide) ?_
   have e:IntKind.i64.wrap (((l.map aE.ak).length:Int)+v.1)=l.length+v.1:=by rw[amG];simp only[amJ];omega
   have:=an1 6 (a:=l.length+v.1) (by omega);have:=an2 (l.length+v.1) (b:=6) (by decide);rw[e];refine T.eA ⟨by assumption,by simpa using by assumption⟩ λx hx _=>T.some ?_
   have:∀x∈([⟨#[120]⟩,⟨#[121]⟩,⟨#[122]⟩,⟨#[117]⟩,⟨#[118]⟩,⟨#[119]⟩]:amx amw),eo x:=eK (by decide);exact this x hx
def XN(a c:amx amw):T (A6 a c) λ_=>True:=by
 unfold A6;refine T.bif (λ_=>T.some trivial) λe=>?_
 simp only[amJ,bne_eq_false_iff_eq,Int.natCast_inj]at e;exact T.dg (λ_ _=>True) trivial (λj x _ _ _ hlt _=>T.eA ⟨by omega,by omega⟩ λ_ _ _=>T.bif (λ_=>T.some (T.some trivial)) λ_=>T.some trivial) λ_ _=>T.some trivial
def DC{ns:amx amw}:{d n:Nat}->{a c:ai}->eM ns d a->d<=n->T (ue n a c) λ_=>True
 |0,_,_,_,h,_=>h.elim
 |d+1,0,_,_,_,h=>absurd h (by omega)
 |d+1,n+1,a,c,h,hn=>by
  unfold ue;refine T.bind (T.mono (P:=λ_=>True) (T.bif (λ_=>T.some trivial) λ_=>T.some trivial) λa1 _=>?_);refine T.bind (T.mono (P:=λ_=>True) (T.bif (λ_=>T.some trivial) λ_=>T.some trivial) λa4 _=>?_);refine T.bind (T.mono (P:=λr=>r=false->a.aG.length=c.aG.length) (T.bif (λ_=>T.some (by simp)) λ_=>T.some (by simp;omega)) λa7 h7=>?_);refine T.bind (T.mono (P:=λr=>r=false->a.aG.length=c.aG.length) (T.bif (λ_=>T.some (by simp)) λe=>T.step (XN _ _) λ_ _=>T.some λ_=>h7 e) λa10 h10=>?_);refine T.bif (λ_=>T.some trivial) λe=>?_
  have hl:=h10 e;exact T.dg (λ_ _=>True) trivial (λj x _ _ hx hlt _=>T.eA ⟨by omega,by omega⟩ λy _ _=>T.step (DC (h.2.2.2.2.2.2.2.2 x hx) (by omega)) λ_ _=>T.bif (λ_=>T.some (T.some trivial)) λ_=>T.some trivial) λ_ _=>T.some trivial
section ahb
variable {d:Nat}
def uy{k:Int}{n:amw}{v:Int}{s:amw}{ns bs:amx amw}{ks:amx aa}{p q:Int}(h:sO (aa.mk k n v s ns bs ks p q))(hk:∀x∈ks,dz d x):dz (d+1) (aa.mk k n v s ns bs ks p q):=⟨h,hk⟩
def uz{v:Int}(h:0<=v/\v<=100):dz (d+1) (aa.mk 0 ⟨#[]⟩ v ⟨#[]⟩ [] [] [] 0 0):=uy (by simp[sO,mD,h]) (by simp)
def XO{s:amw}(h:eo s):dz (d+1) (aa.mk 1 ⟨#[]⟩ 0 s [] [] [] 0 0):=uy (by simp[sO,mD,h]) (by simp)
def XP{v:Int}(h:0<=v/\v<=100):dz (d+1) (aa.mk 2 ⟨#[]⟩ v ⟨#[]⟩ [] [] [] 0 0):=uy (by simp[sO,mD,h]) (by simp)
def Nw{n:amw}(h:eo n):dz (d+1) (aa.mk 3 n 0 ⟨#[]⟩ [] [] [] 0 0):=uy (by simp[sO,mD,h]) (by simp)
def R4{n s:amw}{ks:amx aa}(h:eo n)(hs:eo s)(hl:ks.length<=9)(hk:∀x∈ks,dz d x):dz (d+1) (aa.mk 4 n 0 s [] [] ks 0 0):=uy (by simp[sO,h,hs,hl]) hk
def TR{n:amw}{ks:amx aa}(h:eo n)(hl:ks.length<=1)(hk:∀x∈ks,dz d x):dz (d+1) (aa.mk 5 n 0 ⟨#[]⟩ [] [] ks 0 0):=uy (by simp[sO,mD,h,hl];omega) hk
def XQ{ns:amx amw}{ks:amx aa}(h:ns.length<=8)(hl:ks.length=ns.length)(hs:∀x∈ns,eo x)(hk:∀x∈ks,dz d x):dz (d+1) (aa.mk 6 ⟨#[]⟩ 0 ⟨#[]⟩ ns [] ks 0 0):=uy (by simp[sO,mD,h,hl];exact⟨by omega,hs⟩) hk
def XR{n:amw}{a c:aa}(h:eo n)(ha:dz d a)(hc:dz d c):dz (d+1) (aa.mk 7 ⟨#[]⟩ 0 ⟨#[]⟩ [n] [] [a,c] 0 0):=uy (by simp[sO,mD,h]) (by simp[ha,hc])
def XS{n:amw}{a:aa}(h:eo n)(ha:dz d a):dz (d+1) (aa.mk 8 n 0 ⟨#[]⟩ [] [] [a] 0 0):=uy (by simp[sO,mD,h]) (by simp[ha])
def wE9{ks:amx aa}(h:ks.length<=9)(hk:∀x∈ks,dz d x):dz (d+1) (aa.mk 9 ⟨#[]⟩ 0 ⟨#[]⟩ [] [] ks 0 0):=uy (by simp[sO,mD,h]) hk
def XT{ns:amx amw}{ks:amx aa}(h:ns.length<=8)(hl:ks.length=ns.length+1)(hs:∀x∈ns,eo x)(hk:∀x∈ks,dz d x):dz (d+1) (aa.mk 10 ⟨#[]⟩ 0 ⟨#[]⟩ ns [] ks 0 0):=uy (by simp[sO,mD,h,hl];exact hs) hk
def XU{n:amw}{a c:aa}(h:eo n)(ha:dz d a)(hc:dz d c):dz (d+1) (aa.mk 11 n 0 ⟨#[]⟩ [] [] [a,c] 0 0):=uy (by simp[sO,mD,h]) (by simp[ha,hc])
def R5{a c e:aa}(ha:dz d a)(hc:dz d c)(he:dz d e):dz (d+1) (aa.mk 12 ⟨#[]⟩ 0 ⟨#[]⟩ [] [] [a,c,e] 0 0):=uy (by simp[sO,mD]) (by simp[ha,hc,he])
def XV{ns bs:amx amw}{ks:amx aa}(h:ns.length<=8)(hl:ks.length=ns.length+1)(hb:bs.length=ns.length)(hs:∀x∈ns,eo x)(hs2:∀x∈bs,eo x)(hk:∀x∈ks,dz d x):dz (d+1) (aa.mk 13 ⟨#[]⟩ 0 ⟨#[]⟩ ns bs ks 0 0):=uy (by simp[sO,mD,h,hl,hb];exact⟨hs,hs2⟩) hk
def R6{n:amw}(h:n∈kV):eo n:=by
 have:∀n∈kV,eo n:=eK (by decide);exact this n h
def nN{n:amw}{a c:aa}(h:n∈kV)(ha:dz d a)(hc:dz d c):dz (d+1) (aa.mk 14 n 0 ⟨#[]⟩ [] [] [a,c] 0 0):=uy (by simp[sO,mD,h,R6 h]) (by simp[ha,hc])
def KD{a:aa}(ha:dz d a):dz (d+1) (aa.mk 14 ⟨#[110,111,116]⟩ 0 ⟨#[]⟩ [] [] [a] 0 0):=uy (by simp[sO,mD];exact eK (l:=[⟨#[110,111,116]⟩]) (by decide) _ (by simp)) (by simp[ha])
end ahb
def bT{α:Type}{P:α->Prop}{l:amx α}{x:α}(h:∀y∈l,P y)(k:P x):∀y∈l++[x],P y:=by
 intro y hy;rcases amZ.1 hy with hy|hy
 ·exact h y hy
 ·rw[aov.1 hy];exact k
def ZI{ns:amx amw}{l:amx aE}{t:ai}(hl:pM ns l)(hb:l.length<=1000):T (Tu l t) λr=>r.length<=9000/\∀x∈r,dz 2 x:=by
 unfold Tu;refine T.dg (λj s=>s.length<=9*j/\∀x∈s,dz 2 x) ⟨by simp,by simp⟩ ?_ λs hs=>T.some ⟨by omega,hs.2⟩
 intro j x s hj hx hlt ⟨h1,h2⟩;have hw:=(hl x hx);have hn8:x.bx.aF.length<=8:=hw.2.2.2.2.2.2.1;refine T.step (DC hw.2 (by decide)) λb _=>?_
 refine T.bind (T.mono (P:=λr=>∃s',r= .inl s'/\s'.length<=9*j+1/\∀x∈s',dz 2 x) ?_ ?_)
 ·exact T.bif (λ_=>T.ck (by simp;omega) (T.some ⟨_,rfl,by simp;omega,bT h2 (Nw hw.1)⟩)) λ_=>T.some ⟨_,rfl,by omega,h2⟩
 ·rintro _ ⟨s',rfl,g1,g2⟩;refine T.ju (λm(q:amx aa×Int)=>0<=q.2/\q.2<=8/\m=8 - q.2.toNat/\q.1.length<=9*j+1+q.2.toNat/\∀x∈q.1,dz 2 x) (m:=8) (by decide) ⟨by simp,by simp,by simp,by simpa using g1,g2⟩ ?_;rintro m ⟨a16,a17⟩ ⟨i0,i1,rfl,g1,g2⟩;dsimp only at i0 i1 g1 g2 |-;refine T.bind (T.mono (P:=λr=>r=true->a17<x.bx.aF.length/\a17<x.bx.aG.length) (T.bif (λe=>T.some λe2=>⟨by simpa using e,by simpa using e2⟩) λ_=>T.some (by simp)) λa21 h21=>?_);refine T.bif (λe=>?_) λ_=>T.some (T.some ⟨by omega,g2⟩)
  obtain⟨p1,p2⟩:=h21 e;refine T.bind (T.mono (P:=λr=>∃s',r= .inl s'/\s'.length<=9*j+1+(a17.toNat+1)/\∀x∈s',dz 2 x) ?_ ?_)
  ·refine T.eA ⟨i0,p2⟩ λy hy _=>T.step (DC (d:=3) (hw.2.2.2.2.2.2.2.2.2 y hy) (by decide)) λb2 _=>?_
   exact T.bif (λ_=>T.eA ⟨i0,p1⟩ λn hn _=>T.ck (by simp;omega) (T.some ⟨_,rfl,by simp;omega,bT g2 (XS (hw.2.2.2.2.2.2.2.2.1 n hn) (Nw hw.1))⟩)) λ_=>T.some ⟨_,rfl,by omega,g2⟩
  ·rintro _ ⟨s',rfl,k1,k2⟩;have:IntKind.i64.wrap (a17+1)=a17+1:=by rw[amG];omega
   refine T.some ⟨_,?_,?_,?_,rfl,?_,k2⟩<;>dsimp only<;>rw[this]<;>omega
def XW{b:ay}(h:WB b.l b.aN b.am b.cK)(l:amx aE)(t:ai):T (Jt b l t) λr=>dz 1 r.1:=by
 unfold Jt;refine T.dg (λ_ _=>True) trivial (λj u _ _ hu _ _=>T.step (R1 _ _) λv _=>T.bif (λ_=>T.step (TO (h.t u hu).2.1 (h.t u hu).2.2) λw hw=>T.step (DC hw (by decide)) λ_ _=>T.bif (λ_=>T.some (T.some (Nw (h.t u hu).1))) λ_=>T.some trivial) λ_=>T.some trivial) λ_ _=>T.some (uz (by decide))
def JL{l:amx Int}{m:amw}{ss:amx ar}{ts:amx ac}{fs:amx aU}(h:WB l ss ts fs){ns:amx amw}{e:Nat}
 (hs:∀x∈ns,x∈ss.map (·.name)/\2<=e/\∀i n t,eM [] 2 t->2<=n->T (D5 n (ay.mk l i m ss ts fs) t) λr=>dz 2 r.1):
 (d n:Nat)->(i:Int)->(t:ai)->eM ns d t->d+e<=n->T (D5 n (ay.mk l i m ss ts fs) t) λr=>dz (d+e) r.1
 |0,_,_,_,h,_=>h.elim
 |d+1,0,_,_,_,h=>absurd h (by omega)
 |d+1,n+1,i,t,ht,hn=>by
  have hle:∀{x:aa},dz 1 x->dz (d+1+e) x:=λhx=>hx.le (by omega)
  unfold D5;refine T.bif (λ_=>?_) λn0=>T.bif (λ_=>?_) λn1=>T.bif (λ_=>?_) λn2=>T.bif (λe3=>?_) λn3=>T.bif (λe4=>?_) λn4=>?_
  ·refine T.step (sP (b:=ay.mk _ _ _ _ _ _) h.l (by decide)) λv hv=>T.eA hv λx hx _=>T.some (hle (uz ?_))
   have:∀x∈([(0:Int),1,2,3,10]),0<=x/\x<=100:=by decide
   exact this x hx
  ·refine T.step (sP (b:=ay.mk _ _ _ _ _ _) h.l (by decide)) λv hv=>T.eA hv λx hx _=>T.some (hle (XO ?_))
   have:∀x∈([⟨#[]⟩,⟨#[97]⟩,⟨#[98]⟩,⟨#[97,98]⟩]:amx amw),eo x:=eK (by decide);exact this x hx
  ·exact T.step (sP (b:=ay.mk _ _ _ _ _ _) h.l (by decide)) λv hv=>T.some (hle (XP ⟨hv.1,by omega⟩))
  ·have hk:t.aj=3:=by simpa using e3
   obtain⟨hn1,he,hr⟩:=hs _ (ht.2.1 hk);refine T.step (RY (b:=ay.mk _ _ _ _ _ _) _ hn1) λv hv=>T.bif (λ_=>T.some (hle (uz (by decide)))) λ_=>?_
   have hv1:=h.s _ hv;refine T.step (sP (b:=ay.mk _ _ _ _ _ _) h.l (by simp;omega)) λw hw=>?_
   simp only[amJ]at hw;refine T.eA hw λc hc _=>?_
   have hc1:=hv1.2.2 c hc;refine T.bind (T.bif (λe=>T.step (hr _ _ _ (hc1.2 e) (by omega)) λr hr=>T.some (T.some ?_)) λ_=>T.some (T.some (hle (TR hc1.1 (by simp) (by simp)))));exact(TR (d:=2) hc1.1 (by simp) (by simpa using hr)).le (by omega)
  ·have hk:t.aj=4:=by simpa using e4
   have hl:=ht.2.2.1 hk;refine T.step (sP (b:=ay.mk _ _ _ _ _ _) h.l (by decide)) λv hv=>?_
   refine T.ju (λm(q:Int×amx aa×Int)=>0<=q.1/\q.1<=2/\m=q.1.toNat/\q.2.1.length+q.1.toNat<=2/\∀x∈q.2.1,dz (d+e) x) (m:=v.1.toNat) (by omega) ⟨hv.1,by show v.1<=2;omega,rfl,by simp;omega,by simp⟩ ?_;rintro m ⟨a22,a23,a24⟩ ⟨i0,i1,rfl,g1,g2⟩;dsimp only at i0 i1 g1 g2 |-;refine T.bif (λe=>?_) λ_=>T.some (T.some ((wE9 (by omega) g2).le (by omega)))
   have hp:0<a22:=by simpa using e
   refine T.eA ⟨by omega,by omega⟩ λk hk _=>T.step (JL h hs d n _ k (ht.2.2.2.2.2.2.2.2 k hk) (by omega)) λr hr=>T.ck (by simp;omega) ?_
   have:IntKind.i64.wrap (a22 - 1)=a22 - 1:=by rw[amG];omega
   refine T.some ⟨(a22 - 1).toNat,?_,?_,?_,?_,?_,bT g2 hr⟩<;>(try simp only[this,amO,amA,amB])<;>omega
  ·have h8:=ht.2.2.2.2.2.2.1;have aju:t.aG.length=t.aF.length:=ht.2.2.2.1 (by have:=ht.1;simp only[anl,ne_eq]at n0 n1 n2 n3 n4;omega);refine T.dg (λj(q:amx aa×Int)=>q.1.length=j/\∀x∈q.1,dz (d+e) x) ⟨rfl,by simp⟩ ?_ ?_
   ·rintro j k ⟨a33,a34⟩ _ hk hlt ⟨g1,g2⟩;dsimp only at g1 g2 |-;exact T.step (JL h hs d n _ k (ht.2.2.2.2.2.2.2.2 k hk) (by omega)) λr hr=>T.ck (by simp;omega) (T.some ⟨by simp[g1],bT g2 hr⟩)
   ·rintro⟨a33,a34⟩ ⟨g1,g2⟩;dsimp only at g1 g2 |-;exact T.some ((XQ (by omega) (by omega) ht.2.2.2.2.2.2.2.1 g2).le (by omega))
end
section
set_option linter.unusedVariables false
set_option linter.unusedSectionVars false
theorem eM.sub{ns ns':amx amw}(hs:∀x∈ns,x∈ns'):{d:Nat}->{t:ai}->eM ns d t->eM ns' d t
 |0,_,h=>h.elim
 |d+1,t,⟨a,b,c,e,f,g,i,j,k⟩=>⟨a,λe=>hs _ (b e),c,e,f,g,i,j,λx hx=>(k x hx).sub hs⟩
section
variable {l:amx Int}{m:amw}{ss:amx ar}{ts:amx ac}{fs:amx aU}
abbrev eT(ss:amx ar):amx amw:=ss.map (·.name)
theorem XX(h:WB l ss ts fs){d n:Nat}{i:Int}{t:ai}(ht:eM (eT ss) d t)(hn:d+2<=n):T (D5 n (ay.mk l i m ss ts fs) t) λr=>dz (d+2) r.1:=JL h (λx hx=>⟨hx,by omega,λi n t ht hn=>JL (ns:=[]) (e:=0) h (by simp) 2 n i t ht hn⟩) d n i t ht hn
theorem qn(h:WB l ss ts fs){i n:Int}{β:Type}{f:Int×Int->amy β}{Q:β->Prop}(hn:0<n)(k:∀v:Int×Int,0<=v.1->v.1<n->T (f v) Q):T ((gc (ay.mk l i m ss ts fs) n).bind f) Q:=T.step (sP (b:=ay.mk _ _ _ _ _ _) h.l hn) λv hv=>k v hv.1 hv.2
theorem iW{α β:Type}(h:WB l ss ts fs){i n:Int}{xs:amx α}{f:Int×Int->α->amy β}{Q:β->Prop}(e:n=xs.length)(hn:0<xs.length)(k:∀v x,x∈xs->T (f v x) Q):T ((gc (ay.mk l i m ss ts fs) n).bind λv=>(au xs v.1).bind λx=>f v x) Q:=by
 subst e;exact qn h (by omega) λv h0 h1=>T.eA ⟨h0,h1⟩ λx hx _=>k v x hx
def ZJ(l:amx Int)(m:amw)(ss:amx ar)(ts:amx ac)(fs:amx aU)(d:Nat):Prop:=∀(n:Nat)(i:Int)(dX:amx aE)(t:ai)(p:Int),4*d+1<=n->pM (eT ss) dX->dX.length+4*d<=900->eM (eT ss) 4 t->0<=p->p<=d->T (jc n (ay.mk l i m ss ts fs) dX t p) λr=>dz (2*d+6) r.1
variable {d:Nat}(h:WB l ss ts fs)(ih:ZJ l m ss ts fs d)
include h ih
theorem wr1{p:Int}(h0:0<p)(h1:p<=d+1)(hd:d<=200):IntKind.i64.wrap (p - 1)=p - 1:=by rw[amG];omega
theorem mF{n:Nat}{i p:Int}{dX:amx aE}{t:ai}{β:Type}{f:aa×Int->amy β}{Q:β->Prop}(hd:d<=200)(hn:4*d+1<=n)(he:pM (eT ss) dX)(hb:dX.length+4*d<=900)(ht:eM (eT ss) 4 t)(h0:0<p)(h1:p<=d+1)
 (k:∀r:aa×Int,dz (2*d+6) r.1->T (f r) Q):T ((jc n (ay.mk l i m ss ts fs) dX t (IntKind.i64.wrap (p - 1))).bind f) Q:=
 T.step (by rw[wr1 h ih h0 h1 hd];exact ih n i dX t (p - 1) hn he hb ht (by omega) (by omega)) k
theorem XY(hd:d<=200){n:Nat}{i p:Int}{dX:amx aE}(hn:4*d+2<=n)(he:pM (eT ss) dX)(hb:dX.length+4*d<=900)(h0:0<p)(h1:p<=d+1):T (Jw n (ay.mk l i m ss ts fs) dX p) λr=>dz (2*d+6) r.1/\eM (eT ss) 4 r.2.1:=by
 cases n with
 |zero=>omega
 |succ n=>
  unfold Jw;refine T.bind (T.mono (P:=λr=>r.1=true->0<ts.length) (T.bif (λe=>qn h (by decide) λv _ _=>T.some λ_=>by simpa using e) λ_=>T.some (by simp)) ?_);rintro⟨a1,a2⟩ ha;have last:∀i,T ((Bw (ay.mk l i m ss ts fs)).bind λv15=>(jc n (ay.mk l v15.2 m ss ts fs) dX (ai.mk (4:Int) (⟨#[]⟩) (0:Int) [] [v15.1]) (IntKind.i64.wrap (p - (1:Int)))).bind λv16=>some (v16.1,v15.1,v16.2)) λr=>dz (2*d+6) r.1/\eM (eT ss) 4 r.2.1:=λi=>
   T.step (RV (b:=ay.mk _ _ _ _ _ _) h) λt ht=>mF h ih hd (by omega) he hb ((iJ ht).le (by decide)) h0 h1 λr hr=>T.some ⟨hr,ht.le (by decide)⟩
  refine T.bind (T.bif (λe=>iW h (by simp) (ha e) λv t ht=>T.step (R1 _ _) λb _=>T.bif (λ_=>T.step (TO (h.t t ht).2.1 (h.t t ht).2.2) λw hw=>T.some (T.some ⟨(Nw (d:=2*d+5) (h.t t ht).1),hw.le (by decide)⟩)) λ_=>T.some (last _)) λ_=>T.some (last _))
theorem XZ(hd:d<=200){n:Nat}{i p k:Int}{dX:amx aE}(hn:4*d+2<=n)(he:pM (eT ss) dX)(hb:dX.length+4*d<=900)(h0:0<p)(h1:p<=d+1):T (Ju n (ay.mk l i m ss ts fs) dX p k) λr=>dz (2*d+7) r.1:=by
 cases n with
 |zero=>omega
 |succ n=>
  have R:∀{i:Int}{t:ai}{β:Type}{f:aa×Int->amy β}{Q:β->Prop},eM (eT ss) 4 t->(∀r:aa×Int,dz (2*d+6) r.1->T (f r) Q)->T ((jc n (ay.mk l i m ss ts fs) dX t (IntKind.i64.wrap (p - 1))).bind f) Q:=λht k=>mF h ih hd (by omega) he hb ht h0 h1 k
  unfold Ju;refine T.bif (λ_=>R (dR (by decide)) λr hr=>iW h rfl (by decide) λv o ho=>R (dR (by decide)) λr2 hr2=>T.some (nN ?_ hr hr2)) λ_=>T.bif (λ_=>qn h (by decide) λv _ _=>T.bif (λ_=>R (dR (by decide)) λr hr=>T.some (KD hr)) λ_=>iW h rfl (by decide) λv o ho=>R (iJ (dR (by decide))) λr hr=>T.some (R4 ?_ mD (by simp) (by simpa using hr))) λ_=>T.step (RV (b:=ay.mk _ _ _ _ _ _) h) λt ht=>R (ht.le (by decide)) λr hr=>iW h rfl (by decide) λv o ho=>R (ht.le (by decide)) λr2 hr2=>T.some (nN ?_ hr hr2)
  ·simp only[amE,amP,amQ]at ho;rcases ho with rfl|rfl<;>simp[kV]
  ·have:∀o∈([⟨#[97,110,121]⟩,⟨#[97,108,108]⟩]:amx amw),eo o:=eK (by decide);exact this o ho
  ·simp only[amE,amP,amQ]at ho;rcases ho with rfl|rfl|rfl|rfl<;>simp[kV]
theorem X0(hd:d<=200){n:Nat}{i p:Int}{dX:amx aE}{t:ai}(hn:4*d+3<=n)(he:pM (eT ss) dX)(hb:dX.length+4*d+4<=900)(ht:eM (eT ss) 4 t)(h0:0<p)(h1:p<=d+1):T (Jv n (ay.mk l i m ss ts fs) dX t p) λr=>dz (2*d+7) r.1:=by
 cases n with
 |zero=>omega
 |succ n=>
  unfold Jv;refine qn h (by decide) λv v0 v1=>?_
  have ew:IntKind.i64.wrap (1+v.1)=1+v.1:=by rw[amG];omega
  refine T.ju (λq(s:amx amw×amx aa×amx aE×Int×Int)=>0<=s.2.2.2.1/\s.2.2.2.1<=2/\q=s.2.2.2.1.toNat/\pM (eT ss) s.2.2.1/\s.2.2.1.length+q<=dX.length+2/\s.1.length=s.2.1.length/\s.1.length+2*q<=4/\(∀x∈s.1,eo x)/\∀x∈s.2.1,dz (2*d+6) x) (m:=(1+v.1).toNat) (by omega) ⟨by dsimp only;omega,by dsimp only;omega,by dsimp only;rw[ew],he,by dsimp only;omega,rfl,by simp;omega,by simp,by simp⟩ ?_;rintro q ⟨a2,a3,a4,a5,a6⟩ ⟨g1,g2,rfl,g3,g4,g5,g6,g7,g8⟩;dsimp only at g1 g2 g3 g4 g5 g6 g7 g8 |-;refine T.bif (λe=>?_) λ_=>T.some ?_
  ·have hp:0<a5:=by simpa using e
   have ew2:IntKind.i64.wrap (a5 - 1)=a5 - 1:=by rw[amG];omega
   refine T.bind (T.mono (P:=λr=>∃s:amx amw×amx aa×amx aE×Int,r= .inl s/\pM (eT ss) s.2.2.1/\s.2.2.1.length<=a4.length+1/\s.1.length=s.2.1.length/\s.1.length<=a2.length+2/\(∀x∈s.1,eo x)/\∀x∈s.2.1,dz (2*d+6) x) ?_ ?_)
   ·refine T.step (XY h ih hd (by omega) g3 (by omega) h0 h1) λr hr=>T.step (TQ (b:=ay.mk _ _ _ _ _ _) h (by omega)) λu hu=>T.ck (by simp;omega) (T.ck (by simp;omega) (T.step (RZ g3 (by omega) hu hr.2) λe' he'=>qn h (by decide) λw _ _=>T.bif (λ_=>T.ck (by simp;omega) (mF h ih hd (by omega) he'.1 (by omega) (dR (by decide)) h0 h1 λr2 hr2=>T.ck (by simp;omega) (T.some ⟨_,rfl,he'.1,he'.2,by simp[g5],by simp,bT (bT g7 hu) mD,bT (bT g8 hr.1) hr2⟩))) λ_=>T.some ⟨_,rfl,he'.1,he'.2,by simp[g5],by simp,bT g7 hu,bT g8 hr.1⟩))
   ·rintro _ ⟨⟨b1,b2,b3,b4⟩,rfl,k1,k2,k3,k4,k5,k6⟩;dsimp only at k1 k2 k3 k4 k5 k6;refine T.some ⟨(a5 - 1).toNat,?_,?_,?_,?_,k1,?_,k3,?_,k5,k6⟩<;>(try simp only[ew2])<;>omega
  ·exact mF h ih hd (by omega) g3 (by dsimp only;omega) ht h0 h1 λr hr=>T.ck (by simp;omega) (T.some (XT (by dsimp only;omega) (by simp;omega) g7 (by
    intro x hx;rcases amZ.1 hx with hx|hx
    ·rw[aov.1 hx];exact hr
    ·exact g8 x hx)))
theorem T55(hd:d<=200){n:Nat}{i p:Int}{dX:amx aE}{t:ai}(hn:4*d+2<=n)(he:pM (eT ss) dX)(hb:dX.length+4*d<=900)(ht:eM (eT ss) 4 t)(h0:0<p)(h1:p<=d+1):T (Tx n (ay.mk l i m ss ts fs) dX t p) λr=>dz (2*d+7) r.1:=by
 cases n with
 |zero=>omega
 |succ n=>
  unfold Tx;refine T.dg (λj(s:amx aU)=>s.length<=j/\∀x∈s,x∈fs) ⟨by simp,by simp⟩ ?_ ?_
  ·intro j x s _ hx hlt ⟨g1,g2⟩;have:=h.fn;exact T.bind (T.step (DC (h.f x hx).2.2.2.2.2 (by decide)) λb _=>T.bif (λ_=>T.ck (by simp;simp at hlt;omega) (T.some (T.some ⟨by simp;omega,bT g2 hx⟩))) λ_=>T.some (T.some ⟨by omega,g2⟩))
  ·intro c ⟨g1,g2⟩;dsimp only;refine T.bif (λ_=>T.some (uz (by decide))) λe=>?_
   have hc:0<c.length:=by simp at e;exact ans.2 e
   refine iW h (by simp) hc λv f hf=>?_
   have hf:=h.f f (g2 f hf);refine T.bind (T.mono (P:=λr=>∃s,r= .inl s/\eo s) (T.bif (λ_=>T.some ⟨_,rfl,hf.2.1⟩) λ_=>T.some ⟨_,rfl,mD⟩) ?_);rintro _ ⟨s,rfl,hs⟩;have w1:IntKind.i64.wrap (((f.params.map ai.ak).length:Int) - f.gr)=f.params.length - f.gr:=by rw[amG];simp;omega
   have w2:IntKind.i64.wrap ((f.params.length:Int) - f.gr+1)=f.params.length - f.gr+1:=by rw[amG];omega
   simp only[anb];rw[w1,w2];refine qn h (by omega) λw w0 w1=>?_
   have w3:IntKind.i64.wrap (f.gr+w.1)=f.gr+w.1:=by rw[amG];omega
   rw[w3];refine T.ju (λq(s:Int×amx aa×Int)=>0<=s.1/\s.1<=f.params.length/\q=f.params.length - s.1.toNat/\s.2.1.length=s.1.toNat/\∀x∈s.2.1,dz (2*d+6) x) (m:=f.params.length) (by omega) ⟨by simp,by simp,by simp,by simp,by simp⟩ ?_;rintro q ⟨a24,a25,a26⟩ ⟨g1,g2,rfl,g3,g4⟩;dsimp only at g1 g2 g3 g4 |-;refine T.bif (λe=>?_) λ_=>T.some (T.some (R4 hf.1 hs (by dsimp only;omega) g4))
   have hp:a24<f.gr+w.1:=by simpa using e
   have ew2:IntKind.i64.wrap (a24+1)=a24+1:=by rw[amG];omega
   refine T.eA ⟨g1,by omega⟩ λu hu _=>mF h ih hd (by omega) he hb ((hf.2.2.2.2.1 u hu).mono) h0 h1 λr hr=>T.ck (by simp;omega) (T.some ⟨_,?_,?_,?_,rfl,?_,bT g4 hr⟩)<;>(try simp only[ew2,amO,amA,amB])<;>omega
theorem T54(hd:d<=200){n:Nat}{i p:Int}{dX:amx aE}{t:ai}(hn:4*d+2<=n)(he:pM (eT ss) dX)(hb:dX.length+4*d+1<=900)(ht:eM (eT ss) 4 t)(h0:0<p)(h1:p<=d+1):T (Tw n (ay.mk l i m ss ts fs) dX t p) λr=>dz (2*d+7) r.1:=by
 cases n with
 |zero=>omega
 |succ n=>
  unfold Tw;refine iW h (xs:=ss) (by simp) (by have:=h.sn;omega) λv s hs=>?_
  have hs1:=h.s s hs;refine mF h ih hd (by omega) he (by omega) (sy (aoJ hs) hs1.2.1) h0 h1 λr hr=>qn h (by decide) λw _ _=>?_
  refine T.dg (λj(q:amx amw×amx amw×amx aa×Int)=>q.1.length=j/\q.2.1.length=j/\q.2.2.1.length=j+1/\(∀x∈q.1,eo x)/\(∀x∈q.2.1,eo x)/\∀x∈q.2.2.1,dz (2*d+6) x) ⟨rfl,rfl,rfl,by simp,by simp,by simpa using hr⟩ ?_ ?_
  ·rintro j c ⟨a5,a6,a7,a8⟩ _ hc hlt ⟨g1,g2,g3,g4,g5,g6⟩;dsimp only at g1 g2 g3 g4 g5 g6 |-;refine T.bind (T.mono (P:=λr=>∃c'∈s.bG,r= .inl (c'.name,c'.has,c'.arg)) ?_ ?_)
   ·refine T.bif (λ_=>?_) λ_=>T.some ⟨c,hc,rfl⟩
    have e:IntKind.i64.wrap (IntKind.i64.wrap (((s.bG.map aB.ak).length:Int) - 1) - (j:Int))=s.bG.length - 1 - j:=by
     rw[amG,amG];simp only[amJ];omega
    rw[e];exact T.eA ⟨by omega,by omega⟩ λc' hc' _=>T.some ⟨c',hc',rfl⟩
   ·rintro _ ⟨c',hc',rfl⟩;have hk:=hs1.2.2 c' hc';refine T.bind (T.mono (P:=λr=>∃q:amx aE×amw×Int,r= .inl q/\pM (eT ss) q.1/\q.1.length<=dX.length+1/\eo q.2.1) ?_ ?_)
    ·refine T.bif (λe=>T.step (TQ (b:=ay.mk _ _ _ _ _ _) h (by omega)) λu hu=>T.step (RZ he (by omega) hu ?_) λe' he'=>T.some ⟨_,rfl,he'.1,he'.2,hu⟩) λ_=>T.some ⟨_,rfl,he,by dsimp only;omega,mD⟩
     have:=hk.2 e;exact(eM.sub (by simp) this).le (by decide)
    ·rintro _ ⟨⟨b1,b2,b3⟩,rfl,k1,k2,k3⟩;dsimp only at k1 k2 k3;exact T.ck (by simp;omega) (T.ck (by simp;omega) (mF h ih hd (by omega) k1 (by dsimp only;omega) ht h0 h1 λr2 hr2=>T.ck (by simp;omega) (T.some ⟨by simp[g1],by simp[g2],by simp[g3],bT g4 hk.1,bT g5 k3,bT g6 hr2⟩)))
  ·rintro⟨c14,c15,c16,c17⟩ ⟨g1,g2,g3,g4,g5,g6⟩;dsimp only at g1 g2 g3 g4 g5 g6 |-;exact T.some (XV (by omega) (by omega) (by omega) g4 g5 g6)
theorem T56(hd:d<=200){n:Nat}{i p:Int}{dX:amx aE}{t:ai}(hn:4*d+4<=n)(he:pM (eT ss) dX)(hb:dX.length+4*d+4<=900)(ht:eM (eT ss) 4 t)(h0:0<p)(h1:p<=d+1):T (RJ n (ay.mk l i m ss ts fs) dX t p) λr=>dz (2*d+7) r.1:=by
 cases n with
 |zero=>omega
 |succ n=>
  have R:∀{i:Int}{t:ai}{β:Type}{f:aa×Int->amy β}{Q:β->Prop},eM (eT ss) 4 t->(∀r:aa×Int,dz (2*d+6) r.1->T (f r) Q)->T ((jc n (ay.mk l i m ss ts fs) dX t (IntKind.i64.wrap (p - 1))).bind f) Q:=λht k=>mF h ih hd (by omega) he (by omega) ht h0 h1 k
  unfold RJ;refine qn h (by decide) λv v0 v1=>T.bif (λe0=>?_) λn0=>T.bif (λe1=>?_) λn1=>T.bif (λe2=>?_) λn2=>T.bif (λe3=>?_) λn3=>T.bif (λe4=>?_) λn4=>?_
  ·refine T.bif (λ_=>T.step (RV (b:=ay.mk _ _ _ _ _ _) h) λu hu=>R ((iJ hu).le (by decide)) λr hr=>T.some (R4 (eK (l:=JK) (by decide) _ (by simp[JK])) mD (by simp) (by simpa using hr))) λ_=>T.bif (λ_=>R ?_ λr hr=>T.some (R4 (eK (l:=JK) (by decide) _ (by simp[JK])) mD (by simp) (by simpa using hr))) λ_=>R ht λr hr=>iW h rfl (by decide) λv o ho=>R ht λr2 hr2=>T.some (nN ?_ hr hr2)
   ·have hk:t.aj=0:=by simpa using e0
    have h1:eM (eT ss) 1 t:=by
     obtain⟨⟨a1,a2,a3⟩,a⟩:=ht;exact⟨⟨a1,a2,a3⟩,a.1,a.2.1,a.2.2.1,a.2.2.2.1,a.2.2.2.2.1,a.2.2.2.2.2.1,a.2.2.2.2.2.2.1,by rw[a3 (by omega)];simp⟩
    exact(iJ h1).le (by decide)
   ·simp only[amE,amP,amQ]at ho;rcases ho with rfl|rfl|rfl<;>simp[kV]
  ·exact R ht λr hr=>R ht λr2 hr2=>T.some (nN (by simp[kV]) hr hr2)
  ·exact T.step (XZ h ih hd (by omega) he (by omega) h0 h1) λr hr=>T.some hr
  ·have hk:t.aj=3:=by simpa using e3
   refine T.step (RY (b:=ay.mk _ _ _ _ _ _) _ (ht.2.1 hk)) λs hs=>?_
   have hs1:=h.s _ hs;refine iW h (by simp) (by omega) λw c hc=>?_
   have hk:=hs1.2.2 c hc;refine T.bind (T.bif (λe=>R ((eM.sub (by simp) (hk.2 e)).le (by decide)) λr hr=>T.some (T.some (TR hk.1 (by simp) (by simpa using hr)))) λ_=>T.some (T.some (TR hk.1 (by simp) (by simp))))
  ·have hk:t.aj=4:=by simpa using e4
   have hl:=ht.2.2.1 hk;refine T.bif (λ_=>iW h rfl (by decide) λw o ho=>R ht λr hr=>T.some (R4 ?_ mD (by simp) (by simpa using hr))) λ_=>T.eA ⟨by decide,by omega⟩ λu hu _=>T.step (XW (b:=ay.mk _ _ _ _ _ _) h _ _) λr hr=>?_
   ·have:∀o∈([⟨#[115,111,114,116]⟩,⟨#[100,105,115,116,105,110,99,116]⟩]:amx amw),eo o:=eK (by decide);exact this o ho
   ·refine T.bind (T.mono (P:=λ_=>True) (T.bif (λ_=>T.some trivial) λ_=>T.some trivial) λb _=>T.bif (λ_=>T.some (hr.le (by omega))) λ_=>T.eA ⟨by decide,by omega⟩ λu hu _=>T.step (X0 h ih hd (by omega) he (by omega) ((ht.2.2.2.2.2.2.2.2 u hu).mono) h0 h1) λr hr=>T.some hr)
  ·have hk:t.aG.length=t.aF.length:=ht.2.2.2.1 (by have:=ht.1;simp only[anl,ne_eq]at n0 n1 n2 n3 n4;omega);have h8:=ht.2.2.2.2.2.1;have ahf:∀u∈t.aG,eM (eT ss) 4 u:=λu hu=>(ht.2.2.2.2.2.2.2.2 u hu).mono
   refine T.bind (T.mono (P:=λr=>r=true->0<t.aF.length) (T.bif (λ_=>T.some (by simp[ans])) λ_=>T.some (by simp)) λb hb'=>T.bif (λe=>?_) λe=>?_)
   ·refine qn h (by simpa using hb' e) λw w0 w1=>?_
    simp only[amJ]at w1;exact R ht λr hr=>T.eA ⟨w0,w1⟩ λx hx _=>T.eA ⟨w0,by omega⟩ λu hu _=>R (ahf u hu) λr2 hr2=>T.some (XR (ht.2.2.2.2.2.2.2.1 x hx) hr hr2)
   ·have ew:IntKind.i64.wrap (((t.aF.map AV.an).length:Int)+1)=t.aF.length+1:=by rw[amG];simp only[amJ];omega
    rw[ew];refine qn h (by omega) λw w0 w1=>?_
    refine T.dg (λj(q:amx amw×amx aa×Int)=>q.1.length=j/\q.2.1.length=j/\(∀x∈q.1,eo x)/\∀x∈q.2.1,dz (2*d+6) x) ⟨rfl,rfl,by simp,by simp⟩ ?_ ?_
    ·rintro j x ⟨a50,a51,a52⟩ _ hx hlt ⟨g1,g2,g3,g4⟩;dsimp only at g1 g2 g3 g4 |-;have e2:IntKind.i64.wrap ((j:Int)+w.1)=j+w.1:=by rw[amG];omega
     have e3:((t.aF.map AV.an).length:Int)=t.aF.length:=by simp
     have r0:=an1 (t.aF.length:Int) (a:=j+w.1) (by omega);have r1:=an2 ((j:Int)+w.1) (b:=(t.aF.length:Int)) (by omega);rw[e2,e3];exact T.aS (by omega) (T.eA ⟨r0,r1⟩ λy hy _=>T.ck (by simp;omega) (T.eA ⟨r0,by omega⟩ λu hu _=>R (ahf u hu) λr hr=>T.ck (by simp;omega) (T.some ⟨by simp[g1],by simp[g2],bT g3 (ht.2.2.2.2.2.2.2.1 y hy),bT g4 hr⟩)))
    ·rintro⟨c58,c59,c60⟩ ⟨g1,g2,g3,g4⟩;dsimp only at g1 g2 g3 g4 |-;exact T.some (XQ (by omega) (by omega) g3 g4)
end
section
variable {l:amx Int}{m:amw}{ss:amx ar}{ts:amx ac}{fs:amx aU}
theorem T22(h:WB l ss ts fs):(d:Nat)->d<=200->ZJ l m ss ts fs d:=λd=>by
 induction d with
 |zero=>
  intro _ n i dX t p hn he hb ht h0 h1;cases n with
  |zero=>omega
  |succ n=>
   unfold jc;have hp:decide (p<=0)=true:=by simp;omega
   refine T.step (ZI he (by omega)) λv hv=>qn h (by decide) λw w0 w1=>?_
   refine T.bind (T.mono (P:=λr=>r=true->0<v.length) (T.bif (λe=>T.mono (P:=λ_=>True) (T.bif (λ_=>T.some trivial) λ_=>T.some trivial) λ_ _ _=>by simpa using e) λ_=>T.some (by simp)) λa3 h3=>T.bif (λe=>?_) λe=>?_)
   ·exact iW h (by simp) (h3 e) λu x hx=>T.some ((hv.2 x hx).le (by omega))
   ·refine T.bind (T.mono (P:=λr=>r=true) (T.bif (λ_=>T.some rfl) λe=>by rw[hp]at e;cases e) λa10 h10=>?_);subst h10;exact T.step (XX h ht (by omega)) λr hr=>T.some (hr.le (by omega))
 |succ d ih=>
  intro hd n i dX t p hn he hb ht h0 h1;have ih:=ih (by omega);have up:∀{e:aa},dz (2*d+7) e->dz (2*(d+1)+6) e:=λh=>h.le (by omega)
  cases n with
  |zero=>omega
  |succ n=>
   unfold jc;refine T.step (ZI he (by omega)) λv hv=>qn h (by decide) λw w0 w1=>?_
   refine T.bind (T.mono (P:=λr=>r=true->0<v.length) (T.bif (λe=>T.mono (P:=λ_=>True) (T.bif (λ_=>T.some trivial) λ_=>T.some trivial) λ_ _ _=>by simpa using e) λ_=>T.some (by simp)) λa3 h3=>T.bif (λe=>?_) λe=>?_)
   ·exact iW h (by simp) (h3 e) λu x hx=>T.some ((hv.2 x hx).le (by omega))
   ·refine T.bind (T.mono (P:=λr=>r=false->0<p) (T.bif (λ_=>T.some (by simp)) λe=>T.some λ_=>by simpa using e) λa10 h10=>T.bif (λ_=>T.step (XX h ht (by omega)) λr hr=>T.some (hr.le (by omega))) λe=>?_);have hp:=h10 e;have cX:∀i,T ((RJ n (ay.mk l i m ss ts fs) dX t p).bind λv38=>some (v38.1,v38.2)) λr=>dz (2*(d+1)+6) r.1:=λi=>T.step (T56 h ih (by omega) (by omega) he (by omega) ht hp (by omega)) λr hr=>T.some (up hr)
    have R:∀{i:Int}{dX:amx aE}{t:ai}{β:Type}{f:aa×Int->amy β}{Q:β->Prop},pM (eT ss) dX->dX.length+4*d<=900->eM (eT ss) 4 t->(∀r:aa×Int,dz (2*d+6) r.1->T (f r) Q)->T ((jc n (ay.mk l i m ss ts fs) dX t (IntKind.i64.wrap (p - 1))).bind f) Q:=λhe hb ht k=>mF h ih (by omega) (by omega) he hb ht hp (by omega) k
    refine T.bind (T.bif (λ_=>?_) λ_=>T.bif (λ_=>?_) λ_=>T.bif (λ_=>T.bif (λ_=>?_) λ_=>T.some (cX _)) λ_=>?_)
    ·refine T.step (TP (b:=ay.mk _ _ _ _ _ _) h) λu hu=>T.step (TQ (b:=ay.mk _ _ _ _ _ _) h (by omega)) λx hx=>R he (by omega) hu.mono λr hr=>T.step (RZ he (by omega) hx hu.mono) λe' he'=>R he'.1 (by omega) ht λr2 hr2=>T.some (T.some (up (XU hx hr hr2)))
    ·exact R he (by omega) (dR (by decide)) λr hr=>R he (by omega) ht λr2 hr2=>R he (by omega) ht λr3 hr3=>T.some (T.some (up (R5 hr hr2 hr3)))
    ·exact T.step (T54 h ih (by omega) (by omega) he (by omega) ht hp (by omega)) λr hr=>T.some (T.some (up hr))
    ·refine T.bind (T.mono (P:=λr=>∃a,r= .inl a) (T.bif (λ_=>T.some ⟨_,rfl⟩) λ_=>T.some ⟨_,rfl⟩) ?_);rintro _ ⟨a,rfl⟩;exact T.bif (λ_=>T.step (T55 h ih (by omega) (by omega) he (by omega) ht hp (by omega)) λr hr=>T.bif (λ_=>T.some (T.some (up hr))) λ_=>T.some (cX _)) λ_=>T.some (cX _)
theorem R7(h:WB l ss ts fs){d:Nat}(hd:d<=200){i p:Int}{dX:amx aE}{t:ai}(he:pM (eT ss) dX)(hb:dX.length+4*d<=900)(ht:eM (eT ss) 4 t)(h0:0<=p)(h1:p<=d):T (jc 1000000 (ay.mk l i m ss ts fs) dX t p) λr=>dz (2*d+6) r.1:=T22 h d hd _ i dX t p (by omega) he hb ht h0 h1
end
end
section
set_option linter.unusedVariables false
abbrev la(k:Int):ai:=ai.mk k ⟨#[]⟩ 0 [] []
abbrev D8(k n:Int):aa:=aa.mk k ⟨#[]⟩ n ⟨#[]⟩ [] [] [] 0 0
abbrev Nx(s:amw):aa:=aa.mk 3 s 0 ⟨#[]⟩ [] [] [] 0 0
abbrev KF(s:amw)(l:amx aa):aa:=aa.mk 14 s 0 ⟨#[]⟩ [] [] l 0 0
abbrev ZK(s:amw):aa:=aa.mk 1 ⟨#[]⟩ 0 s [] [] [] 0 0
def Bz:amw:=⟨#[97,103,101]⟩
def uh:amw:=⟨#[110,97,109,101]⟩
def vF:aa:=KF ⟨#[60]⟩ [Nx Bz,D8 0 100]
def iX:aa:=D8 2 1
def ed:amx aa:=[iX,vF,KF ⟨#[97,110,100]⟩ [KF ⟨#[60,61]⟩ [D8 0 0,Nx Bz],vF],KF ⟨#[111,114]⟩ [KF ⟨#[110,111,116]⟩ [KF ⟨#[61,61]⟩ [Nx uh,ZK ⟨#[]⟩]],vF],
 aa.mk 12 ⟨#[]⟩ 0 ⟨#[]⟩ [] [] [KF ⟨#[61,61]⟩ [Nx Bz,D8 0 3],KF ⟨#[33,61]⟩ [Nx uh,ZK ⟨#[98]⟩],iX] 0 0]
def T91{b:ay}(hl:∀x∈b.l,kj x):T (Tp b) λr=>r.1∈ed:=by
 unfold Tp;refine T.step (sP hl (by decide)) λv _=>?_
 refine T.bif (λ_=>T.some ?_) λ_=>T.bif (λ_=>T.some ?_) λ_=>T.bif (λ_=>T.some ?_) λ_=>T.bif (λ_=>T.some ?_) λ_=>T.some ?_<;>simp[ed,vF,iX,Bz,uh]
structure DP where
 a:Int
 bV:Bool
 sh:Option Int
 k:Int
 c:aa
 aV:Bool
 bK:Bool
 done:Bool
 cL:Bool
structure DP.ok(q:DP):Prop where
 a:0<=q.a/\q.a<3
 sh:∀b∈q.sh,0<=b/\b<2
 k:0<=q.k/\q.k<2
 c:q.c∈ed
def gk:amw:=⟨#[67,111,108,111,114]⟩
def KG:amw:=⟨#[105,100]⟩
def fO:amw:=⟨#[105,116,101,109]⟩
def cT:amw:=⟨#[112,101,114,115,111,110]⟩
def pc:amw:=⟨#[111,119,110,101,114]⟩
def DP.bG(q:DP):amx aB:=[⟨⟨#[82,101,100]⟩,false,la 0⟩,⟨⟨#[82,103,98]⟩,true,la q.a⟩]++bif q.bV then[⟨⟨#[66,108,117,101]⟩,false,la 0⟩]else[]
def DP.aN(q:DP):amx ar:=⟨gk,q.bG⟩::match q.sh with
 |none=>[]
 |some b=>[⟨⟨#[83,104,97,112,101]⟩,[⟨⟨#[68,111,116]⟩,false,la 0⟩,⟨⟨#[77,97,110,121]⟩,true,ai.mk 4 ⟨#[]⟩ 0 [] [la b]⟩]⟩]
def DP.gd(q:DP):amx ae:=[⟨KG,la q.k⟩,⟨uh,la 1⟩,⟨Bz,la 0⟩]++(bif q.aV then[⟨⟨#[99,111,108,111,114]⟩,ai.mk 3 gk 0 [] []⟩]else[])++bif q.bK then[⟨⟨#[102,108,97,103]⟩,la 2⟩]else[]
def DP.nD(q:DP):amx ae:=[⟨pc,la q.k⟩,⟨KG,la 0⟩,⟨⟨#[116,105,116,108,101]⟩,la 1⟩]++bif q.done then[⟨⟨#[100,111,110,101]⟩,la 2⟩]else[]
def DP.cf(q:DP):ac:=⟨cT,q.gd,[KG],[],q.c⟩
def DP.gl(q:DP):ac:=⟨fO,q.nD,[KG],[⟨pc,cT⟩],iX⟩
def iw:ac:=⟨⟨#[116,97,103]⟩,[⟨fO,la 0⟩,⟨⟨#[119,111,114,100]⟩,la 1⟩],[fO,⟨#[119,111,114,100]⟩],[⟨fO,fO⟩],iX⟩
def DP.am(q:DP):amx ac:=[q.cf,q.gl]++bif q.cL then[iw]else[]
def T39{b:ay}(hl:∀x∈b.l,kj x):T (Tq b) λr=>∃q:DP,q.ok/\r.2.1=q.aN/\r.2.2=q.am:=by
 unfold Tq;have N:∀{i n:Int}{m:amw}{ss:amx ar}{ts:amx ac}{fs:amx aU}{β:Type}{f:Int×Int->amy β}{Q:β->Prop},0<n->(∀v:Int×Int,0<=v.1->v.1<n->T (f v) Q)->T ((gc (ay.mk b.l i m ss ts fs) n).bind f) Q:=λhn k=>T.step (sP (b:=ay.mk _ _ _ _ _ _) hl hn) λv hv=>k v hv.1 hv.2
 refine N (by decide) λv1 a0 a1=>N (by decide) λv2 _ _=>?_
 refine T.bind (T.mono (P:=λr=>∃bV:amz,r= .inl (DP.bG ⟨v1.1,bV,none,0,iX,false,false,false,false⟩)) (T.bif (λ_=>T.ck (by simp) (T.some ⟨true,rfl⟩)) λ_=>T.some ⟨false,rfl⟩) ?_);rintro _ ⟨bV,rfl⟩;refine N (by decide) λv3 _ _=>?_
 refine T.bind (T.mono (P:=λr=>∃(i:Int)(sh:amy Int),(∀b∈sh,0<=b/\b<2)/\r= .inl (i,DP.aN ⟨v1.1,bV,sh,0,iX,false,false,false,false⟩)) (T.bif (λ_=>N (by decide) λv4 b0 b1=>T.ck (by simp) (T.some ⟨_,some v4.1,by simpa using⟨b0,b1⟩,rfl⟩)) λ_=>T.some ⟨_,none,by simp,rfl⟩) ?_);rintro _ ⟨i,sh,hsh,rfl⟩;refine N (by decide) λv5 k0 k1=>T.step (T91 (b:=ay.mk _ _ _ _ _ _) hl) λc hc=>N (by decide) λv6 _ _=>?_
 refine T.bind (T.mono (P:=λr=>∃aV:amz,r= .inl (DP.gd ⟨v1.1,bV,sh,v5.1,c.1,aV,false,false,false⟩)) (T.bif (λ_=>T.ck (by simp) (T.some ⟨true,rfl⟩)) λ_=>T.some ⟨false,rfl⟩) ?_);rintro _ ⟨aV,rfl⟩;refine N (by decide) λv7 _ _=>?_
 refine T.bind (T.mono (P:=λr=>∃bK:amz,r= .inl (DP.gd ⟨v1.1,bV,sh,v5.1,c.1,aV,bK,false,false⟩)) (T.bif (λ_=>T.ck (by cases aV<;>simp[DP.gd]) (T.some ⟨true,by simp[DP.gd]⟩)) λ_=>T.some ⟨false,by simp[DP.gd]⟩) ?_);rintro _ ⟨bK,rfl⟩;refine N (by decide) λv8 _ _=>?_
 refine T.bind (T.mono (P:=λr=>∃done:amz,r= .inl (DP.nD ⟨v1.1,bV,sh,v5.1,c.1,aV,bK,done,false⟩)) (T.bif (λ_=>T.ck (by simp) (T.some ⟨true,rfl⟩)) λ_=>T.some ⟨false,rfl⟩) ?_);rintro _ ⟨done,rfl⟩;refine N (by decide) λv9 _ _=>?_
 refine T.bind (T.mono (P:=λr=>∃cL:amz,r= .inl (DP.am ⟨v1.1,bV,sh,v5.1,c.1,aV,bK,done,cL⟩)) (T.bif (λ_=>T.ck (by simp) (T.some ⟨true,rfl⟩)) λ_=>T.some ⟨false,rfl⟩) ?_);rintro _ ⟨cL,rfl⟩;exact T.some ⟨⟨v1.1,bV,sh,v5.1,c.1,aV,bK,done,cL⟩,⟨⟨a0,a1⟩,hsh,⟨k0,k1⟩,hc⟩,rfl,rfl⟩
end
end Go.Ab

/- Plain laws. -/
import Derived.Test.YtoknehglgeiopaaGreatDoorV7
set_option linter.all false
set_option maxRecDepth 1000000
set_option maxHeartbeats 20000000
open Go Go.RowKit Go.Proofs
namespace Go.Ab
section
variable {X D K L ρ:Type}
@[simp] theorem gO a:bg a a=true:=Hn _
def AU(o:T X)(Q:X->Prop):Prop:=∃a,o=some a/\Q a
theorem bb{a:X}{Q}(h:Q a):AU (Option.some a) Q:=⟨a,rfl,h⟩
def ei{o}{f:X->T D}{Q}(h:AU o λa=>AU (f a) Q):AU (o.bind f) Q:=by
 obtain⟨a,rfl,h⟩:=h;exact h
theorem AU.mono{o:T X}{P Q}(h:AU o P)(k:∀a,P a->Q a):AU o Q:=by
 obtain⟨a,e,h⟩:=h;exact⟨a,e,k a h⟩
def ct{o}{f:X->T D}{P Q}(h:AU o P)(k:∀a,P a->AU (f a) Q):AU (o.bind f) Q:=ei (h.mono k)
def cZ{c}{x y:T X}{Q}(h:c=true->AU x Q)(k:c=false->AU y Q):AU (bif c then x else y) Q:=by
 cases c
 .exact k rfl
 .exact h rfl
theorem hC{p}[Decidable p]{f}{Q:D->Prop}(h:p)(k:AU (f ()) Q):AU ((Ab.aU p).bind f) Q:=by
 unfold Ab.aU;rw[BX h];exact k
def eT{n b f}{Q:D->Prop}(h:n*b<=140737488355328)(k:AU (f ()) Q):AU ((Ab.ck n b).bind f) Q:=by
 unfold Ab.ck;rw[BX h];exact k
theorem kp{n f}{Q:D->Prop}(h:n<=9223372036854775807)(k:AU (f ()) Q):AU ((Ab.ed n).bind f) Q:=by
 unfold Ab.ed;rw[BX h];exact k
def qu{xs:U X}{i:Int}(h:0<=i)(k:i<xs.length):∃x,aA xs i=Option.some x/\xs[i.toNat]?=Option.some x/\x∈xs:=by
 obtain⟨n,rfl⟩:=Int.eq_ofNat_of_zero_le h;have y:n<xs.length:=by omega
 exact⟨xs[n],by simp[aA,y],by simp[y],Ot y⟩
def fA{xs}{i:Int}{f:X->T D}{Q}(h:0<=i/\i<xs.length)(k:∀x,x∈xs->xs[i.toNat]?=Option.some x->AU (f x) Q):AU ((aA xs i).bind f) Q:=by
 obtain⟨x,e,e2,y⟩:=qu h.1 h.2;rw[e];exact k x y e2
def AU.sum{γ:Type}{x}{f:X->T γ}{g:D->T γ}{Q}(h:∀a,x= .inl a->AU (f a) Q)(k:∀b,x= .inr b->AU (g b) Q):AU (Sum.elim f g x) Q:=by
 cases x with
 |inl a=>exact h a rfl
 |inr b=>exact k b rfl
def AU.bo{f:Nat->L->K->T (K⊕(X⊕ρ))}{p:K->X}(I:Nat->K->Prop){Q:X⊕ρ->Prop}:
 {i:Nat}->{xs:U L}->{s:K}->(z:I i s)->(∀j x s,i<=j->xs[j-i]?=Option.some x->I j s->AU (f j x s) (Sum.elim (λs=>I (j+1) s) λq=>Q q))->
 (∀s,I (i+xs.length) s->Q (.inl (p s)))->AU (bo f p i xs s) Q
 |i,[],s,z,_,b=>⟨_,rfl,b s EB⟩
 |i,x::xs,s,z,d,b=>by
  unfold Ab.bo;refine ct (d i x s (Hq _) NP z) λa e=>?_
  cases a with
  |inl g=>
   refine AU.bo I (i:=i+1) (xs:=xs) (s:=g) e (λj y s l k c=>d j y s B9 ?_ c) (λs c=>b s ?_)
   .rw[show j-i=(j-(i+1))+1 by omega];simpa using k
   .simpa[Li,LL 1]using c
  |inr q=>exact⟨_,rfl,e⟩
def AU.aV{step:K->T (K⊕ρ)}(I:Nat->K->Prop){Q:ρ->Prop}:
 {n m:Nat}->{s:K}->m<n->I m s->(∀m s,I m s->AU (step s) (Sum.elim (λs=>∃k,k<m/\I k s) λr=>Q r))->AU (aV step n s) Q
 |0,_,_,h,_,_=>absurd h (Nat.not_lt_zero _)
 |n+1,m,s,h,b,y=>by
  unfold Ab.aV;refine ct (y m s b) λa z=>?_
  cases a with
  |inl c=>obtain⟨k,d,x⟩:=z;exact AU.aV I B9 x y
  |inr r=>exact⟨_,rfl,z⟩
def fB{γ:Type}{f:Nat->L->K->T (K⊕(X⊕ρ))}{p}{f':X->T γ}{g':ρ->T γ}(I:Nat->K->Prop){Q:γ->Prop}{xs s}(z:I 0 s)(a:∀j x s,xs[j]?=Option.some x->x∈xs->j<xs.length->I j s->AU (f j x s) (Sum.elim (λs=>I (j+1) s) λq=>AU (Sum.elim f' g' q) Q))(b:∀s,I xs.length s->AU (f' (p s)) Q):AU ((Ab.bo f p 0 xs s).bind (Sum.elim f' g')) Q:=
 ei (AU.bo I z (λj x s _ hx y=>a j x s (by simpa using hx) (K3 hx) (by simpa using(LI.1 hx).1) y) λs y=>b s Ee)
def lm{γ:Type}{step:K->T (K⊕(X⊕ρ))}{f':X->T γ}{g':ρ->T γ}(I:Nat->K->Prop){Q n m s}(x:m<n)(y:I m s)(z:∀m s,I m s->AU (step s) (Sum.elim (λs=>∃k,k<m/\I k s) λq=>AU (Sum.elim f' g' q) Q)):AU ((Ab.aV step n s).bind (Sum.elim f' g')) Q:=
 ei (AU.aV I x y z)
end
section
def qv(x:Int):Prop:= -9223372036854775808<=x/\x<=9223372036854775807
def JP:U Z:=[⟨#[]⟩,⟨#[120]⟩,⟨#[121]⟩,⟨#[122]⟩,⟨#[117]⟩,⟨#[118]⟩,⟨#[119]⟩,⟨#[112]⟩,⟨#[113]⟩,⟨#[114]⟩,⟨#[110]⟩,⟨#[112,101,114,115,111,110]⟩,⟨#[105,116,101,109]⟩,⟨#[116,97,103]⟩,⟨#[115,97,109,101]⟩,⟨#[116,105,116,108,101,95,111,102]⟩,⟨#[112,97,105,114]⟩,⟨#[111,108,100,101,114]⟩,⟨#[102]⟩,⟨#[103]⟩,⟨#[104]⟩,⟨#[107]⟩,⟨#[112,117,116]⟩,⟨#[102,105,120]⟩,⟨#[105,100]⟩,⟨#[110,97,109,101]⟩,⟨#[97,103,101]⟩,⟨#[99,111,108,111,114]⟩,⟨#[102,108,97,103]⟩,⟨#[111,119,110,101,114]⟩,⟨#[116,105,116,108,101]⟩,⟨#[100,111,110,101]⟩,⟨#[119,111,114,100]⟩,⟨#[97]⟩,⟨#[98]⟩,⟨#[97,98]⟩,⟨#[67,111,108,111,114]⟩,⟨#[83,104,97,112,101]⟩,⟨#[82,101,100]⟩,⟨#[82,103,98]⟩,⟨#[66,108,117,101]⟩,⟨#[68,111,116]⟩,⟨#[77,97,110,121]⟩,⟨#[98,97,115,101]⟩,⟨#[97,112,112]⟩,⟨#[115,99,104,101,109,97]⟩,⟨#[115,105,122,101]⟩,⟨#[115,117,109]⟩,⟨#[97,110,121]⟩,⟨#[97,108,108]⟩,⟨#[115,111,114,116]⟩,⟨#[100,105,115,116,105,110,99,116]⟩,⟨#[43]⟩,⟨#[45]⟩,⟨#[42]⟩,⟨#[43,43]⟩,⟨#[61,61]⟩,⟨#[33,61]⟩,⟨#[60]⟩,⟨#[60,61]⟩,⟨#[97,110,100]⟩,⟨#[111,114]⟩,⟨#[110,111,116]⟩,⟨#[116,120]⟩,⟨#[112,48]⟩,⟨#[112,49]⟩,⟨#[112,50]⟩,⟨#[112,51]⟩,⟨#[102,114,101,115,104]⟩,⟨#[101,120,116,114,97]⟩,⟨#[108,97,116,101]⟩,⟨#[111,116,104,101,114]⟩,⟨#[83,116,97,116,101]⟩,⟨#[79,102,102]⟩,⟨#[79,110]⟩,⟨#[88]⟩,⟨#[116]⟩,⟨#[120,49]⟩]
def eZ(s:Z):Prop:=s∈JP
def fM{l:U Z}(h:(l.all λx=>JP.any λy=>x.data.toList==y.data.toList)=true):∀x∈l,eZ x:=λx hx=>by
 obtain⟨y,z,e⟩:=It.1 (H0.1 h x hx);have:x=y:=by cases x;cases y;simp at e;simpa using e
 subst this;exact z
def fQ(ns:U Z):Nat->am->Prop
 |0,_=>False
 |d+1,t=>(0<=t.ah/\t.ah<=5/\(t.ah<=3->t.au=[]))/\(t.ah=3->t.name∈ns)/\(t.ah=4->t.au.length=1)/\(t.ah=5->t.au.length=t.ay.length)/\eZ t.name/\
  t.ay.length<=8/\t.au.length<=8/\(∀x∈t.ay,eZ x)/\∀k∈t.au,fQ ns d k
theorem fQ.mono{ns}:∀{d t},fQ ns d t->fQ ns (d+1) t
 |0,_,h=>h.elim
 |d+1,t,⟨a,b,c,e,f,g,i,j,k⟩=>⟨a,b,c,e,f,g,i,j,λx hx=>(k x hx).mono⟩
def fQ.le{ns d e t}(h:fQ ns d t)(l:d<=e):fQ ns e t:=by
 induction l with
 |refl=>exact h
 |step _ x=>exact x.mono
abbrev nX:U Z:=[⟨#[43]⟩,⟨#[45]⟩,⟨#[42]⟩,⟨#[43,43]⟩,⟨#[61,61]⟩,⟨#[33,61]⟩,⟨#[60]⟩,⟨#[60,61]⟩,⟨#[97,110,100]⟩,⟨#[111,114]⟩]
def yN(e:J):Prop:=
 (0<=e.ah/\e.ah<=14)/\eZ e.name/\eZ e.s/\e.ay.length<=8/\e.binds.length<=8/\e.au.length<=9/\(∀x∈e.ay,eZ x)/\(∀x∈e.binds,eZ x)/\(0<=e.n/\e.n<=100)/\
 (e.ah=6->e.au.length=e.ay.length)/\(e.ah=7->e.au.length=e.ay.length+1)/\(e.ah=8->e.au.length=1)/\(e.ah=10->e.au.length=e.ay.length+1)/\(e.ah=11->e.au.length=2)/\(e.ah=12->e.au.length=3)/\
 (e.ah=13->e.au.length=e.ay.length+1/\e.binds.length=e.ay.length)/\(e.ah=14->(e.au.length=2/\e.name∈nX)\/(e.au.length=1/\e.name=⟨#[110,111,116]⟩))/\(e.ah=5->e.au.length<=1)/\(e.ah=3->e.au=[])
def dY:Nat->J->Prop
 |0,_=>False
 |d+1,e=>yN e/\∀k∈e.au,dY d k
theorem dY.mono:∀{d t},dY d t->dY (d+1) t
 |0,_,h=>h.elim
 |d+1,t,⟨a,k⟩=>⟨a,λx hx=>(k x hx).mono⟩
def dY.le{d e t}(h:dY d t)(l:d<=e):dY e t:=by
 induction l with
 |refl=>exact h
 |step _ x=>exact x.mono
structure WB(l:List Int)(ss:List az)(ts:List V)(fs:List bc):Prop where
 l:∀x∈l,qv x
 sn:1<=ss.length/\ss.length<=2
 tn:ts.length<=3
 fn:fs.length<=16
 s:∀s∈ss,(1<=s.bQ.length/\s.bQ.length<=3)/\eZ s.name/\∀c∈s.bQ,eZ c.name/\(c.has=true->fQ [] 2 c.arg)
 t:∀t∈ts,eZ t.name/\t.ae.length<=5/\∀c∈t.ae,eZ c.name/\fQ (ss.map (·.name)) 1 c.bH
 f:∀f∈fs,eZ f.name/\eZ f.cf/\f.params.length<=3/\(0<=f.gK/\f.gK<=f.params.length)/\(∀p∈f.params,fQ (ss.map (·.name)) 3 p)/\fQ (ss.map (·.name)) 3 f.oE
def MS{x n}(hx:qv x)(y:0<n):AU (Td x n) λr=>0<=r/\r<n:=by
 unfold Td qv at*;have dG:∀a:Int,0<=a->AU ((aU (n≠0)).bind λ_=>some (a.tmod n)) λr=>0<=r/\r<n:=λa z=>
  hC B9 (bb ⟨La _ z,LZ _ y⟩)
 refine ei (cZ (λh=>bb ?_) λh=>bb ?_)
 .simp only[FW]at h;exact dG _ (by rw[BW,BW];omega)
 .simp only[Ic]at h;exact dG _ B9
def Ny{l i n}(z:∀x∈l,qv x)(y:0<n):AU (tJ l i n) λr=>0<=r/\r<n:=by
 unfold tJ;refine ei (cZ (λh=>bb ?_) λh=>bb ?_)
 .exact bb ⟨by omega,y⟩
 .simp only[Ic,B7]at h |-;refine cZ (λ_=>bb ⟨by omega,y⟩) λb=>?_
  simp only[Ic]at b;exact fA ⟨by omega,by omega⟩ λx hx _=>ct (MS (z x hx) y) λa c=>bb c
def yO{b n}(y:∀x∈b.l,qv x)(z:0<n):AU (iu b n) λr=>0<=r.1/\r.1<n:=by
 unfold iu;exact ct (Ny y z) λa c=>bb c
def pO:eZ ⟨#[]⟩:=fM (l:=[⟨#[]⟩]) VQ _ NP
section types
variable {ns:U Z}{d:Nat}
def eQ{k}(h:0<=k/\k<=2):fQ ns (d+1) (am.mk k ⟨#[]⟩ 0 [] []):=⟨⟨h.1,by dsimp only;omega,λ_=>rfl⟩,λe=>by dsimp only at e;omega,λe=>by dsimp only at e;omega,λe=>by dsimp only at e;omega,pO,by simp,by simp,by simp,by simp⟩
def yj{n}(h:n∈ns)(k:eZ n):fQ ns (d+1) (am.mk 3 n 0 [] []):=⟨⟨by simp,by simp,λ_=>rfl⟩,λ_=>h,by simp,by simp,k,by simp,by simp,by simp,by simp⟩
def kH{t}(h:fQ ns d t):fQ ns (d+1) (am.mk 4 ⟨#[]⟩ 0 [] [t]):=⟨⟨by simp,by simp,by simp⟩,by simp,by simp,by simp,pO,by simp,by simp,by simp,by simpa using h⟩
def yk{ls ts}(y:ls.length=ts.length)(z:ls.length<=8)(hs:∀x∈ls,eZ x)(a:∀t∈ts,fQ ns d t):fQ ns (d+1) (am.mk 5 ⟨#[]⟩ 0 ls ts):=⟨⟨by simp,by simp,by simp⟩,by simp,by simp,λ_=>y.symm,pO,z,by dsimp only;omega,hs,a⟩
end types
def YJ{b}(h:WB b.l b.aT b.an b.dt):AU (GB b) λr=>fQ (b.aT.map (·.name)) 1 r.1:=by
 unfold GB;have jI:∀x:Int,0<=x->∀i:Int,AU ((aU ((3:Int)≠0)).bind λ_=>some ((am.mk (x.tmod (3:Int)) ⟨#[]⟩ 0 [] []),i)) λr:am×Int=>fQ (b.aT.map (·.name)) 1 r.1:=λx hx i=>by
  have:=La 3 hx;have:=LZ x (b:=3) VQ;exact hC VQ (bb (eQ ⟨by assumption,by omega⟩))
 refine ct (yO h.l VQ) λv y=>?_
 refine ei (cZ (λe=>bb ?_) λe=>bb (jI _ y.1 _));refine cZ (λe2=>?_) λe2=>jI _ y.1 _
 refine ct (yO (b:=aE.mk _ _ _ _ _ _) h.l (by simpa using e2)) λw z=>?_
 simp only[B7]at z;exact fA z λs hs _=>bb (yj (Lt hs) (h.s s hs).2.1)
def YK{ns t}(w:t.ae.length<=5)(h:∀c∈t.ae,eZ c.name/\fQ ns 1 c.bH):AU (Fi t) λu=>fQ ns 2 u/\u.ah=5/\u.ay.length=t.ae.length/\∀x∈u.ay,x∈t.ae.map (·.name):=by
 unfold Fi;refine ct (AU.bo (λj(s:U Z×U am)=>s.1.length=j/\s.2.length=j/\(∀x∈s.1,eZ x/\x∈t.ae.map (·.name))/\∀x∈s.2,fQ ns 1 x) (Q:=λr=>∃s:U Z×U am,r= .inl s/\s.1.length=t.ae.length/\s.2.length=t.ae.length/\(∀x∈s.1,eZ x/\x∈t.ae.map (·.name))/\∀x∈s.2,fQ ns 1 x) ⟨rfl,rfl,by simp,by simp⟩ ?_ ?_) ?_
 .rintro j c ⟨d,f⟩ _ l ⟨z,g,y,a⟩;have v:j<t.ae.length:=by simpa using(LI.1 l).1
  have b:c∈t.ae:=K3 l;dsimp only at z g y a |-;refine ct (AU.aV (λm(i:Int)=>0<=i/\i<=j/\m=j-i.toNat) (Q:=λr=>∃i:Int,r= .inl i/\0<=i/\i<=j) (m:=j) B9 ⟨by simp,by simp,by simp⟩ ?_) ?_
  .rintro m i ⟨i0,k,rfl⟩;refine cZ (λe=>?_) λe=>bb ⟨i,rfl,i0,k⟩
   simp only[B7,FW]at e;refine fA ⟨i0,by omega⟩ λx _ _=>cZ (λ_=>bb ⟨_,?_,?_,?_,rfl⟩) λ_=>bb ⟨i,rfl,i0,k⟩<;>rw[BW]<;>omega
  .rintro _ ⟨i,rfl,i0,k⟩;have A:i.toNat<=j:=by omega
   have n:((d.drop (0:Int).toNat).take (i.toNat-(0:Int).toNat)).length=i.toNat:=by simp;omega
   have o:((f.drop (0:Int).toNat).take (i.toNat-(0:Int).toNat)).length=i.toNat:=by simp;omega
   have p:((d.drop i.toNat).take (((d.map G.str).length:Int).toNat-i.toNat)).length=j-i.toNat:=by simp;omega
   have q:((f.drop i.toNat).take (((f.map am.aq).length:Int).toNat-i.toNat)).length=j-i.toNat:=by simp;omega
   simp only[G5,LW,B1,LB,G7,B0,n,o,p,q];refine hC ⟨by omega,i0,by simp;omega⟩ (eT B9 (eT B9 (hC ⟨i0,by simp;omega,by omega⟩ (eT B9 (hC ⟨by omega,i0,by simp;omega⟩ (eT B9 (eT B9 (hC ⟨i0,by simp;omega,by omega⟩ (eT B9 (bb ?_))))))))));refine⟨by simp only[G7,n,p,B0,B1];omega,by simp only[G7,o,q,B0,B1];omega,?_,?_⟩
   .intro x hx;simp only[Hy,BV,G9,G8]at hx;rcases hx with(hx|rfl)|hx
    .exact y x (LP (LA hx))
    .exact⟨(h c b).1,Lt b⟩
    .exact y x (LP (LA hx))
   .intro x hx;simp only[Hy,BV,G9,G8]at hx;rcases hx with(hx|rfl)|hx
    .exact a x (LP (LA hx))
    .exact(h c b).2
    .exact a x (LP (LA hx))
 .rintro⟨d,f⟩ ⟨z,g,y,a⟩;exact⟨_,rfl,by simpa using z,by simpa using g,y,a⟩
 .rintro _ ⟨⟨d,f⟩,rfl,z,g,y,a⟩;exact bb ⟨yk (z.trans g.symm) (by dsimp only at z;omega) (λx hx=>(y x hx).1) a,rfl,z,λx hx=>(y x hx).2⟩
def MR{ns t}(x:t.ae.length<=5)(h:∀c∈t.ae,eZ c.name/\fQ ns 1 c.bH):AU (Fi t) (fQ ns 2):=(YK x h).mono λ_ h=>h.1
def YL{y:Type}{b:aE}(h:WB b.l b.aT b.an b.dt){Q}{f:Int×Int->V->am->T y}i(hp:decide (((b.an.map V.aq).length:Int)>0)=true)
 (k:∀v u t,u∈b.an->fQ (b.aT.map (·.name)) 2 t->AU (f v u t) Q):AU ((iu (aE.mk b.l i b.cf b.aT b.an b.dt) ((b.an.map V.aq).length:Int)).bind λv=>(aA b.an v.1).bind λu=>(Fi u).bind λw=>f v u w) Q:=by
 refine ct (yO (b:=aE.mk _ _ _ _ _ _) h.l Jj) λw z=>?_
 simp only[B7]at z;exact fA z λt x _=>ct (MR (h.t t x).2.1 (h.t t x).2.2) λr a=>k _ _ _ x a
def Nx{b}(h:WB b.l b.aT b.an b.dt):AU (Vb b) λr=>fQ (b.aT.map (·.name)) 3 r.1:=by
 unfold Vb;refine ct (yO h.l VQ) λv d=>?_
 have x:∀i,AU (GB (aE.mk b.l i b.cf b.aT b.an b.dt)) λr=>fQ (b.aT.map (·.name)) 1 r.1:=λi=>YJ (b:=aE.mk _ _ _ _ _ _) h
 have last:∀i,AU ((GB (aE.mk b.l i b.cf b.aT b.an b.dt)).bind λz=>some ((am.mk (5:Int) (⟨#[]⟩) (0:Int) [⟨#[97]⟩,⟨#[98]⟩] [z.1,(am.mk (0:Int) (⟨#[]⟩) (0:Int) [] [])]),z.2)) λr=>fQ (b.aT.map (·.name)) 3 r.1:=λi=>
  ct (x i) λr a=>bb (yk rfl VQ (fM VQ) (by
   intro t y;simp only[BV,G9,G8]at y;rcases y with rfl|rfl
   .exact a.mono
   .exact eQ VQ))
 refine ei (ei (AU.mono (P:=λr=>∃c,r= .inl c) ?_ ?_))
 .repeat' first|exact bb ⟨_,rfl⟩|refine cZ (λ_=>?_) λ_=>?_
 rintro _ ⟨c,rfl⟩;refine cZ (λ_=>ct (x _) λr a=>bb (bb (a.le VQ))) λ_=>cZ (λ_=>ct (x _) λr a=>bb (bb ((kH a).le VQ))) λ_=>cZ (λ_=>?_) λ_=>cZ (λ_=>?_) λ_=>bb (last _)
 .refine cZ (λe=>YL h _ e λ_ _ t _ y=>?_) λ_=>bb (last _)
  exact bb (bb y.mono)
 .refine cZ (λe=>YL h _ e λ_ _ t _ y=>?_) λ_=>bb (last _)
  exact bb (bb (kH y))
def YM{b}n(c:n∈b.aT.map (·.name)):AU (IL b n) λr=>r.1∈b.aT:=by
 unfold IL;refine fB (λj _=>∀(i:Nat)(s:az),i<j->b.aT[i]?=some s->s.name≠n) (by intro i s y;omega) ?_ ?_
 .intro j s _ d hs f z;refine cZ (λe=>bb (bb hs)) λe=>bb ?_
  intro i g y x;by_cases a:i=j
  .subst a;rw[d]at x;cases x;intro e2;rw[e2]at e;simp at e
  .exact z i g B9 x
 .intro _ z;obtain⟨s,hs,rfl⟩:=Hr.1 c;obtain⟨i,y,e⟩:=List.getElem_of_mem hs;exact absurd rfl (z i s y (by rw[<-e];simp[y]))
def vI(ns:U Z)(l:U aI):Prop:=∀x∈l,eZ x.name/\fQ ns 4 x.bH
def YN{ns l n t}(b:vI ns l)(f:l.length<=1000)(c:eZ n)(d:fQ ns 4 t):AU (QX l n t) λr=>vI ns r/\r.length<=l.length+1:=by
 unfold QX;refine fB (λj s=>vI ns s/\s.length<=j+1) ⟨by intro x hx;simp at hx;subst hx;exact⟨c,d⟩,by simp⟩ ?_ λs hs=>bb hs
 intro j x s g hx e ⟨a,i⟩;refine ei (cZ (λ_=>eT Ar (bb (bb ⟨?_,by simp;omega⟩))) λ_=>bb (bb ⟨a,by omega⟩));intro y z;simp only[Hy,BV,G9,G8]at z;rcases z with z|rfl
 .exact a y z
 .exact b y hx
def YO l n:AU (IN l n) λ_=>True:=by
 unfold IN;exact fB (λ_ _=>True) trivial (λ_ _ _ _ _ _ _=>cZ (λ_=>bb (bb trivial)) λ_=>bb trivial) λ_ _=>bb trivial
abbrev vNs:U Z:=[⟨#[120]⟩,⟨#[121]⟩,⟨#[122]⟩,⟨#[117]⟩,⟨#[118]⟩,⟨#[119]⟩]
def YP{b}(h:WB b.l b.aT b.an b.dt){l}(d:l.length<=1000):AU (QW b l) λr=>eZ r.1/\(0<r.1.size\/∃t∈b.an,r.1=t.name):=by
 unfold QW;refine ei (AU.mono (P:=λr=>r.1=true->0<b.an.length) (cZ (λe=>?_) λe=>bb NP) ?_)
 .have:0<b.an.length:=by simpa using e
  exact ct (yO h.l VQ) λv _=>bb λ_=>this
 .rintro⟨f,g⟩ c;refine cZ (λe=>?_) λ_=>?_
  .refine ct (yO (b:=aE.mk _ _ _ _ _ _) h.l (by simpa using c e)) λv y=>?_
   simp only[B7]at y;exact fA y λt z _=>bb ⟨(h.t t z).1,.inr ⟨t,z,rfl⟩⟩
  .refine ct (yO (b:=aE.mk _ _ _ _ _ _) h.l VQ) λv y=>hC VQ ?_
   have e:IntKind.i64.wrap (((l.map aI.aq).length:Int)+v.1)=l.length+v.1:=by rw[BW];simp only[B7];omega
   have:=La 6 (a:=l.length+v.1) B9;have:=LZ (l.length+v.1) (b:=6) VQ;rw[e];refine fA ⟨by assumption,by simpa using by assumption⟩ λx hx _=>bb ?_
   have:∀x∈([⟨#[120]⟩,⟨#[121]⟩,⟨#[122]⟩,⟨#[117]⟩,⟨#[118]⟩,⟨#[119]⟩]:U Z),eZ x:=fM VQ;exact⟨this x hx,.inl ((by decide:∀x∈vNs,0<x.size) x hx)⟩
def Nn{b}(h:WB b.l b.aT b.an b.dt){l}(x:l.length<=1000):AU (QW b l) λr=>eZ r.1:=(YP h x).mono λ_ h=>h.1
def Nq a c:AU (GC a c) λ_=>True:=by
 unfold GC;refine cZ (λ_=>bb trivial) λe=>?_
 simp only[B7,bne_eq_false_iff_eq,Int.natCast_inj]at e;exact fB (λ_ _=>True) trivial (λj x _ _ _ y _=>fA ⟨by omega,by omega⟩ λ_ _ _=>cZ (λ_=>bb (bb trivial)) λ_=>bb trivial) λ_ _=>bb trivial
def Jg{ns}:∀{d n a c},fQ ns d a->d<=n->AU (zY n a c) λ_=>True
 |0,_,_,_,h,_=>h.elim
 |d+1,0,_,_,_,h=>absurd h B9
 |d+1,n+1,a,c,h,i=>by
  unfold zY;refine ei (AU.mono (P:=λ_=>True) (cZ (λ_=>bb trivial) λ_=>bb trivial) λk _=>?_);refine ei (AU.mono (P:=λ_=>True) (cZ (λ_=>bb trivial) λ_=>bb trivial) λl _=>?_);refine ei (AU.mono (P:=λr=>r=false->a.au.length=c.au.length) (cZ (λ_=>bb NP) λ_=>bb Ar) λm b=>?_);refine ei (AU.mono (P:=λr=>r=false->a.au.length=c.au.length) (cZ (λ_=>bb NP) λe=>ct (Nq _ _) λ_ _=>bb λ_=>b e) λf z=>?_);refine cZ (λ_=>bb trivial) λe=>?_
  have o:=z e;exact fB (λ_ _=>True) trivial (λj x _ _ hx g _=>fA ⟨by omega,by omega⟩ λy _ _=>ct (Jg (h.2.2.2.2.2.2.2.2 x hx) B9) λ_ _=>cZ (λ_=>bb (bb trivial)) λ_=>bb trivial) λ_ _=>bb trivial
section aoo
variable {d:Nat}
def Ax{k n v s ns bs ks p q}(h:yN (J.mk k n v s ns bs ks p q))(y:∀x∈ks,dY d x):dY (d+1) (J.mk k n v s ns bs ks p q):=⟨h,y⟩
def Ay{v}(h:0<=v/\v<=100):dY (d+1) (J.mk 0 ⟨#[]⟩ v ⟨#[]⟩ [] [] [] 0 0):=Ax E2 NP
def Mu{s}(h:eZ s):dY (d+1) (J.mk 1 ⟨#[]⟩ 0 s [] [] [] 0 0):=Ax E2 NP
def Mr{v}(h:0<=v/\v<=100):dY (d+1) (J.mk 2 ⟨#[]⟩ v ⟨#[]⟩ [] [] [] 0 0):=Ax E2 NP
def T9{n}(h:eZ n):dY (d+1) (J.mk 3 n 0 ⟨#[]⟩ [] [] [] 0 0):=Ax E2 NP
def YQ{n s ks}(h:eZ n)(hs:eZ s)(y:ks.length<=9)(z:∀x∈ks,dY d x):dY (d+1) (J.mk 4 n 0 s [] [] ks 0 0):=Ax (by simp[yN,h,hs,y]) z
def Lv{n ks}(h:eZ n)(y:ks.length<=1)(z:∀x∈ks,dY d x):dY (d+1) (J.mk 5 n 0 ⟨#[]⟩ [] [] ks 0 0):=Ax (by simp[yN,pO,h,y];omega) z
def Mq{ns ks}(h:ns.length<=8)(y:ks.length=ns.length)(hs:∀x∈ns,eZ x)(z:∀x∈ks,dY d x):dY (d+1) (J.mk 6 ⟨#[]⟩ 0 ⟨#[]⟩ ns [] ks 0 0):=Ax (by simp[yN,pO,h,y];exact⟨by omega,hs⟩) z
def Mp{n a c}(h:eZ n)(x:dY d a)(y:dY d c):dY (d+1) (J.mk 7 ⟨#[]⟩ 0 ⟨#[]⟩ [n] [] [a,c] 0 0):=Ax E2 (by simp[x,y])
def Mo{n a}(h:eZ n)(x:dY d a):dY (d+1) (J.mk 8 n 0 ⟨#[]⟩ [] [] [a] 0 0):=Ax E2 (by simp[x])
def wE9{ks}(h:ks.length<=9)(y:∀x∈ks,dY d x):dY (d+1) (J.mk 9 ⟨#[]⟩ 0 ⟨#[]⟩ [] [] ks 0 0):=Ax E2 y
def aep{ns ks}(h:ns.length<=8)(y:ks.length=ns.length+1)(hs:∀x∈ns,eZ x)(z:∀x∈ks,dY d x):dY (d+1) (J.mk 10 ⟨#[]⟩ 0 ⟨#[]⟩ ns [] ks 0 0):=Ax (by simp[yN,pO,h,y];exact hs) z
def aeq{n a c}(h:eZ n)(x:dY d a)(y:dY d c):dY (d+1) (J.mk 11 n 0 ⟨#[]⟩ [] [] [a,c] 0 0):=Ax E2 (by simp[x,y])
def YR{a c e}(x:dY d a)(y:dY d c)(z:dY d e):dY (d+1) (J.mk 12 ⟨#[]⟩ 0 ⟨#[]⟩ [] [] [a,c,e] 0 0):=Ax (by simp[yN,pO]) (by simp[x,y,z])
def aer{ns bs ks}(h:ns.length<=8)(z:ks.length=ns.length+1)(a:bs.length=ns.length)(hs:∀x∈ns,eZ x)(y:∀x∈bs,eZ x)(b:∀x∈ks,dY d x):dY (d+1) (J.mk 13 ⟨#[]⟩ 0 ⟨#[]⟩ ns bs ks 0 0):=Ax (by simp[yN,pO,h,z,a];exact⟨hs,y⟩) b
def ajj{n}(h:n∈nX):eZ n:=by
 have:∀n∈nX,eZ n:=fM VQ;exact this n h
def rp{n a c}(h:n∈nX)(x:dY d a)(y:dY d c):dY (d+1) (J.mk 14 n 0 ⟨#[]⟩ [] [] [a,c] 0 0):=Ax (by simp[yN,pO,h,ajj h]) (by simp[x,y])
def Q2{a}(x:dY d a):dY (d+1) (J.mk 14 ⟨#[110,111,116]⟩ 0 ⟨#[]⟩ [] [] [a] 0 0):=Ax (by simp[yN,pO];exact fM (l:=[⟨#[110,111,116]⟩]) VQ _ NP) (by simp[x])
end aoo
def bY{z:Type}{P:z->Prop}{l x}(h:∀y∈l,P y)(k:P x):∀y∈l++[x],P y:=by
 intro y hy;rcases Hy.1 hy with hy|hy
 .exact h y hy
 .rw[M6.1 hy];exact k
def UB{ns l t}(o:vI ns l)(Q:l.length<=1000):AU (Z9 l t) λr=>r.length<=9000/\∀x∈r,dY 2 x:=by
 unfold Z9;refine fB (λj s=>s.length<=9*j/\∀x∈s,dY 2 x) ⟨by simp,by simp⟩ ?_ λs hs=>bb ⟨by omega,hs.2⟩
 intro j x s X hx p ⟨h1,k⟩;have c:=(o x hx);have u:x.bH.ay.length<=8:=c.2.2.2.2.2.2.1;refine ct (Jg c.2 VQ) λb _=>?_
 refine ei (AU.mono (P:=λr=>∃a,r= .inl a/\a.length<=9*j+1/\∀x∈a,dY 2 x) ?_ ?_)
 .exact cZ (λ_=>eT Ar (bb ⟨_,rfl,by simp;omega,bY k (T9 c.1)⟩)) λ_=>bb ⟨_,rfl,by omega,k⟩
 .rintro _ ⟨a,rfl,g,f⟩;refine lm (λm(q:U J×Int)=>0<=q.2/\q.2<=8/\m=8-q.2.toNat/\q.1.length<=9*j+1+q.2.toNat/\∀x∈q.1,dY 2 x) (m:=8) VQ ⟨by simp,by simp,by simp,by simpa using g,f⟩ ?_;rintro m ⟨v,z⟩ ⟨i0,w,rfl,g,f⟩;dsimp only at i0 w g f |-;refine ei (AU.mono (P:=λr=>r=true->z<x.bH.ay.length/\z<x.bH.au.length) (cZ (λe=>bb λe2=>⟨by simpa using e,by simpa using e2⟩) λ_=>bb NP) λA i=>?_);refine cZ (λe=>?_) λ_=>bb (bb ⟨by omega,f⟩)
  obtain⟨C,D⟩:=i e;refine ei (AU.mono (P:=λr=>∃a,r= .inl a/\a.length<=9*j+1+(z.toNat+1)/\∀x∈a,dY 2 x) ?_ ?_)
  .refine fA ⟨i0,D⟩ λy K _=>ct (Jg (d:=3) (c.2.2.2.2.2.2.2.2.2 y K) VQ) λb2 _=>?_
   exact cZ (λ_=>fA ⟨i0,C⟩ λn L _=>eT Ar (bb ⟨_,rfl,by simp;omega,bY f (Mo (c.2.2.2.2.2.2.2.2.1 n L) (T9 c.1))⟩)) λ_=>bb ⟨_,rfl,by omega,f⟩
  .rintro _ ⟨a,rfl,k1,N⟩;have:IntKind.i64.wrap (z+1)=z+1:=by rw[BW];omega
   refine bb ⟨_,?_,?_,?_,rfl,?_,N⟩<;>dsimp only<;>rw[this]<;>omega
def aes{b}(h:WB b.l b.aT b.an b.dt)l t:AU (O9 b l t) λr=>dY 1 r.1:=by
 unfold O9;refine fB (λ_ _=>True) trivial (λj u _ _ hu _ _=>ct (YO _ _) λv _=>cZ (λ_=>ct (MR (h.t u hu).2.1 (h.t u hu).2.2) λw x=>ct (Jg x VQ) λ_ _=>cZ (λ_=>bb (bb (T9 (h.t u hu).1))) λ_=>bb trivial) λ_=>bb trivial) λ_ _=>bb (Ay VQ)
def PQ{l m A ts C}(h:WB l A ts C){ns e}(hs:∀x∈ns,x∈A.map (·.name)/\2<=e/\∀i n t,fQ [] 2 t->2<=n->AU (JI n (aE.mk l i m A ts C) t) λr=>dY 2 r.1):
 ∀d n i t,fQ ns d t->d+e<=n->AU (JI n (aE.mk l i m A ts C) t) λr=>dY (d+e) r.1
 |0,_,_,_,h,_=>h.elim
 |d+1,0,_,_,_,h=>absurd h B9
 |d+1,n+1,i,t,f,hn=>by
  have y:∀{x:J},dY 1 x->dY (d+1+e) x:=λhx=>hx.le B9
  unfold JI;refine cZ (λ_=>?_) λQ=>cZ (λ_=>?_) λX=>cZ (λ_=>?_) λn2=>cZ (λe3=>?_) λn3=>cZ (λe4=>?_) λn4=>?_
  .refine ct (yO (b:=aE.mk _ _ _ _ _ _) h.l VQ) λv z=>fA z λx hx _=>bb (y (Ay ?_))
   have:∀x∈([(0:Int),1,2,3,10]),0<=x/\x<=100:=by decide
   exact this x hx
  .refine ct (yO (b:=aE.mk _ _ _ _ _ _) h.l VQ) λv z=>fA z λx hx _=>bb (y (Mu ?_))
   have:∀x∈([⟨#[]⟩,⟨#[97]⟩,⟨#[98]⟩,⟨#[97,98]⟩]:U Z),eZ x:=fM VQ;exact this x hx
  .exact ct (yO (b:=aE.mk _ _ _ _ _ _) h.l VQ) λv z=>bb (y (Mr ⟨z.1,by omega⟩))
  .have g:t.ah=3:=by simpa using e3
   obtain⟨D,he,o⟩:=hs _ (f.2.1 g);refine ct (YM (b:=aE.mk _ _ _ _ _ _) _ D) λv z=>cZ (λ_=>bb (y (Ay VQ))) λ_=>?_
   have K:=h.s _ z;refine ct (yO (b:=aE.mk _ _ _ _ _ _) h.l Ar) λw P=>?_
   simp only[B7]at P;refine fA P λc hc _=>?_
   have p:=K.2.2 c hc;refine ei (cZ (λe=>ct (o _ _ _ (p.2 e) B9) λr o=>bb (bb ?_)) λ_=>bb (bb (y (Lv p.1 NP NP))));exact(Lv (d:=2) p.1 NP (by simpa using o)).le B9
  .have g:t.ah=4:=by simpa using e4
   have hl:=f.2.2.1 g;refine ct (yO (b:=aE.mk _ _ _ _ _ _) h.l VQ) λv z=>?_
   refine lm (λm(q:Int×U J×Int)=>0<=q.1/\q.1<=2/\m=q.1.toNat/\q.2.1.length+q.1.toNat<=2/\∀x∈q.2.1,dY (d+e) x) (m:=v.1.toNat) B9 ⟨z.1,by show v.1<=2;omega,rfl,by simp;omega,by simp⟩ ?_;rintro m ⟨a22,a23,a24⟩ ⟨i0,i1,rfl,u,a⟩;dsimp only at i0 i1 u a |-;refine cZ (λe=>?_) λ_=>bb (bb ((wE9 B9 a).le B9))
   have hp:0<a22:=by simpa using e
   refine fA ⟨by omega,by omega⟩ λk g _=>ct (PQ h hs d n _ k (f.2.2.2.2.2.2.2.2 k g) B9) λr o=>eT Ar ?_
   have:IntKind.i64.wrap (a22-1)=a22-1:=by rw[BW];omega
   refine bb ⟨(a22-1).toNat,?_,?_,?_,?_,?_,bY a o⟩<;>(try simp only[this,G7,B0,B1])<;>omega
  .have h8:=f.2.2.2.2.2.2.1;have art:t.au.length=t.ay.length:=f.2.2.2.1 (by have:=f.1;simp only[JR,ne_eq]at Q X n2 n3 n4;omega);refine fB (λj(q:U J×Int)=>q.1.length=j/\∀x∈q.1,dY (d+e) x) ⟨rfl,by simp⟩ ?_ ?_
   .rintro j k ⟨L,N⟩ _ g hlt ⟨u,a⟩;dsimp only at u a |-;exact ct (PQ h hs d n _ k (f.2.2.2.2.2.2.2.2 k g) B9) λr o=>eT Ar (bb ⟨by simp[u],bY a o⟩)
   .rintro⟨L,N⟩ ⟨u,a⟩;dsimp only at u a |-;exact bb ((Mq B9 B9 f.2.2.2.2.2.2.2.1 a).le B9)
end
section
theorem fQ.sub{ns y}(hs:∀x∈ns,x∈y):∀{d t},fQ ns d t->fQ y d t
 |0,_,h=>h.elim
 |d+1,t,⟨a,b,c,e,f,g,i,j,k⟩=>⟨a,λe=>hs _ (b e),c,e,f,g,i,j,λx hx=>(k x hx).sub hs⟩
section
variable {l:U Int}{m:Z}{ss:U az}{ts:U V}{fs:U bc}
abbrev gg(ss:U az):U Z:=ss.map (·.name)
theorem No(h:WB l ss ts fs){d n i t}(y:fQ (gg ss) d t)(z:d+2<=n):AU (JI n (aE.mk l i m ss ts fs) t) λr=>dY (d+2) r.1:=PQ h (λx hx=>⟨hx,by omega,λi n t y z=>PQ (ns:=[]) (e:=0) h NP 2 n i t y z⟩) d n i t y z
theorem vJ{x:Type}(h:WB l ss ts fs){i n f}{Q:x->Prop}(z:0<n)(k:∀v,0<=v.1->v.1<n->AU (f v) Q):AU ((iu (aE.mk l i m ss ts fs) n).bind f) Q:=ct (yO (b:=aE.mk _ _ _ _ _ _) h.l z) λv y=>k v y.1 y.2
theorem kZ{y z:Type}(h:WB l ss ts fs){i n:Int}{xs}{f:Int×Int->y->T z}{Q}(e:n=xs.length)(c:0<xs.length)(k:∀v x,x∈xs->AU (f v x) Q):AU ((iu (aE.mk l i m ss ts fs) n).bind λv=>(aA xs v.1).bind λx=>f v x) Q:=by
 subst e;exact vJ h B9 λv a b=>fA ⟨a,b⟩ λx hx _=>k v x hx
def UG(l:U Int)(m:Z)(ss:U az)(ts:U V)(fs:U bc)(d:Nat):Prop:=∀(n:Nat)(i:Int)(eS:U aI)(t:am)(p:Int),4*d+1<=n->vI (gg ss) eS->eS.length+4*d<=900->fQ (gg ss) 4 t->0<=p->p<=d->AU (lw n (aE.mk l i m ss ts fs) eS t p) λr=>dY (2*d+6) r.1
variable {d:Nat}(h:WB l ss ts fs)(ih:UG l m ss ts fs d)
include h ih
theorem wr1{p:Int}(x:0<p)(y:p<=d+1)(hd:d<=200):IntKind.i64.wrap (p-1)=p-1:=by rw[BW];omega
theorem pP{x:Type}{n}{i p:Int}{eS t f}{Q:x->Prop}(hd:d<=200)(y:4*d+1<=n)(z:vI (gg ss) eS)(a:eS.length+4*d<=900)(b:fQ (gg ss) 4 t)(c:0<p)(e:p<=d+1)(k:∀r,dY (2*d+6) r.1->AU (f r) Q):AU ((lw n (aE.mk l i m ss ts fs) eS t (IntKind.i64.wrap (p-1))).bind f) Q:=
 ct (by rw[wr1 h ih c e hd];exact ih n i eS t (p-1) y z a b B9 B9) k
theorem aeu(hd:d<=200){n}{i p:Int}{eS}(q:4*d+2<=n)(a:vI (gg ss) eS)(c:eS.length+4*d<=900)(f:0<p)(g:p<=d+1):AU (Pc n (aE.mk l i m ss ts fs) eS p) λr=>dY (2*d+6) r.1/\fQ (gg ss) 4 r.2.1:=by
 cases n with
 |zero=>omega
 |succ n=>
  unfold Pc;refine ei (AU.mono (P:=λr=>r.1=true->0<ts.length) (cZ (λe=>vJ h VQ λv _ _=>bb λ_=>by simpa using e) λ_=>bb NP) ?_);rintro⟨s,u⟩ j;have last:∀i,AU ((GB (aE.mk l i m ss ts fs)).bind λx=>(lw n (aE.mk l x.2 m ss ts fs) eS (am.mk (4:Int) (⟨#[]⟩) (0:Int) [] [x.1]) (IntKind.i64.wrap (p-(1:Int)))).bind λz=>some (z.1,x.1,z.2)) λr=>dY (2*d+6) r.1/\fQ (gg ss) 4 r.2.1:=λi=>
   ct (YJ (b:=aE.mk _ _ _ _ _ _) h) λt y=>pP h ih hd B9 a c ((kH y).le VQ) f g λr k=>bb ⟨k,y.le VQ⟩
  refine ei (cZ (λe=>kZ h NP (j e) λv t y=>ct (YO _ _) λb _=>cZ (λ_=>ct (MR (h.t t y).2.1 (h.t t y).2.2) λw o=>bb (bb ⟨(T9 (d:=2*d+5) (h.t t y).1),o.le VQ⟩)) λ_=>bb (last _)) λ_=>bb (last _))
theorem aev(hd:d<=200){n}{i p k:Int}{eS}(u:4*d+2<=n)(e:vI (gg ss) eS)(g:eS.length+4*d<=900)(j:0<p)(q:p<=d+1):AU (Pa n (aE.mk l i m ss ts fs) eS p k) λr=>dY (2*d+7) r.1:=by
 cases n with
 |zero=>omega
 |succ n=>
  have bS:∀{i:Int}{t:am}{c:Type}{f:J×Int->T c}{Q:c->Prop},fQ (gg ss) 4 t->(∀r:J×Int,dY (2*d+6) r.1->AU (f r) Q)->AU ((lw n (aE.mk l i m ss ts fs) eS t (IntKind.i64.wrap (p-1))).bind f) Q:=λa k=>pP h ih hd B9 e g a j q k
  unfold Pa;refine cZ (λ_=>bS (eQ VQ) λr x=>kZ h rfl VQ λv o y=>bS (eQ VQ) λs z=>bb (rp ?_ x z)) λ_=>cZ (λ_=>vJ h VQ λv _ _=>cZ (λ_=>bS (eQ VQ) λr x=>bb (Q2 x)) λ_=>kZ h rfl VQ λv o y=>bS (kH (eQ VQ)) λr x=>bb (YQ ?_ pO NP (by simpa using x))) λ_=>ct (YJ (b:=aE.mk _ _ _ _ _ _) h) λt a=>bS (a.le VQ) λr x=>kZ h rfl VQ λv o y=>bS (a.le VQ) λs z=>bb (rp ?_ x z)
  .simp only[BV,G9,G8]at y;rcases y with rfl|rfl<;>simp[nX]
  .have:∀o∈([⟨#[97,110,121]⟩,⟨#[97,108,108]⟩]:U Z),eZ o:=fM VQ;exact this o y
  .simp only[BV,G9,G8]at y;rcases y with rfl|rfl|rfl|rfl<;>simp[nX]
theorem aew(hd:d<=200){n}{i p:Int}{eS t}(hn:4*d+3<=n)(L:vI (gg ss) eS)(hb:eS.length+4*d+4<=900)(N:fQ (gg ss) 4 t)(g:0<p)(j:p<=d+1):AU (Pb n (aE.mk l i m ss ts fs) eS t p) λr=>dY (2*d+7) r.1:=by
 cases n with
 |zero=>omega
 |succ n=>
  unfold Pb;refine vJ h VQ λv v0 v1=>?_
  have Q:IntKind.i64.wrap (1+v.1)=1+v.1:=by rw[BW];omega
  refine lm (λq(s:U Z×U J×U aI×Int×Int)=>0<=s.2.2.2.1/\s.2.2.2.1<=2/\q=s.2.2.2.1.toNat/\vI (gg ss) s.2.2.1/\s.2.2.1.length+q<=eS.length+2/\s.1.length=s.2.1.length/\s.1.length+2*q<=4/\(∀x∈s.1,eZ x)/\∀x∈s.2.1,dY (2*d+6) x) (m:=(1+v.1).toNat) B9 ⟨by dsimp only;omega,by dsimp only;omega,by dsimp only;rw[Q],L,by dsimp only;omega,rfl,by simp;omega,by simp,by simp⟩ ?_;rintro q ⟨X,a3,a4,a5,a6⟩ ⟨g1,g2,rfl,a,g4,k,g6,c,f⟩;dsimp only at g1 g2 a g4 k g6 c f |-;refine cZ (λe=>?_) λ_=>bb ?_
  .have hp:0<a5:=by simpa using e
   have o:IntKind.i64.wrap (a5-1)=a5-1:=by rw[BW];omega
   refine ei (AU.mono (P:=λr=>∃s:U Z×U J×U aI×Int,r= .inl s/\vI (gg ss) s.2.2.1/\s.2.2.1.length<=a4.length+1/\s.1.length=s.2.1.length/\s.1.length<=X.length+2/\(∀x∈s.1,eZ x)/\∀x∈s.2.1,dY (2*d+6) x) ?_ ?_)
   .refine ct (aeu h ih hd B9 a B9 g j) λr z=>ct (Nn (b:=aE.mk _ _ _ _ _ _) h B9) λu hu=>eT Ar (eT Ar (ct (YN a B9 hu z.2) λe' y=>vJ h VQ λw _ _=>cZ (λ_=>eT Ar (pP h ih hd B9 y.1 B9 (eQ VQ) g j λr2 A=>eT Ar (bb ⟨_,rfl,y.1,y.2,by simp[k],by simp,bY (bY c hu) pO,bY (bY f z.1) A⟩))) λ_=>bb ⟨_,rfl,y.1,y.2,by simp[k],by simp,bY c hu,bY f z.1⟩))
   .rintro _ ⟨⟨b1,b2,b3,b4⟩,rfl,k1,k2,C,k4,D,K⟩;dsimp only at k1 k2 C k4 D K;refine bb ⟨(a5-1).toNat,?_,?_,?_,?_,k1,?_,C,?_,D,K⟩<;>(try simp only[o])<;>omega
  .exact pP h ih hd B9 a Ah N g j λr z=>eT Ar (bb (aep Ah Ar c (by
    intro x hx;rcases Hy.1 hx with hx|hx
    .rw[M6.1 hx];exact z
    .exact f x hx)))
theorem T55(hd:d<=200){n}{i p:Int}{eS t}(hn:4*d+2<=n)(D:vI (gg ss) eS)(K:eS.length+4*d<=900)(ht:fQ (gg ss) 4 t)(L:0<p)(N:p<=d+1):AU (MY n (aE.mk l i m ss ts fs) eS t p) λr=>dY (2*d+7) r.1:=by
 cases n with
 |zero=>omega
 |succ n=>
  unfold MY;refine fB (λj(s:U bc)=>s.length<=j/\∀x∈s,x∈fs) ⟨by simp,by simp⟩ ?_ ?_
  .intro j x s _ hx k ⟨g,z⟩;have:=h.fn;exact ei (ct (Jg (h.f x hx).2.2.2.2.2 VQ) λb _=>cZ (λ_=>eT (by simp;simp at k;omega) (bb (bb ⟨by simp;omega,bY z hx⟩))) λ_=>bb (bb ⟨by omega,z⟩))
  .intro c ⟨g,z⟩;dsimp only;refine cZ (λ_=>bb (Ay VQ)) λe=>?_
   have Q:0<c.length:=by simp at e;exact KS.2 e
   refine kZ h NP Q λv f a=>?_
   have a:=h.f f (z f a);refine ei (AU.mono (P:=λr=>∃s,r= .inl s/\eZ s) (cZ (λ_=>bb ⟨_,rfl,a.2.1⟩) λ_=>bb ⟨_,rfl,pO⟩) ?_);rintro _ ⟨s,rfl,hs⟩;have C:IntKind.i64.wrap (((f.params.map am.aq).length:Int)-f.gK)=f.params.length-f.gK:=by rw[BW];simp;omega
   have X:IntKind.i64.wrap ((f.params.length:Int)-f.gK+1)=f.params.length-f.gK+1:=by rw[BW];omega
   simp only[G5];rw[C,X];refine vJ h B9 λw w0 C=>?_
   have w3:IntKind.i64.wrap (f.gK+w.1)=f.gK+w.1:=by rw[BW];omega
   rw[w3];refine lm (λq(s:Int×U J×Int)=>0<=s.1/\s.1<=f.params.length/\q=f.params.length-s.1.toNat/\s.2.1.length=s.1.toNat/\∀x∈s.2.1,dY (2*d+6) x) (m:=f.params.length) B9 ⟨by simp,by simp,by simp,by simp,by simp⟩ ?_;rintro q ⟨y,a25,a26⟩ ⟨g,z,rfl,g3,o⟩;dsimp only at g z g3 o |-;refine cZ (λe=>?_) λ_=>bb (bb (YQ a.1 hs Ah o))
   have hp:y<f.gK+w.1:=by simpa using e
   have A:IntKind.i64.wrap (y+1)=y+1:=by rw[BW];omega
   refine fA ⟨g,by omega⟩ λu hu _=>pP h ih hd B9 D K ((a.2.2.2.2.1 u hu).mono) L N λr hr=>eT Ar (bb ⟨_,?_,?_,?_,rfl,?_,bY o hr⟩)<;>(try simp only[A,G7,B0,B1])<;>omega
theorem T54(hd:d<=200){n}{i p:Int}{eS t}(hn:4*d+2<=n)(K:vI (gg ss) eS)(hb:eS.length+4*d+1<=900)(ht:fQ (gg ss) 4 t)(N:0<p)(Q:p<=d+1):AU (MZ n (aE.mk l i m ss ts fs) eS t p) λr=>dY (2*d+7) r.1:=by
 cases n with
 |zero=>omega
 |succ n=>
  unfold MZ;refine kZ h (xs:=ss) NP (by have:=h.sn;omega) λv s hs=>?_
  have a:=h.s s hs;refine pP h ih hd B9 K B9 (yj (Lt hs) a.2.1) N Q λr hr=>vJ h VQ λw _ _=>?_
  refine fB (λj(q:U Z×U Z×U J×Int)=>q.1.length=j/\q.2.1.length=j/\q.2.2.1.length=j+1/\(∀x∈q.1,eZ x)/\(∀x∈q.2.1,eZ x)/\∀x∈q.2.2.1,dY (2*d+6) x) ⟨rfl,rfl,rfl,by simp,by simp,by simpa using hr⟩ ?_ ?_
  .rintro j c ⟨a5,a6,a7,a8⟩ _ hc hlt ⟨A,C,D,f,g,k⟩;dsimp only at A C D f g k |-;refine ei (AU.mono (P:=λr=>∃y∈s.bQ,r= .inl (y.name,y.has,y.arg)) ?_ ?_)
   .refine cZ (λ_=>?_) λ_=>bb ⟨c,hc,rfl⟩
    have e:IntKind.i64.wrap (IntKind.i64.wrap (((s.bQ.map aG.aq).length:Int)-1)-(j:Int))=s.bQ.length-1-j:=by
     rw[BW,BW];simp only[B7];omega
    rw[e];exact fA ⟨by omega,by omega⟩ λy z _=>bb ⟨y,z,rfl⟩
   .rintro _ ⟨y,z,rfl⟩;have X:=a.2.2 y z;refine ei (AU.mono (P:=λr=>∃q:U aI×Z×Int,r= .inl q/\vI (gg ss) q.1/\q.1.length<=eS.length+1/\eZ q.2.1) ?_ ?_)
    .refine cZ (λe=>ct (Nn (b:=aE.mk _ _ _ _ _ _) h B9) λu hu=>ct (YN K B9 hu ?_) λe' o=>bb ⟨_,rfl,o.1,o.2,hu⟩) λ_=>bb ⟨_,rfl,K,by dsimp only;omega,pO⟩
     have:=X.2 e;exact(fQ.sub NP this).le VQ
    .rintro _ ⟨⟨b1,b2,b3⟩,rfl,k1,k2,k3⟩;dsimp only at k1 k2 k3;exact eT Ar (eT Ar (pP h ih hd B9 k1 Ah ht N Q λr2 L=>eT Ar (bb ⟨by simp[A],by simp[C],by simp[D],bY f X.1,bY g k3,bY k L⟩)))
  .rintro⟨c14,c15,c16,c17⟩ ⟨A,C,D,f,g,k⟩;dsimp only at A C D f g k |-;exact bb (aer B9 B9 B9 f g k)
theorem T56(hd:d<=200){n}{i p:Int}{eS t}(hn:4*d+4<=n)(he:vI (gg ss) eS)(hb:eS.length+4*d+4<=900)(g:fQ (gg ss) 4 t)(h0:0<p)(D:p<=d+1):AU (XR n (aE.mk l i m ss ts fs) eS t p) λr=>dY (2*d+7) r.1:=by
 cases n with
 |zero=>omega
 |succ n=>
  have bS:∀{i:Int}{t:am}{β:Type}{f:J×Int->T β}{Q:β->Prop},fQ (gg ss) 4 t->(∀r:J×Int,dY (2*d+6) r.1->AU (f r) Q)->AU ((lw n (aE.mk l i m ss ts fs) eS t (IntKind.i64.wrap (p-1))).bind f) Q:=λg k=>pP h ih hd B9 he B9 g h0 D k
  unfold XR;refine vJ h VQ λv v0 v1=>cZ (λe0=>?_) λn0=>cZ (λe1=>?_) λn1=>cZ (λe2=>?_) λn2=>cZ (λe3=>?_) λn3=>cZ (λe4=>?_) λn4=>?_
  .refine cZ (λ_=>ct (YJ (b:=aE.mk _ _ _ _ _ _) h) λu hu=>bS ((kH hu).le VQ) λr z=>bb (YQ (fM (l:=JP) VQ _ (by simp[JP])) pO NP EB)) λ_=>cZ (λ_=>bS ?_ λr z=>bb (YQ (fM (l:=JP) VQ _ (by simp[JP])) pO NP EB)) λ_=>bS g λr z=>kZ h rfl VQ λv o X=>bS g λr2 A=>bb (rp ?_ z A)
   .have C:t.ah=0:=by simpa using e0
    have D:fQ (gg ss) 1 t:=by
     obtain⟨⟨a1,a2,a3⟩,a⟩:=g;exact⟨⟨a1,a2,a3⟩,a.1,a.2.1,a.2.2.1,a.2.2.2.1,a.2.2.2.2.1,a.2.2.2.2.2.1,a.2.2.2.2.2.2.1,by rw[a3 B9];simp⟩
    exact(kH D).le VQ
   .simp only[BV,G9,G8]at X;rcases X with rfl|rfl|rfl<;>simp[nX]
  .exact bS g λr z=>bS g λr2 A=>bb (rp Dk z A)
  .exact ct (aev h ih hd B9 he B9 h0 D) λr z=>bb z
  .have C:t.ah=3:=by simpa using e3
   refine ct (YM (b:=aE.mk _ _ _ _ _ _) _ (g.2.1 C)) λs hs=>?_
   have hs1:=h.s _ hs;refine kZ h NP B9 λw c hc=>?_
   have C:=hs1.2.2 c hc;refine ei (cZ (λe=>bS ((fQ.sub NP (C.2 e)).le VQ) λr z=>bb (bb (Lv C.1 NP EB))) λ_=>bb (bb (Lv C.1 NP NP)))
  .have C:t.ah=4:=by simpa using e4
   have hl:=g.2.2.1 C;refine cZ (λ_=>kZ h rfl VQ λw o X=>bS g λr z=>bb (YQ ?_ pO NP EB)) λ_=>fA ⟨by decide,by omega⟩ λu hu _=>ct (aes (b:=aE.mk _ _ _ _ _ _) h _ _) λr z=>?_
   .have:∀o∈([⟨#[115,111,114,116]⟩,⟨#[100,105,115,116,105,110,99,116]⟩]:U Z),eZ o:=fM VQ;exact this o X
   .refine ei (AU.mono (P:=λ_=>True) (cZ (λ_=>bb trivial) λ_=>bb trivial) λb _=>cZ (λ_=>bb (z.le B9)) λ_=>fA ⟨by decide,by omega⟩ λu hu _=>ct (aew h ih hd B9 he B9 ((g.2.2.2.2.2.2.2.2 u hu).mono) h0 D) λr z=>bb z)
  .have C:t.au.length=t.ay.length:=g.2.2.2.1 (by have:=g.1;simp only[JR,ne_eq]at n0 n1 n2 n3 n4;omega);have h8:=g.2.2.2.2.2.1;have K:∀u∈t.au,fQ (gg ss) 4 u:=λu hu=>(g.2.2.2.2.2.2.2.2 u hu).mono
   refine ei (AU.mono (P:=λr=>r=true->0<t.ay.length) (cZ (λ_=>bb (by simp[KS])) λ_=>bb NP) λb hb'=>cZ (λe=>?_) λe=>?_)
   .refine vJ h (by simpa using hb' e) λw w0 w1=>?_
    simp only[B7]at w1;exact bS g λr z=>fA ⟨w0,w1⟩ λx hx _=>fA ⟨w0,by omega⟩ λu hu _=>bS (K u hu) λr2 A=>bb (Mp (g.2.2.2.2.2.2.2.1 x hx) z A)
   .have ew:IntKind.i64.wrap (((t.ay.map G.str).length:Int)+1)=t.ay.length+1:=by rw[BW];simp only[B7];omega
    rw[ew];refine vJ h B9 λw w0 w1=>?_
    refine fB (λj(q:U Z×U J×Int)=>q.1.length=j/\q.2.1.length=j/\(∀x∈q.1,eZ x)/\∀x∈q.2.1,dY (2*d+6) x) ⟨rfl,rfl,by simp,by simp⟩ ?_ ?_
    .rintro j x ⟨a50,a51,a52⟩ _ hx hlt ⟨g1,g2,L,N⟩;dsimp only at g1 g2 L N |-;have e2:IntKind.i64.wrap ((j:Int)+w.1)=j+w.1:=by rw[BW];omega
     have e3:((t.ay.map G.str).length:Int)=t.ay.length:=by simp
     have r0:=La (t.ay.length:Int) (a:=j+w.1) B9;have r1:=LZ ((j:Int)+w.1) (b:=(t.ay.length:Int)) B9;rw[e2,e3];exact hC B9 (fA ⟨r0,r1⟩ λy hy _=>eT Ar (fA ⟨r0,by omega⟩ λu hu _=>bS (K u hu) λr z=>eT Ar (bb ⟨by simp[g1],by simp[g2],bY L (g.2.2.2.2.2.2.2.1 y hy),bY N z⟩)))
    .rintro⟨c58,c59,c60⟩ ⟨g1,g2,L,N⟩;dsimp only at g1 g2 L N |-;exact bb (Mq B9 B9 L N)
end
section
variable {l:U Int}{m:Z}{ss:U az}{ts:U V}{fs:U bc}
theorem T22(h:WB l ss ts fs):∀d,d<=200->UG l m ss ts fs d:=λd=>by
 induction d with
 |zero=>
  intro _ n i eS t p N y q c X h1;cases n with
  |zero=>omega
  |succ n=>
   unfold lw;have hp:decide (p<=0)=true:=by simp;omega
   refine ct (UB y B9) λv s=>vJ h VQ λw w0 w1=>?_
   refine ei (AU.mono (P:=λr=>r=true->0<v.length) (cZ (λe=>AU.mono (P:=λ_=>True) (cZ (λ_=>bb trivial) λ_=>bb trivial) λ_ _ _=>by simpa using e) λ_=>bb NP) λa3 A=>cZ (λe=>?_) λe=>?_)
   .exact kZ h NP (A e) λu x hx=>bb ((s.2 x hx).le B9)
   .refine ei (AU.mono (P:=λr=>r=true) (cZ (λ_=>bb rfl) λe=>by rw[hp]at e;cases e) λC g=>?_);subst g;exact ct (No h c B9) λr z=>bb (z.le B9)
 |succ d ih=>
  intro hd n i eS t p N y q c X h1;have ih:=ih B9;have up:∀{e:J},dY (2*d+7) e->dY (2*(d+1)+6) e:=λh=>h.le B9
  cases n with
  |zero=>omega
  |succ n=>
   unfold lw;refine ct (UB y B9) λv s=>vJ h VQ λw w0 w1=>?_
   refine ei (AU.mono (P:=λr=>r=true->0<v.length) (cZ (λe=>AU.mono (P:=λ_=>True) (cZ (λ_=>bb trivial) λ_=>bb trivial) λ_ _ _=>by simpa using e) λ_=>bb NP) λa3 A=>cZ (λe=>?_) λe=>?_)
   .exact kZ h NP (A e) λu x hx=>bb ((s.2 x hx).le B9)
   .refine ei (AU.mono (P:=λr=>r=false->0<p) (cZ (λ_=>bb NP) λe=>bb λ_=>by simpa using e) λC g=>cZ (λ_=>ct (No h c B9) λr z=>bb (z.le B9)) λe=>?_);have hp:=g e;have dq:∀i,AU ((XR n (aE.mk l i m ss ts fs) eS t p).bind λo=>some (o.1,o.2)) λr=>dY (2*(d+1)+6) r.1:=λi=>ct (T56 h ih B9 B9 y B9 c hp B9) λr z=>bb (up z)
    have bS:∀{i:Int}{eS:U aI}{t:am}{L:Type}{f:J×Int->T L}{Q:L->Prop},vI (gg ss) eS->eS.length+4*d<=900->fQ (gg ss) 4 t->(∀r:J×Int,dY (2*d+6) r.1->AU (f r) Q)->AU ((lw n (aE.mk l i m ss ts fs) eS t (IntKind.i64.wrap (p-1))).bind f) Q:=λy q c k=>pP h ih B9 B9 y q c hp B9 k
    refine ei (cZ (λ_=>?_) λ_=>cZ (λ_=>?_) λ_=>cZ (λ_=>cZ (λ_=>?_) λ_=>bb (dq _)) λ_=>?_)
    .refine ct (Nx (b:=aE.mk _ _ _ _ _ _) h) λu hu=>ct (Nn (b:=aE.mk _ _ _ _ _ _) h B9) λx hx=>bS y B9 hu.mono λr z=>ct (YN y B9 hx hu.mono) λe' D=>bS D.1 B9 c λr2 j=>bb (bb (up (aeq hx z j)))
    .exact bS y B9 (eQ VQ) λr z=>bS y B9 c λr2 j=>bS y B9 c λr3 K=>bb (bb (up (YR z j K)))
    .exact ct (T54 h ih B9 B9 y B9 c hp B9) λr z=>bb (bb (up z))
    .refine ei (AU.mono (P:=λr=>∃a,r= .inl a) (cZ (λ_=>bb ⟨_,rfl⟩) λ_=>bb ⟨_,rfl⟩) ?_);rintro _ ⟨a,rfl⟩;exact cZ (λ_=>ct (T55 h ih B9 B9 y B9 c hp B9) λr z=>cZ (λ_=>bb (bb (up z))) λ_=>bb (dq _)) λ_=>bb (dq _)
theorem MQ(h:WB l ss ts fs){d}(hd:d<=200){i p:Int}{eS t}(x:vI (gg ss) eS)(y:eS.length+4*d<=900)(z:fQ (gg ss) 4 t)(a:0<=p)(b:p<=d):AU (lw 1000000 (aE.mk l i m ss ts fs) eS t p) λr=>dY (2*d+6) r.1:=T22 h d hd _ i eS t p B9 x y z a b
end
end
abbrev oe(k:Int):am:=am.mk k ⟨#[]⟩ 0 [] []
abbrev Q3(k n:Int):J:=J.mk k ⟨#[]⟩ n ⟨#[]⟩ [] [] [] 0 0
abbrev Ua(s:Z):J:=J.mk 3 s 0 ⟨#[]⟩ [] [] [] 0 0
abbrev Q4(s:Z)(l:U J):J:=J.mk 14 s 0 ⟨#[]⟩ [] [] l 0 0
abbrev Oj(s:Z):J:=J.mk 1 ⟨#[]⟩ 0 s [] [] [] 0 0
def GS:Z:=⟨#[97,103,101]⟩
def Af:Z:=⟨#[110,97,109,101]⟩
def BI:J:=Q4 ⟨#[60]⟩ [Ua GS,Q3 0 100]
def la:J:=Q3 2 1
def fb:U J:=[la,BI,Q4 ⟨#[97,110,100]⟩ [Q4 ⟨#[60,61]⟩ [Q3 0 0,Ua GS],BI],Q4 ⟨#[111,114]⟩ [Q4 ⟨#[110,111,116]⟩ [Q4 ⟨#[61,61]⟩ [Ua Af,Oj ⟨#[]⟩]],BI],
 J.mk 12 ⟨#[]⟩ 0 ⟨#[]⟩ [] [] [Q4 ⟨#[61,61]⟩ [Ua GS,Q3 0 3],Q4 ⟨#[33,61]⟩ [Ua Af,Oj ⟨#[98]⟩],la] 0 0]
def T91{b}(y:∀x∈b.l,qv x):AU (Z6 b) λr=>r.1∈fb:=by
 unfold Z6;refine ct (yO y VQ) λv _=>?_
 refine cZ (λ_=>bb ?_) λ_=>cZ (λ_=>bb ?_) λ_=>cZ (λ_=>bb ?_) λ_=>cZ (λ_=>bb ?_) λ_=>bb ?_<;>simp[fb,BI,la,GS,Af]
structure DP where
 a:Int
 cj:Bool
 sh:Option Int
 k:Int
 c:J
 bh:Bool
 bR:Bool
 done:Bool
 dj:Bool
structure DP.ok(q:DP):Prop where
 a:0<=q.a/\q.a<3
 sh:∀b∈q.sh,0<=b/\b<2
 k:0<=q.k/\q.k<2
 c:q.c∈fb
def iD:Z:=⟨#[67,111,108,111,114]⟩
def Q5:Z:=⟨#[105,100]⟩
def gW:Z:=⟨#[105,116,101,109]⟩
def dw:Z:=⟨#[112,101,114,115,111,110]⟩
def tO:Z:=⟨#[111,119,110,101,114]⟩
def DP.bQ(q:DP):U aG:=[⟨⟨#[82,101,100]⟩,false,oe 0⟩,⟨⟨#[82,103,98]⟩,true,oe q.a⟩]++bif q.cj then[⟨⟨#[66,108,117,101]⟩,false,oe 0⟩]else[]
def DP.aT(q:DP):U az:=⟨iD,q.bQ⟩::match q.sh with
 |none=>[]
 |some b=>[⟨⟨#[83,104,97,112,101]⟩,[⟨⟨#[68,111,116]⟩,false,oe 0⟩,⟨⟨#[77,97,110,121]⟩,true,am.mk 4 ⟨#[]⟩ 0 [] [oe b]⟩]⟩]
def DP.iv(q:DP):U af:=[⟨Q5,oe q.k⟩,⟨Af,oe 1⟩,⟨GS,oe 0⟩]++(bif q.bh then[⟨⟨#[99,111,108,111,114]⟩,am.mk 3 iD 0 [] []⟩]else[])++bif q.bR then[⟨⟨#[102,108,97,103]⟩,oe 2⟩]else[]
def DP.qU(q:DP):U af:=[⟨tO,oe q.k⟩,⟨Q5,oe 0⟩,⟨⟨#[116,105,116,108,101]⟩,oe 1⟩]++bif q.done then[⟨⟨#[100,111,110,101]⟩,oe 2⟩]else[]
def DP.cy(q:DP):V:=⟨dw,q.iv,[Q5],[],q.c⟩
def DP.ig(q:DP):V:=⟨gW,q.qU,[Q5],[⟨tO,dw⟩],la⟩
def jP:V:=⟨⟨#[116,97,103]⟩,[⟨gW,oe 0⟩,⟨⟨#[119,111,114,100]⟩,oe 1⟩],[gW,⟨#[119,111,114,100]⟩],[⟨gW,gW⟩],la⟩
def DP.an(q:DP):U V:=[q.cy,q.ig]++bif q.dj then[jP]else[]
def T39{b}(d:∀x∈b.l,qv x):AU (Z7 b) λr=>∃q:DP,q.ok/\r.2.1=q.aT/\r.2.2=q.an:=by
 unfold Z7;have N:∀{i n:Int}{m:Z}{j:U az}{ts:U V}{o:U bc}{e:Type}{f:Int×Int->T e}{Q:e->Prop},0<n->(∀v:Int×Int,0<=v.1->v.1<n->AU (f v) Q)->AU ((iu (aE.mk b.l i m j ts o) n).bind f) Q:=λp k=>ct (yO (b:=aE.mk _ _ _ _ _ _) d p) λv g=>k v g.1 g.2
 refine N VQ λy s t=>N VQ λC _ _=>?_
 refine ei (AU.mono (P:=λr=>∃cj:At,r= .inl (DP.bQ ⟨y.1,cj,none,0,la,false,false,false,false⟩)) (cZ (λ_=>eT NP (bb ⟨true,rfl⟩)) λ_=>bb ⟨false,rfl⟩) ?_);rintro _ ⟨cj,rfl⟩;refine N VQ λD _ _=>?_
 refine ei (AU.mono (P:=λr=>∃(i:Int)(sh:T Int),(∀b∈sh,0<=b/\b<2)/\r= .inl (i,DP.aT ⟨y.1,cj,sh,0,la,false,false,false,false⟩)) (cZ (λ_=>N VQ λu b0 w=>eT NP (bb ⟨_,some u.1,by simpa using⟨b0,w⟩,rfl⟩)) λ_=>bb ⟨_,none,by simp,rfl⟩) ?_);rintro _ ⟨i,sh,a,rfl⟩;refine N VQ λz k0 k1=>ct (T91 (b:=aE.mk _ _ _ _ _ _) d) λc A=>N VQ λK _ _=>?_
 refine ei (AU.mono (P:=λr=>∃bh:At,r= .inl (DP.iv ⟨y.1,cj,sh,z.1,c.1,bh,false,false,false⟩)) (cZ (λ_=>eT NP (bb ⟨true,rfl⟩)) λ_=>bb ⟨false,rfl⟩) ?_);rintro _ ⟨bh,rfl⟩;refine N VQ λL _ _=>?_
 refine ei (AU.mono (P:=λr=>∃bR:At,r= .inl (DP.iv ⟨y.1,cj,sh,z.1,c.1,bh,bR,false,false⟩)) (cZ (λ_=>eT (by cases bh<;>simp[DP.iv]) (bb ⟨true,by simp[DP.iv]⟩)) λ_=>bb ⟨false,by simp[DP.iv]⟩) ?_);rintro _ ⟨bR,rfl⟩;refine N VQ λX _ _=>?_
 refine ei (AU.mono (P:=λr=>∃done:At,r= .inl (DP.qU ⟨y.1,cj,sh,z.1,c.1,bh,bR,done,false⟩)) (cZ (λ_=>eT NP (bb ⟨true,rfl⟩)) λ_=>bb ⟨false,rfl⟩) ?_);rintro _ ⟨done,rfl⟩;refine N VQ λv9 _ _=>?_
 refine ei (AU.mono (P:=λr=>∃dj:At,r= .inl (DP.an ⟨y.1,cj,sh,z.1,c.1,bh,bR,done,dj⟩)) (cZ (λ_=>eT NP (bb ⟨true,rfl⟩)) λ_=>bb ⟨false,rfl⟩) ?_);rintro _ ⟨dj,rfl⟩;exact bb ⟨⟨y.1,cj,sh,z.1,c.1,bh,bR,done,dj⟩,⟨⟨s,t⟩,a,⟨k0,k1⟩,A⟩,rfl,rfl⟩
section
def Vh(s:az):Prop:=s.bQ.length<=3/\eZ s.name/\∀c∈s.bQ,eZ c.name/\fQ [] 2 c.arg
def Is(ns:U Z)(t:V):Prop:=eZ t.name/\t.ae.length<=5/\(∀c∈t.ae,eZ c.name/\fQ ns 1 c.bH)/\t.key.length<=2/\(∀x∈t.key,eZ x)/\t.aX.length<=1/\(∀x∈t.aX,eZ x.ar/\eZ x.ai)/\dY 4 t.aH
def iV{s}(h:(JP.any λy=>s.data.toList==y.data.toList)=true):eZ s:=fM (l:=[s]) Do _ NP
def avv:∀c∈fb,dY 4 c:=by
 have v:∀{d:Nat}{s:Z},(JP.any λy=>s.data.toList==y.data.toList)=true->dY (d+1) (Ua s):=λh=>T9 (iV h)
 have jI:∀{d:Nat},dY (d+2) BI:=λ{d}=>rp (d:=d+1) Dk (v VQ) (Ay VQ)
 have tr:∀{d:Nat},dY (d+1) la:=λ{d}=>Mr VQ
 intro c x;simp only[fb,BV,G9,G8]at x;rcases x with rfl|rfl|rfl|rfl|rfl
 .exact tr
 .exact jI
 .exact rp Dk (rp Dk (Ay VQ) (v VQ)) jI
 .exact rp Dk (Q2 (rp Dk (v VQ) (Mu pO))) jI
 .exact YR (rp Dk (v VQ) (Ay VQ)) (rp Dk (v VQ) (Mu (iV Uz))) tr
def Na{q:DP}(h:q.ok):∀s∈q.aT,Vh s/\1<=s.bQ.length:=by
 have x:Vh ⟨iD,q.bQ⟩/\1<=q.bQ.length:=by
  refine⟨⟨by cases y:q.cj<;>simp[DP.bQ,y],iV Uz,λc x=>?_⟩,by simp[DP.bQ]⟩;have key:c.name∈([⟨#[82,101,100]⟩,⟨#[82,103,98]⟩,⟨#[66,108,117,101]⟩]:U Z)/\(c.arg=oe 0\/c.arg=oe q.a):=by
   cases y:q.cj<;>simp[DP.bQ,y]at x
   .rcases x with rfl|rfl<;>simp
   .rcases x with rfl|rfl|rfl<;>simp
  refine⟨fM VQ _ key.1,?_⟩;have:=h.a;rcases key.2 with e|e<;>rw[e]<;>exact eQ B9
 intro s hs;simp only[DP.aT,BV]at hs;rcases hs with rfl|hs
 .exact x
 .cases e:q.sh with
  |none=>rw[e]at hs;simp at hs
  |some b=>
   rw[e]at hs;simp only[M6]at hs;subst hs;have y:=h.sh b CD;refine⟨⟨by simp,iV Uz,λc x=>?_⟩,by simp⟩;simp only[BV,G9,G8]at x;rcases x with rfl|rfl
   .exact⟨iV Uz,eQ VQ⟩
   .exact⟨iV Uz,kH (eQ ⟨y.1,by omega⟩)⟩
def Qj{q:DP}(h:q.ok):∀t∈q.an,Is (gg q.aT) t:=by
 have f:=h.k;have sc:iD∈gg q.aT:=by simp[DP.aT]
 have ty:∀{k:Int},0<=k/\k<=2->fQ (gg q.aT) 1 (oe k):=λh=>eQ h
 have tr:dY 4 la:=Mr VQ;have c1:Is (gg q.aT) q.cy:=by
  refine⟨iV Uz,by cases z:q.bh<;>cases y:q.bR<;>simp[DP.cy,DP.iv,z,y],λc y=>?_,by simp[DP.cy],?_,by simp[DP.cy],by simp[DP.cy],avv _ h.c⟩
  .have key:(c.name∈([⟨#[99,111,108,111,114]⟩,⟨#[102,108,97,103]⟩,Q5,Af,GS]:U Z))/\(c.bH=oe 0\/c.bH=oe 1\/c.bH=oe 2\/c.bH=oe q.k\/c.bH=am.mk 3 iD 0 [] []):=by
    cases z:q.bh<;>cases a:q.bR<;>simp[DP.cy,DP.iv,z,a]at y
    .rcases y with rfl|rfl|rfl<;>simp
    .rcases y with rfl|rfl|rfl|rfl<;>simp
    .rcases y with rfl|rfl|rfl|rfl<;>simp
    .rcases y with rfl|rfl|rfl|rfl|rfl<;>simp
   refine⟨fM VQ _ key.1,?_⟩;rcases key.2 with e|e|e|e|e<;>rw[e]
   .exact ty VQ
   .exact ty VQ
   .exact ty VQ
   .exact ty B9
   .exact yj sc (iV Uz)
  .intro x hx;simp[DP.cy]at hx;subst hx;exact iV Uz
 have b:Is (gg q.aT) q.ig:=by
  refine⟨iV Uz,by cases z:q.done<;>simp[DP.ig,DP.qU,z],λc y=>?_,by simp[DP.ig],?_,by simp[DP.ig],?_,tr⟩
  .have key:(c.name∈([⟨#[100,111,110,101]⟩,⟨#[116,105,116,108,101]⟩,Q5,tO]:U Z))/\(c.bH=oe 0\/c.bH=oe 1\/c.bH=oe 2\/c.bH=oe q.k):=by
    cases z:q.done<;>simp[DP.ig,DP.qU,z]at y
    .rcases y with rfl|rfl|rfl<;>simp
    .rcases y with rfl|rfl|rfl|rfl<;>simp
   refine⟨fM VQ _ key.1,?_⟩;rcases key.2 with e|e|e|e<;>rw[e]<;>exact ty B9
  .intro x hx;simp[DP.ig]at hx;subst hx;exact iV Uz
  .intro x hx;simp[DP.ig]at hx;subst hx;exact⟨iV Uz,iV Uz⟩
 have d:Is (gg q.aT) jP:=by
  refine⟨iV Uz,by simp[jP],λc y=>?_,by simp[jP],?_,by simp[jP],?_,tr⟩
  .simp[jP]at y;rcases y with rfl|rfl
   .exact⟨iV Uz,ty VQ⟩
   .exact⟨iV Uz,ty VQ⟩
  .intro x hx;simp[jP]at hx;rcases hx with rfl|rfl<;>exact iV Uz
  .intro x hx;simp[jP]at hx;subst hx;exact⟨iV Uz,iV Uz⟩
 intro t ht;simp only[DP.an,Hy,BV,G9,G8]at ht;rcases ht with(rfl|rfl)|ht
 .exact c1
 .exact b
 .cases z:q.dj<;>rw[z]at ht<;>simp at ht;subst ht;exact d
def age{q:DP}(h:q.ok){l:U Int}(y:∀x∈l,qv x):WB l q.aT q.an []where
 l:=y
 sn:=by cases e:q.sh<;>simp[DP.aT,e]
 tn:=by cases e:q.dj<;>simp[DP.an,e]
 fn:=by simp
 s s hs:=by
  obtain⟨⟨a,b,c⟩,e⟩:=Na h s hs;exact⟨⟨e,a⟩,b,λx hx=>⟨(c x hx).1,λ_=>(c x hx).2⟩⟩
 t t ht:=by
  obtain⟨a,b,c,_⟩:=Qj h t ht;exact⟨a,b,c⟩
 f:=by simp
structure Ub(ns:List ByteArray)(p:bN):Prop where
 name:eZ p.name
 bH:fQ ns 3 p.bH
 default:dY 5 p.default
structure PR(s:aC):Prop where
 ah:0<=s.ah/\s.ah<=2
 ai:eZ s.ai
 bind:eZ s.bind
 cond:dY 12 s.cond
 value:dY 12 s.value
def Uc(ts:U V)(s:aC):Prop:=∃t∈ts,s.ai=t.name/\(s.ah≠0->s.ah≠1->(0<s.bind.size\/∃u∈ts,s.bind=u.name)/\∃c y,c∈t.ae.map (·.name)/\s.value.ah=7/\s.value.ay=[c]/\s.value.au=[J.mk 3 s.bind 0 ⟨#[]⟩ [] [] [] 0 0,y])
structure uo(ns:List ByteArray)(ts:List V)(d:bC):Prop where
 ah:0<=d.ah/\d.ah<=3
 name:eZ d.name
 sum:Vh d.sum
 ai:Is ns d.ai
 pl:d.params.length<=3
 params:∀p∈d.params,Ub ns p
 bH:fQ ns 3 d.bH
 body:dY 12 d.body
 sl:d.fL.length<=3
 fL:∀s∈d.fL,PR s
 so:∀s∈d.fL,Uc ts s
abbrev YT:az:=az.mk ⟨#[]⟩ []
abbrev YU:V:=V.mk ⟨#[]⟩ [] [] [] (Q3 0 0)
def PS:Vh YT:=⟨by simp,pO,by simp⟩
def PT{ns}:Is ns YU:=⟨pO,by simp,by simp,by simp,by simp,by simp,by simp,Ay VQ⟩
section
variable {l:U Int}{m:Z}{ss:U az}{ts:U V}{fs:U bc}
def T5(h:WB l ss ts fs){i}:AU (XS (aE.mk l i m ss ts fs)) λr=>r.1.length<=3/\r.2.1.length=r.1.length/\(0<=r.2.2.1/\r.2.2.1<=r.1.length)/\(∀p∈r.1,Ub (gg ss) p)/\∀t∈r.2.1,fQ (gg ss) 3 t:=by
 unfold XS;refine vJ h VQ λv v0 X=>?_
 refine lm (λq(s:U bN×U am×Int×Int×Int)=>0<=s.2.2.2.1/\s.2.2.2.1<=v.1/\q=(v.1-s.2.2.2.1).toNat/\s.1.length=s.2.2.2.1.toNat/\s.2.1.length=s.1.length/\0<=s.2.2.1/\s.2.2.1<=v.1/\(∀p∈s.1,Ub (gg ss) p)/\∀t∈s.2.1,fQ (gg ss) 3 t) (m:=v.1.toNat) B9 ⟨by simp,by simpa using v0,by simp,by simp,by simp,by simpa using v0,by simp,by simp,by simp⟩ ?_;rintro q ⟨a2,a3,a4,z,a6⟩ ⟨j,D,rfl,K,k,a,o,c,d⟩;dsimp only at j D K k a o c d |-;refine cZ (λe=>?_) λe=>bb (bb ⟨by dsimp only;omega,k,⟨a,?_⟩,c,d⟩)
 .have hp:z<v.1:=by simpa using e
  refine ct (Nx (b:=aE.mk _ _ _ _ _ _) h) λt f=>fA ⟨j,by simp;omega⟩ λn g _=>vJ h VQ λw _ _=>?_
  have g:eZ n:=fM (l:=[⟨#[112]⟩,⟨#[113]⟩,⟨#[114]⟩]) VQ _ g;refine ei (AU.mono (P:=λr=>∃(b:At)(u:am),r= .inl (b,u)/\fQ (gg ss) 3 u) (cZ (λ_=>bb ⟨_,_,rfl,f⟩) λ_=>bb ⟨_,_,rfl,eQ VQ⟩) ?_);rintro _ ⟨b,u,rfl,hu⟩;refine vJ h VQ λx _ _=>?_
  refine ei (AU.mono (P:=λ_=>True) (cZ (λ_=>bb trivial) λ_=>bb trivial) λL _=>?_);refine ei (AU.mono (P:=λr=>∃q:Int×At×J×Int,r= .inl q/\0<=q.1/\q.1<=v.1/\dY 5 q.2.2.1) (cZ (λ_=>ct (No h f VQ) λy N=>bb ⟨_,rfl,by dsimp only;split<;>omega,by dsimp only;split<;>omega,N⟩) λ_=>bb ⟨_,rfl,a,o,Ay VQ⟩) ?_);rintro _ ⟨⟨b1,b2,b3,b4⟩,rfl,k1,A,C⟩;dsimp only at k1 A C;have Q:IntKind.i64.wrap (z+1)=z+1:=by rw[BW];omega
  refine eT Ar (eT Ar (bb ⟨_,?_,?_,?_,rfl,?_,?_,k1,A,bY c ⟨g,hu,C⟩,bY d f⟩))<;>(try simp only[Q,G7,B0,B1])<;>omega
 .have hp:¬z<v.1:=by simpa using e
  dsimp only;omega
def T4{ns y us}(f:us.length=y.length)(g:y.length<=3)(hp:∀p∈y,Ub ns p)(b:∀t∈us,fQ ns 3 t):AU (XT y us) λr=>vI ns r/\r.length<=3:=by
 unfold XT;refine fB (λj s=>vI ns s/\s.length<=j) ⟨by intro x hx;simp at hx,by simp⟩ ?_ λs hs=>bb ⟨hs.1,by omega⟩
 intro j p s _ z c ⟨d,i⟩;exact fA ⟨by omega,by omega⟩ λt a _=>ct (YN d B9 (hp p z).name (b t a).mono) λr e=>bb ⟨e.1,by omega⟩
def Lu{a b}(x:0<=a/\a<=100)(y:0<=b/\b<=100):IntKind.i64.wrap (a+b)=a+b:=by rw[BW];omega
def T43(h:WB l ss ts fs){i n}(z:eZ n):AU (Mc (aE.mk l i m ss ts fs) n) λr=>(uo (gg ss) ts r.1/\r.1.ah=2)/\r.2.1.name=n/\r.2.1.cf=m/\r.2.1.params.length<=3/\(0<=r.2.1.gK/\r.2.1.gK<=r.2.1.params.length)/\(∀p∈r.2.1.params,fQ (gg ss) 3 p)/\fQ (gg ss) 3 r.2.1.oE:=by
 unfold Mc;refine ct (T5 h) λp hp=>ct (Nx (b:=aE.mk _ _ _ _ _ _) h) λt y=>ct (T4 hp.2.1 hp.1 hp.2.2.2.1 hp.2.2.2.2) λe a=>vJ h VQ λv v0 c=>?_
 refine ct (MQ h (d:=3) VQ a.1 B9 y.mono (by rw[Lu VQ B9];omega) (by rw[Lu VQ B9];omega)) λx hx=>vJ h VQ λw _ _=>?_
 refine ei (AU.mono (P:=λr=>∃(b:At)(u:am),r= .inl (b,u)/\fQ (gg ss) 3 u) (cZ (λ_=>bb ⟨_,_,rfl,y⟩) λ_=>bb ⟨_,_,rfl,eQ VQ⟩) ?_);rintro _ ⟨b,u,rfl,hu⟩;exact bb ⟨⟨⟨by simp,z,PS,PT,hp.1,hp.2.2.2.1,hu,hx,by simp,by simp,by simp⟩,rfl⟩,rfl,rfl,by dsimp only;omega,⟨hp.2.2.1.1,by dsimp only;omega⟩,hp.2.2.2.2,y⟩
def T99(h:WB l ss ts fs)(C:0<ts.length)(D:∀t∈ts,1<=t.ae.length){i eS}(q:vI (gg ss) eS)(Q:eS.length<=3):AU (MT (aE.mk l i m ss ts fs) eS) λr=>PR r.1/\Uc ts r.1:=by
 unfold MT;refine kZ h NP C λv t a=>ct (YK (h.t t a).2.1 (h.t t a).2.2) λu hu=>vJ h VQ λw w0 X=>cZ (λz=>ct (MQ h (d:=2) VQ q B9 (hu.1.le VQ) VQ VQ) λx hx=>bb ⟨⟨⟨w0,by dsimp only;omega⟩,(h.t t a).1,pO,Ay VQ,hx.le VQ⟩,t,a,rfl,λk=>absurd EB k⟩) λ_=>?_
 refine ct (YP (b:=aE.mk _ _ _ _ _ _) h B9) λn⟨g,o⟩=>ct (YN q B9 g (hu.1.le VQ)) λe' e=>ct (MQ h (d:=2) VQ e.1 B9 (eQ VQ) VQ VQ) λx hx=>?_
 refine ei (AU.mono (P:=λr=>∃(y:J)(i:Int),r= .inl (y,i)/\dY 12 y/\(w.1≠0->w.1≠1->∃c v,c∈t.ae.map (·.name)/\y.ah=7/\y.ay=[c]/\y.au=[J.mk 3 n.1 0 ⟨#[]⟩ [] [] [] 0 0,v])) (cZ (λ_=>?_) λz=>bb ⟨_,_,rfl,Ay VQ,λk0 k1=>by simp only[JR,ne_eq]at z;omega⟩) ?_)
 .have K:=D t a;have hl:=hu.1.2.2.2.1 hu.2.1;have L:=hu.2.2.1;refine vJ h Ar λz s A=>?_
  simp only[B7]at A;exact fA ⟨s,A⟩ λc f _=>fA ⟨s,by omega⟩ λk N _=>ct (MQ h (d:=1) VQ e.1 B9 ((hu.1.2.2.2.2.2.2.2.2 k N).le VQ) VQ VQ) λy p=>bb ⟨_,_,rfl,(Mp (d:=8) (hu.1.2.2.2.2.2.2.2.1 c f) (T9 g) p).le VQ,λ_ _=>⟨c,y.1,hu.2.2.2 c f,rfl,rfl,rfl⟩⟩
 .rintro _ ⟨y,j,rfl,p,hs⟩;exact bb ⟨⟨⟨w0,by dsimp only;omega⟩,(h.t t a).1,g,hx.le VQ,p⟩,t,a,rfl,λk0 k1=>⟨o,hs k0 k1⟩⟩
def T44(h:WB l ss ts fs)(c:0<ts.length)(d:∀t∈ts,1<=t.ae.length){i n}(f:eZ n):AU (Mb (aE.mk l i m ss ts fs) n) λr=>uo (gg ss) ts r.1/\r.1.ah=3:=by
 unfold Mb;refine ct (T5 h) λp hp=>vJ h VQ λv v0 u=>?_
 have z:IntKind.i64.wrap (1+v.1)=1+v.1:=Lu VQ B9;refine lm (λq(s:Int×U aC×Int)=>0<=s.1/\s.1<=2/\q=s.1.toNat/\s.2.1.length+q<=2/\∀x∈s.2.1,PR x/\Uc ts x) (m:=(1+v.1).toNat) B9 ⟨by rw[z];dsimp only;omega,by rw[z];dsimp only;omega,by rw[z],by simp;omega,by simp⟩ ?_;rintro q ⟨a3,w,A⟩ ⟨g,j,rfl,k,y⟩;dsimp only at g j k y |-;refine cZ (λe=>?_) λ_=>bb (bb ⟨⟨by simp,f,PS,PT,hp.1,hp.2.2.2.1,eQ VQ,Ay VQ,by dsimp only;omega,λs hs=>(y s hs).1,λs hs=>(y s hs).2⟩,rfl⟩)
 have o:0<a3:=by simpa using e
 have a:IntKind.i64.wrap (a3-1)=a3-1:=by rw[BW];omega
 refine ct (T4 hp.2.1 hp.1 hp.2.2.2.1 hp.2.2.2.2) λe b=>ct (T99 h c d b.1 b.2) λx hx=>eT Ar (bb ⟨(a3-1).toNat,?_,?_,?_,?_,?_,bY y hx⟩)<;>(try simp only[a,G7,B0,B1])<;>omega
def T41(h:WB l ss ts fs)(ht:2<=ts.length){i k}(hm:eZ m):AU (Z8 (aE.mk l i m ss ts fs) k) λr=>(uo (gg ss) ts r.1/\r.1.ah=2)/\eZ r.2.1.name/\r.2.1.cf=m/\r.2.1.params.length<=3/\(0<=r.2.1.gK/\r.2.1.gK<=r.2.1.params.length)/\(∀p∈r.2.1.params,fQ (gg ss) 3 p)/\fQ (gg ss) 3 r.2.1.oE:=by
 unfold Z8;have x:∀{s:Z}{b:At}{e:J},eZ s->dY 5 e->Ub (gg ss) (bN.mk s false (oe 0) b e 0 0):=λhs N=>⟨hs,eQ VQ,N⟩
 have np:∀{j:Int}{o:Type}{f:V->am->T o}{Q:o->Prop},(0<=j/\j<2)->(∀t u,fQ (gg ss) 2 u->AU (f t u) Q)->AU ((aA ts j).bind λt=>(Fi t).bind λu=>f t u) Q:=λhj k=>fA ⟨hj.1,by omega⟩ λt y _=>ct (MR (h.t t y).2.1 (h.t t y).2.2) λu hu=>k t u hu
 refine ct (YJ (b:=aE.mk _ _ _ _ _ _) h) λv w=>?_
 refine ei (AU.mono (P:=λr=>∃q:U am×am×Z×U bN×J,r= .inl q/\q.1.length<=3/\(1<=q.1.length/\(k=2->q.1.length=2))/\(∀t∈q.1,fQ (gg ss) 3 t)/\fQ (gg ss) 3 q.2.1/\eZ q.2.2.1/\q.2.2.2.1.length<=3/\(∀p∈q.2.2.2.1,Ub (gg ss) p)/\dY 12 q.2.2.2.2) ?_ ?_)
 .have c:fQ (gg ss) 3 v.1:=w.le VQ;have A:fQ (gg ss) 3 (oe 0):=eQ VQ;have X:∀{d:Nat}{s:Z},eZ s->dY (d+1) (Ua s):=λh=>T9 h
  have z:dY 5 (Q3 0 0):=Ay VQ;have nx:eZ ⟨#[120]⟩:=iV Uz;have C:eZ ⟨#[121]⟩:=iV Uz;have nn:eZ ⟨#[110]⟩:=iV Uz;refine cZ (λe=>?_) λn1=>cZ (λe=>?_) λn2=>cZ (λe=>?_) λn3=>?_
  .refine np VQ λt u hu=>bb ⟨_,rfl,by simp,⟨by simp,λe2=>?_⟩,by simpa using hu.mono,eQ VQ,iV Uz,by simp,by simpa using x nx z,(Mo (d:=11) (iV Uz) (X nx))⟩
   have:k=1:=by simpa using e
   omega
  .refine eT NP (bb ⟨_,rfl,by simp,by simp,by simpa using⟨c,A⟩,yk rfl NP (fM VQ) (by simpa using⟨w.le VQ,eQ VQ⟩),iV Uz,by simp,by simpa using⟨x nx z,x C z⟩,Mq (d:=11) NP rfl (fM VQ) (by simpa using⟨X C,X nx⟩)⟩)
  .refine eT NP (np VQ λt u hu=>np VQ λt2 u2 g=>bb ⟨_,rfl,by simp,⟨by simp,by simp⟩,by simpa using⟨hu.mono,A⟩,g.mono,iV Uz,by simp,by simpa using⟨x nx z,x nn (Ay VQ)⟩,Mp (d:=11) (iV Uz) (X nx) (rp (d:=10) Dk (Mo (d:=9) (iV Uz) (X nx)) (X nn))⟩)
  .refine bb ⟨_,rfl,by simp,⟨by simp,λe2=>?_⟩,by simpa using c,c,iV Uz,by simp,by simpa using x nx z,X nx⟩;have:¬k=2:=by simpa using n2
   exact absurd e2 this
 .rintro _ ⟨⟨b1,b2,b3,b4,b5⟩,rfl,k1,⟨k2,a⟩,D,k4,n,K,k7,L⟩;dsimp only at k1 k2 a D k4 n K k7 L;refine ei (AU.mono (P:=λr=>∃q:Int,r= .inl q/\0<=q/\q<=b1.length) (cZ (λe=>bb ⟨_,rfl,by omega,?_⟩) λ_=>bb ⟨_,rfl,by omega,by omega⟩) ?_)
  .have:k=2:=by simpa using e
   have:=a this;omega
  .rintro _ ⟨q,rfl,q0,q1⟩;exact bb ⟨⟨⟨by simp,n,PS,PT,K,k7,eQ VQ,L,by simp,by simp,by simp⟩,rfl⟩,n,rfl,k1,⟨q0,q1⟩,D,k4⟩
def UC{a c n d}(x:a.cx.length<=1000)(y:c.cx.length<=1000):
 AU (XM a c n d) λr=>r.1.name=a.name/\r.2.name=c.name/\(r.1.cx=a.cx/\r.2.cx=c.cx++[d]\/r.1.cx=a.cx++[d]/\r.2.cx=c.cx):=by
 unfold XM;refine ei (cZ (λ_=>eT Ar (bb (bb ⟨rfl,rfl,.inl ⟨rfl,rfl⟩⟩))) λ_=>eT Ar (bb (bb ⟨rfl,rfl,.inr ⟨rfl,rfl⟩⟩)))
end
end
section
theorem gb{x y:Type}{o}{f:x->T y}{Q}(h:AU o λ_=>True)(k:∀a,AU (f a) Q):AU (o.bind f) Q:=ct h λa _=>k a
theorem AU.ok{x:Type}{o:T x}(h:o.isSome=true):AU o λ_=>True:=by
 cases o with
 |none=>simp at h
 |some a=>exact⟨a,rfl,trivial⟩
theorem H2{y z γ:Type}{x:y⊕z}{f:y->T γ}{g:z->T γ}{Q:γ->Prop}(h:∀a,AU (f a) Q)(k:∀b,AU (g b) Q):AU (Sum.elim f g x) Q:=AU.sum (λa _=>h a) λb _=>k b
theorem Fk P(h:JP.all P=true):∀x,eZ x->P x=true:=λx hx=>H0.1 h x hx
theorem N8:∀x,eZ x->x.size<=8:=λx hx=>by simpa using Fk (λx=>decide (x.size<=8)) VQ x hx
theorem GV{x}(h:eZ x):AU (uN x) λ_=>True:=AU.ok (Fk (λx=>(uN x).isSome) E3 x h)
theorem Ji{x}(h:eZ x):AU (ya x) λ_=>True:=AU.ok (Fk (λx=>(ya x).isSome) E3 x h)
theorem aex{x}(h:eZ x):AU (Ps x) λ_=>True:=AU.ok (Fk (λx=>(Ps x).isSome) E3 x h)
theorem UD{n}(h:0<=n/\n<=100):AU (IT n) λs=>s.size<=3:=by
 have key:((List.range 101).all λk=>(IT k).any λs=>decide (s.size<=3))=true:=by decide+kernel
 have:=H0.1 key n.toNat Ar;rw[show(n.toNat)=n by omega]at this;cases e:IT n with
 |none=>rw[e]at this;simp at this
 |some s=>rw[e]at this;exact⟨s,rfl,by simpa using this⟩
theorem Ud l x:AU (GH l x) λr=> -1<=r/\r<l.length:=fB (λ_ _=>True) trivial (λj y _ _ _ z _=>cZ (λ_=>bb (bb ⟨by omega,by omega⟩)) λ_=>bb trivial) λ_ _=>bb ⟨by omega,by omega⟩
theorem aey k:AU (Pq k) λ_=>True:=by
 repeat' first|exact bb trivial|refine gb ?_ λ_=>?_|refine cZ (λ_=>?_) λ_=>?_
theorem aez e:AU (Pr e) λ_=>True:=by
 repeat' first|exact bb trivial|exact(Ud _ _).mono λ_ _=>trivial|refine gb ?_ λ_=>?_|refine cZ (λ_=>?_) λ_=>?_|refine H2 (λ_=>?_) λ_=>?_
theorem YV{l b}(h:∀x∈l,eZ x):AU (IV l b) λ_=>True:=by
 refine fB (λ_ _=>True) trivial (λj x _ _ hx _ _=>?_) λ_ _=>bb trivial
 refine gb (GV (h x hx)) λ_=>gb ?_ λ_=>cZ (λ_=>bb (bb trivial)) λ_=>bb trivial
 repeat' first|exact bb trivial|refine cZ (λ_=>?_) λ_=>?_
theorem aeA{d e}(h:dY d e):AU (Pt e) λ_=>True:=by
 cases d with
 |zero=>exact h.elim
 |succ d=>
  have hs:=h.1;have a:=YV (b:=e.ah==10) hs.2.2.2.2.2.2.1;have c:=YV (b:=true) hs.2.2.2.2.2.2.2.1;have lp:AU ((bo (λf y _=>((ya y).bind λz=>bif (!z)then(some (.inr (.inr (.inr 6))))else(some (.inl ())):T (Unit⊕(Unit⊕(Unit⊕Int))))) (λ_=>()) 0 e.ay ()).bind (Sum.elim (λ_=>some (.inl ())) some)) λ_=>True:=
   fB (λ_ _=>True) trivial (λj x _ _ hx _ _=>gb (Ji (hs.2.2.2.2.2.2.1 x hx)) λ_=>cZ (λ_=>bb (bb trivial)) λ_=>bb trivial) λ_ _=>bb trivial
  repeat' first|exact bb trivial|exact aey _|exact aez _|exact GV hs.2.1|exact GV hs.2.2.1|exact Ji hs.2.1|exact aex hs.2.2.1|exact lp|exact a|exact c|refine gb ?_ λ_=>?_|refine cZ (λ_=>?_) λ_=>?_|refine H2 (λ_=>?_) λ_=>?_
theorem Ue t:AU (zZ t) λ_=>True:=by
 repeat' first|exact bb trivial|refine gb ?_ λ_=>?_|refine cZ (λ_=>?_) λ_=>?_
theorem GW t:AU (uM t) λ_=>True:=by
 repeat' first|exact bb trivial|refine gb ?_ λ_=>?_|refine cZ (λ_=>?_) λ_=>?_
theorem aeB t:AU (Pe t) λ_=>True:=by
 repeat' first|exact bb trivial|exact GW _|refine gb ?_ λ_=>?_|refine cZ (λ_=>?_) λ_=>?_
theorem aeC d:AU (Pf d) λ_=>True:=by
 have m:∀l{f:Unit->T At},(∀u,AU (f u) λ_=>True)->AU ((bo (λn(z:aG)=>λ_=>((bif (!z.has)then((zZ z.arg).bind λa=>some (!a))else(some false)).bind (λb=>bif b then(some (.inr (.inr false)))else(some (.inl ()))))) (λ_=>()) 0 l ()).bind _) λ_=>True:=λl f c=>
  fB (λ_ _=>True) trivial (λj x _ _ hx _ _=>gb (by repeat' first|exact bb trivial|exact Ue _|refine gb ?_ λ_=>?_|refine cZ (λ_=>?_) λ_=>?_) λ_=>cZ (λ_=>bb (bb trivial)) λ_=>bb trivial) λ_ _=>c _
 have o:∀l{f:Unit->T At},(∀u,AU (f u) λ_=>True)->AU ((bo (λp(y:bN)=>λ_=>((bif (!y.pn)then((zZ y.bH).bind λe=>some (!e))else(some false):T At).bind (λg=>(bif g then(some true)else(bif (!y.has)then((uM y.default).bind λi=>some (!i))else(some false))).bind (λk=>bif k then(some (.inr (.inr false)))else(some (.inl ())))))) (λ_=>()) 0 l ()).bind _) λ_=>True:=λl f c=>
  fB (λ_ _=>True) trivial (λj x _ _ hx _ _=>gb (by repeat' first|exact bb trivial|exact Ue _|refine gb ?_ λ_=>?_|refine cZ (λ_=>?_) λ_=>?_) λ_=>gb (by repeat' first|exact bb trivial|exact GW _|refine gb ?_ λ_=>?_|refine cZ (λ_=>?_) λ_=>?_) λ_=>cZ (λ_=>bb (bb trivial)) λ_=>bb trivial) λ_ _=>c _
 repeat' first|exact bb trivial|exact aeB _|exact GW _|exact Ue _|refine m _ λ_=>?_|refine o _ λ_=>?_|refine gb ?_ λ_=>?_|refine cZ (λ_=>?_) λ_=>?_
theorem YW:∀{d n a c},dY d a->d<=n->AU (IY n a c) λ_=>True
 |0,_,_,_,h,_=>h.elim
 |d+1,0,_,_,_,h=>absurd h B9
 |d+1,n+1,a,c,h,g=>by
  refine gb ?_ λ_=>gb ?_ λ_=>gb ?_ λi=>?_
  iterate 3 (repeat' first|exact bb trivial|refine cZ (λ_=>?_) λ_=>?_)
  refine ct (P:=λr=>r=false->a.au.length=c.au.length) (cZ (λ_=>bb NP) λ_=>bb Ar) λb z=>cZ (λ_=>bb trivial) λe=>?_
  have k:=z e;refine gb (Nq _ _) λv=>gb ?_ λ_=>cZ (λ_=>bb trivial) λ_=>?_
  .exact cZ (λ_=>bb trivial) λ_=>gb (Nq _ _) λ_=>bb trivial
  .exact fB (λ_ _=>True) trivial (λj x _ _ hx f _=>fA ⟨by omega,by omega⟩ λy _ _=>gb (YW (h.2 x hx) B9) λ_=>cZ (λ_=>bb (bb trivial)) λ_=>bb trivial) λ_ _=>bb trivial
theorem Uf e:AU (By e) λr=>0<=r/\r<=8:=by
 refine ei (AU.mono (P:=λr=>∃a,r= .inl a) (by repeat' first|exact bb ⟨_,rfl⟩|refine cZ (λ_=>?_) λ_=>?_) ?_);rintro _ ⟨a,rfl⟩;refine cZ (λ_=>bb VQ) λ_=>cZ (λ_=>bb VQ) λ_=>cZ (λ_=>cZ (λ_=>bb VQ) λ_=>?_) λ_=>bb VQ
 refine ct (Ud _ _) λv x=>fA ⟨by split<;>omega,by simp at x |-;split<;>omega⟩ λy z _=>bb ?_
 have:∀y∈([1,2,4,4,4,4,5,5,5,6]:U Int),0<=y/\y<=8:=by decide
 exact this y z
theorem Ug e k:AU (GK e k) λ_=>True:=by
 refine gb ((Uf e).mono λ_ _=>trivial) λ_=>?_
 repeat' first|exact bb trivial|refine cZ (λ_=>?_) λ_=>?_
theorem YX:∀{d n e},dY d e->d<=n->AU (IW n e) λ_=>True
 |0,_,_,h,_=>h.elim
 |d+1,0,_,_,h=>absurd h B9
 |d+1,n+1,e,h,i=>by
  have j:=h.1.2.2.2.2.2.1;refine gb (aeA h) λv=>?_
  refine lm (λm(s:Int×Int)=>0<=s.2/\s.2<=e.au.length/\m=e.au.length-s.2.toNat) (m:=e.au.length) B9 ⟨by simp,by simp,by simp⟩ ?_;rintro m ⟨l,x⟩ ⟨y,z,rfl⟩;refine ct (P:=λr=>r=true->x<e.au.length) (cZ (λc=>bb λ_=>by simpa using c) λ_=>bb NP) λo a=>cZ (λc=>?_) λ_=>bb (bb trivial)
  have b:=a c;have f:IntKind.i64.wrap (x+1)=x+1:=by rw[BW];omega
  refine fA ⟨y,b⟩ λk g _=>gb (YX (h.2 k g) B9) λ_=>bb ⟨_,?_,?_,?_,rfl⟩<;>omega
theorem YY:∀{d n e},dY d e->d<=n->AU (IX n e) λ_=>True
 |0,_,_,h,_=>h.elim
 |d+1,0,_,_,h=>absurd h B9
 |d+1,n+1,e,h,g=>by
  refine fB (λ_ _=>True) trivial (λj x s _ hx f _=>?_) λc _=>?_
  .have t5:=(Uf x).mono λ_ _=>trivial
   have tl:∀{c:At}{v s:Int},AU ((bif c then(some (.inl (IntKind.i64.wrap (v+1))))else(some (.inl v))).bind (Sum.elim (λy=>some (.inl (if s<y then y else s))) some)) (Sum.elim (λ_=>True) λq=>AU (Sum.elim (λb=>(bif (e.ah==14)then(some (bg e.name (⟨#[110,111,116]⟩)))else(some false)).bind (λz=>(bif z then(some (.inl (IntKind.i64.wrap (b+1))))else(some (.inl b))).bind (Sum.elim (λa=>some a) some))) some q) λ_=>True):=λ{c v s}=>ei (cZ (λ_=>bb (bb trivial)) λ_=>bb (bb trivial))
   refine gb (YY (h.2 x hx) B9) λv=>cZ (λ_=>gb t5 λ_=>gb (Ug _ _) λ_=>tl) λ_=>cZ (λ_=>gb t5 λ_=>gb (Ug _ _) λ_=>tl) λ_=>bb trivial
  .repeat' first|exact bb trivial|refine gb ?_ λ_=>?_|refine cZ (λ_=>?_) λ_=>?_|refine H2 (λ_=>?_) λ_=>?_
theorem T81{d e}(h:dY d e)(hd:d<=1000):AU (JK e) λ_=>True:=by
 refine gb (YX h B9) λ_=>gb (cZ (λ_=>gb (YY h B9) λ_=>bb trivial) λ_=>bb trivial) λ_=>cZ (λ_=>bb trivial) λ_=>bb trivial
theorem YZ{ns}:∀{d n t},fQ ns d t->d<=n->AU (GI n t) λ_=>True
 |0,_,_,h,_=>h.elim
 |d+1,0,_,h,_=>by omega
 |d+1,n+1,t,h,w=>by
  have e:=h.2.2.2.2.1;have g:=h.2.2.2.2.2.2.2.1;have o:∀{i:Unit},AU ((bo (λp(k:am)=>λ_=>((GI n k).bind λz=>bif (z !=0)then(some (.inr (.inr z)))else(some (.inl ())))) (λ_=>()) 0 t.au ()).bind (Sum.elim (λ_=>some 0) some)) λ_=>True:=λ{_}=>
   fB (λ_ _=>True) trivial (λj x _ _ hx _ _=>gb (YZ (h.2.2.2.2.2.2.2.2 x hx) B9) λ_=>cZ (λ_=>bb (bb trivial)) λ_=>bb trivial) λ_ _=>bb trivial
  have A:=h.2.2.2.2.2.1;have q:∀{f:Unit->T Int}{c1 m:Int},(∀u,AU (f u) λ_=>True)->AU ((bo (λa(y:Z)=>λ_=>((uN y).bind λl=>bif (!l)then(some (.inr (.inr c1)))else(bif decide (a>(0:Int))then((aA t.ay (IntKind.i64.wrap _)).bind λb=>bif (An y b||bg y b)then(some (.inr (.inr m)))else(some (.inl ())))else(some (.inl ()))))) (λ_=>()) 0 t.ay ()).bind (Sum.elim f some)) λ_=>True:=λ{f c1 m}r=>by
   refine fB (λ_ _=>True) trivial (λj x _ _ hx s _=>?_) λ_ _=>r _
   refine gb (GV (g x hx)) λ_=>cZ (λ_=>bb (bb trivial)) λ_=>cZ (λc=>?_) λ_=>bb trivial
   have C:0<j:=by simpa using c
   have v:IntKind.i64.wrap ((j:Int)-1)=j-1:=by rw[BW];omega
   rw[v];exact fA ⟨by omega,by omega⟩ λ_ _ _=>cZ (λ_=>bb (bb trivial)) λ_=>bb trivial
  repeat' first|exact bb trivial|exact Ji e|exact(Ud _ _).mono λ_ _=>trivial|exact q λ_=>o (i:=())|refine gb ?_ λ_=>?_|refine cZ (λ_=>?_) λ_=>?_
theorem Y0{ns}:∀{d n t},fQ ns d t->d<=n->AU (IS n t) λ_=>True
 |0,_,_,h,_=>h.elim
 |d+1,0,_,h,_=>by omega
 |d+1,n+1,t,h,y=>by
  exact fB (λ_ _=>True) trivial (λj x _ _ hx _ _=>gb (Y0 (h.2.2.2.2.2.2.2.2 x hx) B9) λ_=>bb trivial) λ_ _=>bb trivial
theorem Y1{l s B}(hs:s.size<=2)(y:l.length<=9)(z:∀x∈l,x.size<=B)(f:B<=900000000000000000):AU (uO l s) λr=>r.size<=9*(B+2):=by
 refine fB (λj a=>a.size<=j*(B+2)) (K8 _) ?_ λc b=>bb ?_
 .intro j x a _ hx d g;have hx:=z x hx;have i:(j+1)*(B+2)=j*(B+2)+(B+2):=Lq _ _;have e:j*(B+2)<=9*(B+2):=JW _ B9;refine ei (AU.mono (P:=λr=>∃q:Z,r= .inl q/\q.size<=a.size+2) (cZ (λ_=>kp B9 (bb ⟨_,rfl,by rw[HY];omega⟩)) λ_=>bb ⟨_,rfl,by omega⟩) ?_);rintro _ ⟨q,rfl,hq⟩;exact kp B9 (bb (by dsimp[Sum.elim_inl];rw[HY];omega))
 .exact KV b (JW _ y)
def SB(d:Nat):Nat:=640*11 ^ d
theorem agN d:SB (d+1)=11*SB d:=by simp[SB];omega
theorem akE d:640<=SB d:=by
 have:0<11 ^ d:=Nat.pos_of_ne_zero NP;simp[SB];omega
theorem yl{d e}(h:d<=e):SB d<=SB e:=Nat.mul_le_mul_left _ (Nat.pow_le_pow_right VQ h)
theorem sB{d}(h:d<=13):SB d<=30000000000000000:=KV (yl h) VQ
theorem Uh{ns}:∀{d n t},fQ ns d t->d<=n->d<=13->AU (GJ n t) λs=>s.size<=SB d
 |0,_,_,h,_,_=>h.elim
 |d+1,0,_,h,_,_=>by omega
 |d+1,n+1,t,h,C,hd=>by
  have i:=agN d;have l:=akE d;have m:=sB B9;have o:=N8 _ h.2.2.2.2.1;refine ei (AU.mono (P:=λr=>∃a,r= .inl a/\(a=true->0<=t.ah/\t.ah<=2)) ?_ ?_)
  .refine cZ (λc=>bb ⟨_,rfl,λ_=>?_⟩) λ_=>cZ (λc=>bb ⟨_,rfl,λ_=>?_⟩) λ_=>bb ⟨_,rfl,λc=>?_⟩<;>simp at c<;>omega
  rintro _ ⟨a,rfl,p⟩;refine cZ (λc=>?_) λ_=>cZ (λc=>?_) λ_=>cZ (λc=>?_) λ_=>bb B9
  .obtain⟨q,D⟩:=p c;refine fA ⟨q,by simp;omega⟩ λx hx _=>bb ?_
   have:∀y∈([⟨#[73,110,116]⟩,⟨#[84,101,120,116]⟩,⟨#[66,111,111,108]⟩]:U Z),y.size<=8:=by decide
   have:=this x hx;omega
  .have u:=h.2.2.1 DC;refine fA ⟨by decide,by omega⟩ λx hx _=>ct (Uh (h.2.2.2.2.2.2.2.2 x hx) B9 B9) λr f=>kp ?_ (kp ?_ (bb ?_))<;>(try simp)<;>(try simp[show(⟨#[91]⟩:Z).size=1 from rfl,show(⟨#[93]⟩:Z).size=1 from rfl])<;>omega
  .have u:=h.2.2.2.1 DC;have z:=h.2.2.2.2.2.2.2.1;have v:=h.2.2.2.2.2.1;refine fB (λj a=>a.length=j/\∀x∈a,x.size<=SB d+10) ⟨rfl,by simp⟩ ?_ ?_
   .rintro j x a _ hx w ⟨g,b⟩;have A:=N8 _ (z x hx);refine kp (by simp[show(⟨#[58,32]⟩:Z).size=2 from rfl];omega) (fA ⟨by omega,by omega⟩ λk e _=>ct (Uh (h.2.2.2.2.2.2.2.2 k e) B9 B9) λr f=>?_);have e1:(x++⟨#[58,32]⟩).size=x.size+2:=by rw[HY];rfl
    have e2:(x++⟨#[58,32]⟩++r).size=x.size+2+r.size:=by rw[HY,e1]
    exact kp B9 (eT Ar (bb ⟨by simp[g],bY b B9⟩))
   .rintro c ⟨g,b⟩;refine cZ (λ_=>bb (by show 2<=_;omega)) λ_=>ct (Y1 VQ B9 b B9) λr f=>kp ?_ (kp ?_ (bb ?_))<;>(try simp)<;>(try simp[show(⟨#[123,32]⟩:Z).size=2 from rfl,show(⟨#[32,125]⟩:Z).size=2 from rfl])<;>omega
theorem aeD{ns d t}(h:fQ ns d t)(hd:d<=12):AU (Pi t) λr=>r.1.size<=SB 12:=by
 have:=yl hd;refine gb (YZ h B9) λ_=>gb (cZ (λ_=>gb (Y0 h B9) λ_=>bb trivial) λ_=>bb trivial) λ_=>ei (AU.mono (P:=λr=>∃a,r= .inl a) (cZ (λ_=>bb ⟨_,rfl⟩) λ_=>bb ⟨_,rfl⟩) ?_)
 rintro _ ⟨a,rfl⟩;exact cZ (λ_=>bb (K8 _)) λ_=>ct (Uh h B9 B9) λr x=>bb Ah
theorem aeE{d e}(h:dY d e):AU (Bz e) λr=>r.length=e.ay.length/\∀x∈r,x.size<=30:=by
 cases d with
 |zero=>exact h.elim
 |succ d=>
  have hs:=h.1;have y:=hs.2.2.2.2.2.2.2.2.2.2.2.2.2.2.2.1;have p:(⟨#[32,60,45,32]⟩:Z).size=4:=rfl;have s:(⟨#[40]⟩:Z).size=1:=rfl;have t:(⟨#[41]⟩:Z).size=1:=rfl;have u:(⟨#[32,45,62,32]⟩:Z).size=4:=rfl;have v:(⟨#[32,61,32]⟩:Z).size=3:=rfl;refine fB (λj a=>a.length=j/\∀x∈a,x.size<=30) ⟨rfl,by simp⟩ ?_ λc f=>bb f
  rintro j x a _ hx g ⟨i,k⟩;have l:=N8 _ (hs.2.2.2.2.2.2.1 x hx);have m:=hs.2.2.2.1;refine ei (AU.mono (P:=λr=>∃q:Z,r= .inl q/\q.size<=30) ?_ ?_)
  .refine cZ (λ_=>cZ (λ_=>kp B9 (bb ⟨_,rfl,by rw[HY];omega⟩)) λ_=>bb ⟨_,rfl,by omega⟩) λ_=>cZ (λc=>?_) λ_=>kp B9 (bb ⟨_,rfl,by rw[HY];omega⟩)
   have w:=(y DC).2;refine fA ⟨by omega,by omega⟩ λb n _=>?_
   refine ei (AU.mono (P:=λr=>∃q:Z,r= .inl q/\q.size<=20) (cZ (λ_=>kp B9 (fA ⟨by omega,by omega⟩ λb2 z _=>?_)) λ_=>bb ⟨_,rfl,by omega⟩) ?_)
   .have o:=N8 _ (hs.2.2.2.2.2.2.2.1 b2 z);have e1:(x++⟨#[40]⟩).size=x.size+1:=by rw[HY];rfl
    have e2:(x++⟨#[40]⟩++b2).size=x.size+1+b2.size:=by rw[HY,e1]
    exact kp B9 (kp B9 (bb ⟨_,rfl,by rw[HY];omega⟩))
   .rintro _ ⟨q,rfl,hq⟩;exact kp B9 (bb ⟨_,rfl,by rw[HY];omega⟩)
  .rintro _ ⟨q,rfl,hq⟩;exact eT Ar (bb ⟨by simp[i],bY k hq⟩)
theorem dY.n{d e}(h:dY d e):eZ e.name/\eZ e.s:=by
 cases d with
 |zero=>exact h.elim
 |succ d=>exact⟨h.1.2.1,h.1.2.2.1⟩
section
variable {d n:Nat}(ih:∀e,dY d e->AU (z7 n e) λs=>s.size<=SB d)
include ih
theorem Y2{e}{k:Int}(h:dY (d+1) e)(hd:d<=12)(z:0<=k)(a:k<e.au.length):AU (na (n+1) e k) λs=>s.size<=SB d+2:=by
 have b:=sB (d:=d) B9;have c:(⟨#[40]⟩:Z).size=1:=rfl;have f:(⟨#[41]⟩:Z).size=1:=rfl;refine fA ⟨z,a⟩ λx hx _=>ct (ih x (h.2 x hx)) λr g=>fA ⟨z,a⟩ λy i _=>gb ((Uf y).mono λ_ _=>trivial) λ_=>gb (Ug _ _) λ_=>cZ (λ_=>?_) λ_=>bb B9
 have e1:(⟨#[40]⟩++r).size=1+r.size:=by rw[HY];rfl
 exact kp B9 (kp B9 (bb (by rw[HY];omega)))
theorem Ui{e k l}(h:dY (d+1) e)(hd:d<=12)(p:0<=k)(t:k<=1)(b:∀x∈l,x.size<=30):AU (yb (n+2) e k l) λr=>r.length<=9/\∀x∈r,x.size<=SB d+32:=by
 have u:=h.1.2.2.2.2.2.1;have f:=sB (d:=d) B9;refine lm (λm s=>k<=s.2/\m=9-s.2.toNat/\(s.2<=9)/\s.1.length=(s.2-k).toNat/\∀x∈s.1,x.size<=SB d+32) (m:=9-k.toNat) B9 ⟨by simp,by simp,by dsimp only;omega,by simp,by simp⟩ ?_;rintro m ⟨v,y⟩ ⟨g,rfl,i,j,z⟩;dsimp only at g i j z |-;refine cZ (λc=>?_) λ_=>bb (bb ⟨by omega,z⟩)
 have a:y<e.au.length:=by simpa using c
 have e1:IntKind.i64.wrap (y-k)=y-k:=by rw[BW];omega
 have e2:IntKind.i64.wrap (y+1)=y+1:=by rw[BW];omega
 refine ei (AU.mono (P:=λr=>∃q:Z,r= .inl q/\q.size<=30) (cZ (λo=>fA ⟨by omega,by simpa using o⟩ λx hx _=>bb ⟨_,rfl,b x hx⟩) λ_=>bb ⟨_,rfl,K8 _⟩) ?_);rintro _ ⟨q,rfl,hq⟩;refine ct (Y2 ih h hd B9 a) λr w=>kp B9 (eT Ar (bb ⟨9-(y+1).toNat,?_,?_,?_,?_,?_,bY z (by rw[HY];omega)⟩))<;>(try simp)<;>omega
end
theorem Az(l:U UInt8):(ByteArray.mk l.toArray).size=l.length:=rfl
theorem pQ{p:Prop}(x:p:=by repeat' first|exact bb (by first|(show _<=_;simp only[HY,Az,B0,B1];omega)|(show _<=_;omega))|refine kp JF ?_|refine ct (Y2 i1 h hd VQ B9) λr hr=>?_|refine ct (aeE h) λl hl=>?_|refine ct (Ui i0 h hd VQ VQ (by assumption)) λl hl=>?_|refine ct (Ui i0 h hd VQ VQ (And.right (by assumption))) λl hl=>?_|refine ct (Ui i0 h hd VQ VQ NP) λl hl=>?_|refine ct (Y1 (B:=SB d+32) VQ (And.left (by assumption)) (And.right (by assumption)) B9) λr hr=>?_|refine cZ (λ_=>?_) λ_=>?_):p:=x
theorem Uj:∀{d n e},dY d e->3*d<=n->d<=13->AU (z7 n e) λs=>s.size<=SB d
 |0,_,_,h,_,_=>h.elim
 |d+1,0,_,_,h,_=>absurd h B9
 |d+1,1,_,_,h,_=>absurd h B9
 |d+1,2,_,_,h,_=>absurd h B9
 |d+1,n+3,e,h,N,hd=>by
  have i0:∀e,dY d e->AU (z7 n e) λs=>s.size<=SB d:=λe a=>Uj a B9 B9
  have i1:∀e,dY d e->AU (z7 (n+1) e) λs=>s.size<=SB d:=λe a=>Uj a B9 B9
  have hd:d<=12:=by omega
  have m:=agN d;have o:=akE d;have p:=sB B9;have q:=N8 _ h.n.1;have r:=N8 _ h.n.2;obtain⟨_,_,_,_,_,P,_,_,b,Q,k7,t,f,g,i,j,k,X⟩:=h.1;refine cZ (λ_=>?_) λn0=>cZ (λ_=>?_) λn1=>cZ (λ_=>?_) λn2=>cZ (λ_=>?_) λn3=>cZ (λ_=>?_) λn4=>cZ (λc=>?_) λn5=>cZ (λc=>?_) λn6=>cZ (λc=>?_) λn7=>cZ (λc=>?_) λn8=>cZ (λc=>?_) λn9=>cZ (λc=>?_) λu=>cZ (λc=>?_) λw=>cZ (λc=>?_) λA=>cZ (λc=>?_) λC=>cZ (λc=>?_) λD=>?_
  .exact ct (UD b) λs hs=>bb B9
  .exact pQ
  .refine ct (MS ⟨by omega,by omega⟩ VQ) λv K=>fA ⟨K.1,by simp;omega⟩ λx hx _=>bb ?_
   have:∀y∈([⟨#[102,97,108,115,101]⟩,⟨#[116,114,117,101]⟩]:U Z),y.size<=8:=by decide
   have:=this x hx;omega
  .exact bb B9
  .exact pQ
  .refine cZ (λ_=>bb B9) λL=>?_
   have z:e.au.length≠0:=by simpa using L
   exact pQ
  .exact pQ
  .have z:=k7 DC;exact pQ
  .have z:=t DC;exact pQ
  .exact pQ
  .have z:=f DC;exact pQ
  .have z:=g DC;exact pQ
  .have z:=i DC;exact pQ
  .have z:=(j DC).1;exact pQ
  .have z:e.au.length=2\/e.au.length=1:=by rcases k DC with h|h;exact .inl h.1;exact .inr h.1
   refine cZ (λc1=>?_) λc1=>?_
   .have l:e.au.length=1:=by simp at c1;omega
    exact pQ
   .have l:e.au.length=2:=by simp at c1;omega
    exact pQ
  .exact pQ
theorem aeF{d e}(h:dY d e)(hd:d<=12):AU (Pu e) λr=>r.1.size<=SB 12:=by
 have:=yl hd;exact gb (T81 h B9) λ_=>cZ (λ_=>bb (K8 _)) λ_=>ct (Uj h B9 B9) λr x=>bb Ah
end
def MB:Nat:=SB 12
def qV:MB=2008594161101440:=by decide
def ym{s x e}(h:s.size+x.size<=9223372036854775807):AU (eY (aw.mk s e) x) λr=>r.size=s.size+x.size:=kp h (bb (HY ..))
def fO{s}{l:U UInt8}{e}(h:s.size+l.length<=9223372036854775807):AU (eY (aw.mk s e) ⟨l.toArray⟩) λr=>r.size=s.size+l.length:=ym h
def yo w e:AU (rh w e) λ_=>True:=by
 repeat' first|exact bb trivial|refine gb ?_ λ_=>?_|refine cZ (λ_=>?_) λ_=>?_|refine H2 (λ_=>?_) λ_=>?_
def Vi{y z γ:Type}{c:At}{o:T y}{v:y}{f:y->T γ}{g:z->T γ}{Q:γ->Prop}(h:AU o λ_=>True)(k:∀a,AU (f a) Q):AU ((bif c then(o.bind λx=>some (.inl x))else(some (.inl v)):T (y⊕z)).bind (Sum.elim f g)) Q:=ei (cZ (λ_=>ct h λa _=>bb (k a)) λ_=>bb (k v))
def uT{s x e}(hx:eZ x)(h:s.size<=9000000000000000000):AU (qo (aw.mk s e) x) λr=>r.1.size<=s.size+8:=by
 have:=N8 x hx;exact gb (GV hx) λ_=>Vi (yo _ _) λa=>ct (ym Ah) λr y=>bb (by dsimp only at y |-;omega)
def PV{ns s e d t}(y:fQ ns d t)(hd:d<=12)(h:s.size<=9000000000000000000):AU (Bx (aw.mk s e) t) λr=>r.1.size<=s.size+MB:=by
 have:=qV;exact ct (aeD y hd) λv x=>gb (yo _ _) λ_=>ct (ym (by have:v.1.size<=MB:=x;dsimp only;omega)) λr z=>bb akr
def BJ{s e d t}(y:dY d t)(hd:d<=12)(h:s.size<=9000000000000000000):AU (uP (aw.mk s e) t) λr=>r.1.size<=s.size+MB:=by
 have:=qV;exact ct (aeF y hd) λv x=>gb (yo _ _) λ_=>ct (ym (by have:v.1.size<=MB:=x;dsimp only;omega)) λr z=>bb akr
def jH{γ y:Type}{c:At}{s:Z}{e:Int}{l:U UInt8}{f:Z->T γ}{g:y->T γ}{Q:γ->Prop}(h:s.size+l.length<=9223372036854775807)(k:∀r:Z,r.size<=s.size+l.length->AU (f r) Q):
 AU ((bif c then((eY (aw.mk s e) ⟨l.toArray⟩).bind λx=>some (.inl x))else(some (.inl s)):T (Z⊕y)).bind (Sum.elim f g)) Q:=
 ei (cZ (λ_=>ct (fO h) λa z=>bb (k a B9)) λ_=>bb (k s B9))
def Y3{ns s e z}(f:z.length<=3)(hp:∀p∈z,Ub ns p)(h:s.size<=8000000000000000000):AU (IZ (aw.mk s e) z) λr=>r.1.size<=s.size+10*MB:=by
 have:=qV;refine ct (fO Ar) λr g=>?_
 simp at g;refine fB (λj a=>a.1.size<=s.size+1+j*(3*MB)) Ah ?_ ?_
 .rintro j p ⟨i,k⟩ _ b l c;have d:=hp p b;dsimp only at c |-;have m:j*(3*MB)<=2*(3*MB):=JW _ B9;have n:(j+1)*(3*MB)=j*(3*MB)+3*MB:=Lq _ _;refine ei (jH Ar λu hu=>?_);simp at hu;refine ct (uT d.name B9) λv t=>?_
  refine ei (AU.mono (P:=λr=>∃q:Z×Int,r= .inl q/\q.1.size<=v.1.size+2+MB) (cZ (λ_=>ct (fO Ar) λx hx=>ct (PV d.bH B9 (by simp at hx;omega)) λy o=>bb ⟨_,rfl,by simp at hx;dsimp only;omega⟩) λ_=>bb ⟨_,rfl,by dsimp only;omega⟩) ?_);rintro _ ⟨⟨w,A⟩,rfl,hq⟩;dsimp only at hq;refine cZ (λ_=>ct (fO Ar) λx hx=>?_) λ_=>bb (bb Fb)
  simp at hx;exact ct (BJ d.default B9 B9) λy o=>bb (bb Fb)
 .rintro⟨i,k⟩ c;dsimp only at c |-;have m:z.length*(3*MB)<=3*(3*MB):=JW _ f;refine ct (fO Ar) λx hx=>bb ?_
  simp at hx;dsimp only;omega
def aeG{s e x}(hx:PR x)(h:s.size<=8000000000000000000):AU (Pw (aw.mk s e) x) λr=>r.1.size<=s.size+3*MB:=by
 have:=qV
 refine ei (AU.mono (P:=λr=>∃q:Z×Int,r= .inl q/\q.1.size<=s.size+3*MB) ?_ ?_)
 .refine cZ (λ_=>?_) λ_=>cZ (λ_=>?_) λ_=>cZ (λ_=>?_) λ_=>gb (yo _ _) λ_=>bb ⟨_,rfl,by dsimp only;omega⟩
  .refine gb (cZ (λ_=>bb trivial) λ_=>gb (GW _) λ_=>bb trivial) λ_=>Vi (yo _ _) λa=>?_
   refine ct (fO Ar) λr b=>?_
   simp at b;refine ct (uT hx.ai B9) λi c=>ct (fO Ar) λj y=>?_
   simp at y;exact ct (BJ hx.value B9 B9) λk d=>bb ⟨_,rfl,by dsimp only;omega⟩
  .refine gb (GW _) λ_=>Vi (yo _ _) λa=>?_
   refine ct (fO Ar) λr b=>?_
   simp at b;refine ct (uT hx.ai B9) λi c=>ct (fO Ar) λj y=>?_
   simp at y;refine ct (uT hx.bind B9) λk d=>ct (fO Ar) λl z=>?_
   simp at z;exact ct (BJ hx.cond B9 B9) λm f=>bb ⟨_,rfl,by dsimp only;omega⟩
  .refine ct (fO Ar) λr b=>?_
   simp at b;refine ct (uT hx.ai B9) λi c=>ct (fO Ar) λj y=>?_
   simp at y;refine ct (uT hx.bind B9) λk d=>ct (fO Ar) λl z=>?_
   simp at z;refine ct (BJ hx.cond B9 B9) λm f=>ct (fO Ar) λo g=>?_
   simp at g;exact ct (BJ hx.value B9 B9) λp n=>bb ⟨_,rfl,by dsimp only;omega⟩
 .rintro _ ⟨⟨t,u⟩,rfl,hq⟩;exact bb hq
def aeH{s e d}(hs:Vh d.sum)(g:eZ d.name)(h:s.size<=8000000000000000000):AU (Pk (aw.mk s e) d) λr=>r.1.size<=s.size+10*MB:=by
 have:=qV;have:=N8 _ g;refine kp (by simp[Az];omega) (kp (by simp[HY,Az];omega) (ct (ym (by simp[Az];omega)) λr i=>?_));simp[Az]at i;refine fB (λj a=>a.1.size<=s.size+16+j*(3*MB)) Ah ?_ ?_
 .rintro j c ⟨k,l⟩ _ m n b;have f:=hs.2.2 c m;have t:=hs.1;have:=N8 _ f.1;dsimp only at b |-;have o:j*(3*MB)<=2*(3*MB):=JW _ B9;have p:(j+1)*(3*MB)=j*(3*MB)+3*MB:=Lq _ _;refine ei (jH Ar λu hu=>gb (Ji f.1) λ_=>Vi (yo _ _) λa=>?_);simp at hu;refine ct (ym B9) λv w=>cZ (λ_=>ct (fO Ar) λx hx=>?_) λ_=>bb (bb Fb)
  simp at hx;refine ct (PV f.2 B9 B9) λy A=>ct (fO Ar) λz q=>bb (bb ?_)
  simp at q
  show _<=_;dsimp only;omega
 .rintro⟨k,l⟩ b;dsimp only at b |-;have o:d.sum.bQ.length*(3*MB)<=3*(3*MB):=JW _ hs.1;exact bb Ah
def aeI{ns s e d}(A:Is ns d.ai)(C:eZ d.name)(h:s.size<=8000000000000000000):AU (Pv (aw.mk s e) d) λr=>r.1.size<=s.size+20*MB:=by
 have:=qV;have:=N8 _ C;obtain⟨t1,t2,t3,t4,t5,t6,D,t8⟩:=A;refine kp JF (kp JF (ct (ym JF) λr K=>?_));simp only[HY,Az,B0,B1]at K;refine fB (λj(a:Z×Int)=>a.1.size<=s.size+16+j*(2*MB)) Ah ?_ ?_
 .rintro j c ⟨L,N⟩ _ f g k;have i:=t3 c f;dsimp only at k |-;have Q:j*(2*MB)<=4*(2*MB):=JW _ B9;have X:(j+1)*(2*MB)=j*(2*MB)+2*MB:=Lq _ _;refine jH Ar λu hu=>?_
  simp at hu;refine ct (fO Ar) λv l=>?_
  simp at l;refine ct (uT i.1 B9) λx hx=>ct (fO Ar) λy b=>?_
  simp at b;exact ct (PV i.2 B9 B9) λz o=>bb OP
 .rintro⟨L,N⟩ k;dsimp only at k |-;have Q:d.ai.ae.length*(2*MB)<=5*(2*MB):=JW _ t2;refine jH Ar λu hu=>?_
  simp at hu;refine ct (fO Ar) λv l=>?_
  simp at l;refine fB (λj(a:Z×Int)=>a.1.size<=v.size+j*10) Ah ?_ ?_
  .rintro j x ⟨a6,a7⟩ _ hx g m;dsimp only at m |-;refine jH Ar λw n=>?_
   simp at n;exact ct (uT (t5 x hx) B9) λy b=>bb OP
  .rintro⟨a6,a7⟩ m;dsimp only at m |-;refine ct (fO Ar) λw n=>?_
   simp at n;refine fB (λj(a:Z×Int)=>a.1.size<=w.size+j*30) Ah ?_ ?_
   .rintro j x ⟨t,a9⟩ _ hx g f;dsimp only at f |-;have i:=D x hx;refine ct (fO Ar) λy b=>?_
    simp at b;refine ct (uT i.1 B9) λz o=>ct (fO Ar) λq hq=>?_
    simp at hq;exact ct (uT i.2 B9) λp hp=>bb OP
   .rintro⟨t,a9⟩ f;dsimp only at f |-;refine gb (YW t8 VQ) λ_=>?_
    refine ei (AU.mono (P:=λr=>∃q:Z×Int,r= .inl q/\q.1.size<=t.size+8+MB) (cZ (λ_=>ct (fO Ar) λy b=>ct (BJ t8 VQ (by simp at b;omega)) λz o=>bb ⟨_,rfl,by simp at b;dsimp only;omega⟩) λ_=>bb ⟨_,rfl,by dsimp only;omega⟩) ?_);rintro _ ⟨⟨q1,q2⟩,rfl,hq⟩;exact bb (by dsimp only at hq |-;omega)
def aeJ{ns s e ts d}(hd:uo ns ts d)(h:s.size<=7000000000000000000):AU (Px (aw.mk s e) d) λr=>r.1.size<=s.size+30*MB:=by
 have:=qV;have:=N8 _ hd.name;refine gb (aeC d) λ_=>Vi (yo _ _) λa=>gb (cZ (λ_=>gb (Ji hd.name) λ_=>bb trivial) λ_=>bb trivial) λ_=>gb (cZ (λ_=>bb trivial) λ_=>cZ (λ_=>gb (GV hd.name) λ_=>bb trivial) λ_=>bb trivial) λ_=>Vi (yo _ _) λi=>?_
 refine ei (AU.mono (P:=λr=>∃q:Z×Int,r= .inl q/\q.1.size<=s.size+29*MB) ?_ ?_)
 .dsimp only;refine cZ (λ_=>ct (aeH hd.sum hd.name B9) λr c=>bb ⟨_,rfl,by dsimp only;omega⟩) λ_=>cZ (λ_=>ct (aeI hd.ai hd.name B9) λr c=>bb ⟨_,rfl,by dsimp only;omega⟩) λ_=>cZ (λ_=>?_) λ_=>cZ (λ_=>?_) λ_=>bb ⟨_,rfl,by dsimp only;omega⟩
  .refine kp (by simp[Az,B0,B1];omega) (ct (ym (by simp[HY,Az,B0,B1];omega)) λr c=>?_);simp[HY,Az,B0,B1]at c;refine ct (Y3 hd.pl hd.params B9) λp hp=>?_
   refine ei (AU.mono (P:=λr=>∃q:Z×Int,r= .inl q/\q.1.size<=p.1.size+2+MB) (cZ (λ_=>ct (fO Ar) λy b=>ct (PV hd.bH VQ (by simp at b;omega)) λz g=>bb ⟨_,rfl,by simp at b;dsimp only;omega⟩) λ_=>bb ⟨_,rfl,by dsimp only;omega⟩) ?_);rintro _ ⟨⟨k,l⟩,rfl,hq⟩;dsimp only at hq;refine ct (fO Ar) λy b=>?_
   simp at b;exact ct (BJ hd.body VQ B9) λz g=>bb ⟨_,rfl,by dsimp only;omega⟩
  .refine kp (by simp[Az,B0,B1];omega) (ct (ym (by simp[HY,Az,B0,B1];omega)) λr c=>?_);simp[HY,Az,B0,B1]at c;refine ct (Y3 hd.pl hd.params B9) λp hp=>ct (fO Ar) λy b=>?_
   simp at b;refine fB (λj a=>a.1.size<=y.size+j*(4*MB)) Ah ?_ ?_
   .rintro j x ⟨m,n⟩ _ hx o f;dsimp only at f |-;have t:=hd.sl;have v:j*(4*MB)<=2*(4*MB):=JW _ B9;have w:(j+1)*(4*MB)=j*(4*MB)+4*MB:=Lq _ _;refine jH Ar λu hu=>?_
    simp at hu;exact ct (aeG (hd.fL x hx) B9) λz g=>bb Fb
   .rintro⟨m,n⟩ f;dsimp only at f |-;have v:d.fL.length*(4*MB)<=3*(4*MB):=JW _ hd.sl;exact bb ⟨_,rfl,by dsimp only;omega⟩
 .rintro _ ⟨⟨k,l⟩,rfl,hq⟩;dsimp only at hq;refine ct (fO Ar) λy b=>bb ?_
  simp at b;dsimp only;omega
def T45{ns ts m}(e:m.cx.length<=20)(hd:∀d∈m.cx,uo ns ts d):AU (Ma m) λ_=>True:=by
 have:=qV;refine fB (λj a=>a.1.size<=j*(30*MB)) (K8 _) ?_ λc _=>cZ (λ_=>bb trivial) λ_=>bb trivial
 rintro j d ⟨f,g⟩ _ x y z;dsimp only at z |-;have i:j*(30*MB)<=20*(30*MB):=JW _ B9;have b:(j+1)*(30*MB)=j*(30*MB)+30*MB:=Lq _ _;exact ct (aeJ (hd d x) B9) λr k=>bb Fb
def A3{x:Type}(c:Prop)(o:T x)(Q:x->Prop):Prop:=AU o Q\/(o=none/\c)
def A3.step{x y:Type}{c o}{f:x->T y}{P Q}(h:AU o P)(k:∀a,P a->A3 c (f a) Q):A3 c (o.bind f) Q:=by
 obtain⟨a,rfl,h⟩:=h;exact k a h
def agi{x y:Type}{c o}{f:x->T y}{P Q}(h:A3 c o P)(k:∀a,P a->AU (f a) Q):A3 c (o.bind f) Q:=by
 rcases h with h|⟨rfl,z⟩
 .exact .inl (ct h k)
 .exact .inr ⟨rfl,z⟩
def A3.aV{x ρ:Type}{c:Prop}{step:x->T (x⊕ρ)}(I:Nat->x->Prop){Q:ρ->Prop}:
 {n m:Nat}->{s:x}->m<n->I m s->(∀m s,I m s->A3 c (step s) (Sum.elim (λs=>∃k,k<m/\I k s) λr=>Q r))->A3 c (aV step n s) Q
 |0,_,_,h,_,_=>absurd h (Nat.not_lt_zero _)
 |n+1,m,s,h,d,z=>by
  unfold Ab.aV;rcases z m s d with⟨a,e,b⟩|⟨e,f⟩
  .rw[e];cases a with
   |inl g=>obtain⟨k,i,y⟩:=b;exact A3.aV I B9 y z
   |inr r=>exact .inl ⟨_,rfl,b⟩
  .exact .inr ⟨by rw[e];rfl,f⟩
def Qi{z:Type}{c b}{x y:T z}{Q}(h:b=true->A3 c x Q)(k:b=false->A3 c y Q):A3 c (bif b then x else y) Q:=by
 cases b
 .exact k rfl
 .exact h rfl
theorem A3.aU{x:Type}{c p}[Decidable p]{f}{Q:x->Prop}(h:p)(k:A3 c (f ()) Q):A3 c ((Ab.aU p).bind f) Q:=by
 unfold Ab.aU;rw[BX h];exact k
def agj{y z:Type}{c xs}{i:Int}{f:y->T z}{Q}(h:0<=i/\i<xs.length)(k:∀x,x∈xs->A3 c (f x) Q):A3 c ((aA xs i).bind f) Q:=by
 obtain⟨x,e,_,a⟩:=qu h.1 h.2;rw[e];exact k x a
def gX(s:az):bC:=bC.mk 0 s.name s YU [] false (oe 0) (Q3 0 0) [] 0 0 0
def iW(t:V):bC:=bC.mk 1 t.name YT t [] false (oe 0) (Q3 0 0) [] 0 0 0
def PW(ns:U Z)(f:bc):Prop:=eZ f.name/\eZ f.cf/\f.params.length<=3/\(0<=f.gK/\f.gK<=f.params.length)/\(∀p∈f.params,fQ ns 3 p)/\fQ ns 3 f.oE
def BK:Z:=⟨#[97,112,112]⟩
def tP:Z:=⟨#[98,97,115,101]⟩
def Fm:Z:=⟨#[115,99,104,101,109,97]⟩
structure AA(r:aE×List aP)(q:DP)(ana alT:List bC):Prop where
 ok:q.ok
 aT:r.1.aT=q.aT
 an:r.1.an=q.an
 fn:r.1.dt.length<=16
 dt:∀f∈r.1.dt,PW (gg q.aT) f
 GX:r.2=[⟨BK,ana⟩,⟨tP,(q.aT.drop 1).map gX++alT⟩,⟨Fm,gX ⟨iD,q.bQ⟩::q.an.map iW⟩]
 al:ana.length<=12
 bl:alT.length<=10
 app:∀d∈ana,uo (gg q.aT) q.an d/\(d.ah=2\/d.ah=3)
 bV:∀d∈alT,uo (gg q.aT) q.an d/\d.ah=2
def Q7{ns ts s}(h:Vh s):uo ns ts (gX s):=⟨by simp[gX],h.2.1,h,PT,by simp[gX],by simp[gX],eQ VQ,Ay VQ,by simp[gX],by simp[gX],by simp[gX]⟩
def ajH{ns ts t}(h:Is ns t):uo ns ts (iW t):=⟨by simp[iW],h.1,PS,h,by simp[iW],by simp[iW],eQ VQ,Ay VQ,by simp[iW],by simp[iW],by simp[iW]⟩
def WB.Jk{l x ts fs}(h:WB l x ts [])(y:fs.length<=16)(z:∀f∈fs,PW (gg x) f):WB l x ts fs:=⟨h.l,h.sn,h.tn,y,h.s,h.t,z⟩
def AA.BL{r q y bd}(h:AA r q y bd):∀m∈r.2,m.cx.length<=20/\∀d∈m.cx,uo (gg q.aT) q.an d:=by
 have a:(q.aT.drop 1).length<=1:=by cases e:q.sh<;>simp[DP.aT,e]
 have t1:q.an.length<=3:=by cases e:q.dj<;>simp[DP.an,e]
 have b:=h.bl;have c:=h.al;intro m x;rw[h.GX]at x;simp only[BV,G9,G8]at x;rcases x with rfl|rfl|rfl
 .exact⟨by dsimp only;omega,λd hd=>(h.app d hd).1⟩
 .refine⟨by simp only[G7,B7];omega,λd hd=>?_⟩;rcases Hy.1 hd with hd|hd
  .obtain⟨s,hs,rfl⟩:=Hr.1 hd;exact Q7 (Na h.ok s (LP hs)).1
  .exact(h.bV d hd).1
 .refine⟨by simp only[B0,B7];omega,λd hd=>?_⟩;rcases BV.1 hd with rfl|hd
  .exact Q7 (Na h.ok _ (by simp[DP.aT])).1
  .obtain⟨t,z,rfl⟩:=Hr.1 hd;exact ajH (Qj h.ok t z)
def uU(l:U Int):U Int:=(l.drop (0:Int).toNat).take ((IntKind.i64.wrap (((l.map (G.int .i64)).length:Int).tdiv 2)).toNat-(0:Int).toNat)
def akA{ns f m}(x:eZ m)(h:eZ f.name/\f.cf=m/\f.params.length<=3/\(0<=f.gK/\f.gK<=f.params.length)/\(∀p∈f.params,fQ ns 3 p)/\fQ ns 3 f.oE):PW ns f:=⟨h.1,h.2.1▸x,h.2.2⟩
def Nj{n l}(hl:∀x∈l,qv x)(hlen:l.length<9000000000000000000)(aqr:∀b,z8 n (uU l)=some b->∃q y bd,AA b q y bd):
 A3 (z8 n (uU l)=none) (z8 (n+1) l) λr=>∃q y bd,AA r q y bd:=by
 generalize hc0:(z8 n (uU l)=none)=c0;unfold z8;refine A3.step (T39 (b:=aE.mk _ _ _ _ _ _) hl) ?_;rintro⟨i1,ss,ts⟩ ⟨q,hq,e1,e2⟩;dsimp only at e1 e2;subst e1;subst e2;have L:=age hq hl;have t1:q.an.length<=3:=by cases e:q.dj<;>simp[DP.an,e]
 have t2:2<=q.an.length:=by cases e:q.dj<;>simp[DP.an,e]
 have s1:(q.aT.drop 1).length<=1:=by cases e:q.sh<;>simp[DP.aT,e]
 have tc:∀t∈q.an,1<=t.ae.length:=λt ht=>by
  simp only[DP.an,Hy,BV,G9,G8]at ht;rcases ht with(rfl|rfl)|ht
  .simp[DP.cy,DP.iv]
  .simp[DP.ig,DP.qU]
  .cases e:q.dj<;>rw[e]at ht<;>simp at ht;subst ht;simp[jP]
 refine A3.step (P:=λr=>r= .inl ([gX ⟨iD,q.bQ⟩],(q.aT.drop 1).map gX)) ?_ ?_
 .cases e:q.sh with
  |none=>
   refine⟨_,?_,rfl⟩;simp only[DP.aT,e];kernel_rfl
  |some b=>
   refine⟨_,?_,rfl⟩;simp only[DP.aT,e];kernel_rfl
 rintro _ rfl;refine A3.step (P:=λr=>r= .inl (gX ⟨iD,q.bQ⟩::q.an.map iW)) ?_ ?_
 .refine AU.mono (P:=λr=>∃a,r= .inl a/\a=[gX ⟨iD,q.bQ⟩]++q.an.map iW) (AU.bo (λj(a:U bC)=>a=[gX ⟨iD,q.bQ⟩]++(q.an.take j).map iW) NP ?_ ?_) ?_
  .intro j t a _ hj ha;rw[Nat.sub_zero]at hj;have N:=(LI.1 hj).1;refine eT (by subst ha;simp only[G7,B0,B1,B7,JB];omega) (bb ?_)
   show _=_
   subst ha;rw[G6,hj];simp[iW]
  .intro a ha;exact⟨_,rfl,by rw[ha,LB,Gq]⟩
  .rintro _ ⟨a,rfl,rfl⟩;rfl
 rintro _ rfl;have nb:∀x∈([⟨#[98,97,115,101]⟩,⟨#[97,112,112]⟩]:U Z),eZ x:=fM VQ;refine A3.step (yO (b:=aE.mk _ _ _ _ _ _) hl VQ) λw hw=>?_
 let sh:=(q.aT.drop 1).map gX
 have shl:sh.length<=1:=by simpa[sh]using s1
 refine A3.step (P:=λr=>∃(bd y:U bC)(i:Int)(m:Z)(Q:U bc),r= .inl (tP,sh++bd,BK,y,i,m,Q)/\bd.length<=4/\y.length<=4/\Q.length<=4/\(∀d∈bd,uo (gg q.aT) q.an d/\d.ah=2)/\(∀d∈y,uo (gg q.aT) q.an d/\d.ah=2)/\∀f∈Q,PW (gg q.aT) f) ?_ ?_
 .refine AU.aV (λk(s:Int×Int×Z×U bC×Z×U bC×Int×Z×U bc)=>0<=s.2.1/\s.2.1<=4/\k=4-s.2.1.toNat/\∃(bd y:U bC),s.2.2.1=tP/\s.2.2.2.1=sh++bd/\s.2.2.2.2.1=BK/\s.2.2.2.2.2.1=y/\bd.length<=s.2.1.toNat/\y.length<=s.2.1.toNat/\s.2.2.2.2.2.2.2.2.length<=s.2.1.toNat/\(∀d∈bd,uo (gg q.aT) q.an d/\d.ah=2)/\(∀d∈y,uo (gg q.aT) q.an d/\d.ah=2)/\∀f∈s.2.2.2.2.2.2.2.2,PW (gg q.aT) f) (m:=4) VQ ⟨by simp,by simp,by simp,[],[],rfl,by simp[sh],rfl,rfl,by simp,by simp,by simp,by simp,by simp,by simp⟩ ?_;rintro k ⟨a31,A,a33,a34,a35,X,a37,a38,a39⟩ ⟨g1,g2,rfl,bd,y,h1,h2,h3,h4,h5,h6,h7,p,u,z⟩;dsimp only at g1 g2 h1 h2 h3 h4 h5 h6 h7 p u z |-;subst h1 h2 h3 h4;refine cZ (λc=>?_) λc=>bb ⟨bd,X,a37,a38,a39,rfl,by omega,by omega,by omega,p,u,z⟩
  have N:A<4:=by simpa using c
  have wb:WB l q.aT q.an a39:=L.Jk B9 z;refine kZ wb rfl VQ λv m hm=>ct (T41 wb t2 (nb m hm)) λd hd=>hC VQ ?_
  have D:IntKind.i64.wrap (A+1)=A+1:=by rw[BW];omega
  refine ei (AU.mono (P:=λr=>∃(g o:U bC)(C:U bc),r= .inl (tP,sh++g,BK,o,C)/\g.length<=bd.length+1/\o.length<=X.length+1/\C.length<=a39.length+1/\(∀d∈g,uo (gg q.aT) q.an d/\d.ah=2)/\(∀d∈o,uo (gg q.aT) q.an d/\d.ah=2)/\∀f∈C,PW (gg q.aT) f) (cZ (λ_=>?_) λ_=>bb ⟨bd,X,a39,rfl,by omega,by omega,by omega,p,u,z⟩) ?_)
  .refine ct (UC (by simp only[G7];omega) Ah) ?_;rintro⟨⟨n1,d1⟩,⟨n2,d2⟩⟩ ⟨e1,e2,e3⟩;dsimp only at e1 e2 e3;subst e1 e2;have hf:=akA (nb m hm) hd.2;rcases e3 with⟨rfl,rfl⟩|⟨rfl,rfl⟩
   .exact eT Ar (bb ⟨bd,_,_,rfl,by omega,by simp,by simp,p,bY u hd.1,bY z hf⟩)
   .exact eT Ar (bb ⟨bd++[d.1],_,_,by simp,by simp,by omega,by simp,bY p hd.1,u,bY z hf⟩)
  .rintro _ ⟨g,o,C,rfl,k1,k2,k3,k4,k5,k6⟩;dsimp only[Sum.elim_inl];refine hC VQ ?_;refine bb ⟨4-(A+1).toNat,?_,?_,?_,?_,g,o,rfl,rfl,rfl,rfl,?_,?_,?_,k4,k5,k6⟩<;>(try simp only[D])<;>(try dsimp only)<;>omega
 rintro _ ⟨bd1,ad1,i2,m2,fs2,rfl,b1,b2,b3,b4,b5,b6⟩;dsimp only[Sum.elim_inl];refine A3.step (yO (b:=aE.mk _ _ _ _ _ _) hl VQ) λw2 hw2=>?_
 have ew1:IntKind.i64.wrap (1+w2.1)=1+w2.1:=Lu VQ B9;refine A3.step (P:=λr=>∃(bd y:U bC)(i:Int)(m:Z)(Q:U bc),r= .inl (tP,sh++bd,BK,y,i,m,Q)/\bd.length<=8/\y.length<=8/\Q.length<=8/\(∀d∈bd,uo (gg q.aT) q.an d/\d.ah=2)/\(∀d∈y,uo (gg q.aT) q.an d/\d.ah=2)/\∀f∈Q,PW (gg q.aT) f) ?_ ?_
 .refine AU.aV (λk(s:Int×Z×U bC×Z×U bC×Int×Z×U bc)=>0<=s.1/\s.1<=4/\k=s.1.toNat/\∃(bd y:U bC),s.2.1=tP/\s.2.2.1=sh++bd/\s.2.2.2.1=BK/\s.2.2.2.2.1=y/\bd.length+k<=8/\y.length+k<=8/\s.2.2.2.2.2.2.2.length+k<=8/\(∀d∈bd,uo (gg q.aT) q.an d/\d.ah=2)/\(∀d∈y,uo (gg q.aT) q.an d/\d.ah=2)/\∀f∈s.2.2.2.2.2.2.2,PW (gg q.aT) f) (m:=(1+w2.1).toNat) B9 ⟨by rw[ew1];dsimp only;omega,by rw[ew1];dsimp only;omega,by rw[ew1],bd1,ad1,rfl,rfl,rfl,rfl,by omega,by omega,by dsimp only;omega,b4,b5,b6⟩ ?_;rintro k ⟨a66,a67,a68,a69,a70,a71,a72,a73⟩ ⟨g1,g2,rfl,bd,y,h1,h2,h3,h4,h5,h6,h7,p,u,z⟩;dsimp only at g1 g2 h1 h2 h3 h4 h5 h6 h7 p u z |-;subst h1 h2 h3 h4;refine cZ (λc=>?_) λc=>bb ⟨bd,_,a71,a72,a73,rfl,by omega,by omega,by omega,p,u,z⟩
  have amm:0<a66:=by simpa using c
  have wb:WB l q.aT q.an a73:=L.Jk B9 z;refine kZ wb rfl VQ λv m hm=>fA ⟨by omega,by simp;omega⟩ λn K _=>?_
  have K:eZ n:=fM (l:=[⟨#[]⟩,⟨#[102]⟩,⟨#[103]⟩,⟨#[104]⟩,⟨#[107]⟩]) VQ _ K;refine ct (T43 wb K) λd hd=>ct (UC (by simp only[G7];omega) Ah) ?_
  rintro⟨⟨n1,d1⟩,⟨n2,d2⟩⟩ ⟨e1,e2,e3⟩;dsimp only at e1 e2 e3 |-;subst e1 e2;have hf:PW (gg q.aT) d.2.1:=akA (nb m hm) ⟨hd.2.1▸K,hd.2.2⟩;have D:IntKind.i64.wrap (a66-1)=a66-1:=by rw[BW];omega
  refine eT Ar ?_;rcases e3 with⟨rfl,rfl⟩|⟨rfl,rfl⟩
  .refine bb ⟨(a66-1).toNat,?_,?_,?_,?_,bd,_,rfl,rfl,rfl,rfl,?_,?_,?_,p,bY u hd.1,bY z hf⟩<;>(try simp only[D,G7,B0,B1])<;>(try dsimp only)<;>omega
  .refine bb ⟨(a66-1).toNat,?_,?_,?_,?_,bd++[d.1],_,rfl,?_,rfl,rfl,?_,?_,?_,bY p hd.1,u,bY z hf⟩<;>(try simp only[D,G7,B0,B1,MI])<;>(try dsimp only)<;>omega
 rintro _ ⟨bd2,ad2,i3,m3,fs3,rfl,c1,c2,c3,c4,c5,c6⟩;dsimp only[Sum.elim_inl];refine A3.step (yO (b:=aE.mk _ _ _ _ _ _) hl VQ) λw3 hw3=>?_
 refine A3.step (P:=λr=>∃(y:U bC)(i:Int),r= .inl (y,i)/\y.length<=10/\∀d∈y,uo (gg q.aT) q.an d/\(d.ah=2\/d.ah=3)) ?_ ?_
 .refine AU.aV (λk(s:Int×U bC×Int)=>0<=s.1/\s.1<=2/\k=s.1.toNat/\s.2.1.length+k<=10/\∀d∈s.2.1,uo (gg q.aT) q.an d/\(d.ah=2\/d.ah=3)) (m:=w3.1.toNat) B9 ⟨hw3.1,by dsimp only;omega,rfl,by dsimp only;omega,λd hd=>⟨(c5 d hd).1,.inl (c5 d hd).2⟩⟩ ?_;rintro k ⟨a91,a92,a93⟩ ⟨g1,g2,rfl,g3,g4⟩;dsimp only at g1 g2 g3 g4 |-;refine cZ (λc=>?_) λc=>bb ⟨_,_,rfl,by omega,g4⟩
  have amm:0<a91:=by simpa using c
  refine fA ⟨by omega,by simp;omega⟩ λn K _=>?_
  have K:eZ n:=fM (l:=[⟨#[]⟩,⟨#[112,117,116]⟩,⟨#[102,105,120]⟩]) VQ _ K;have D:IntKind.i64.wrap (a91-1)=a91-1:=by rw[BW];omega
  refine ct (T44 (L.Jk B9 c6) B9 tc K) λd hd=>eT Ar (bb ⟨(a91-1).toNat,?_,?_,?_,?_,?_,bY g4 ⟨hd.1,.inr hd.2⟩⟩)<;>(try simp only[D,G7,B0,B1])<;>(try dsimp only)<;>omega
 rintro _ ⟨ad3,i4,rfl,d1,d2⟩;dsimp only[Sum.elim_inl];have done:AA (aE.mk l i4 ⟨#[97,112,112]⟩ q.aT q.an fs3,[⟨BK,ad3⟩,⟨tP,(q.aT.drop 1).map gX++bd2⟩,⟨Fm,gX ⟨iD,q.bQ⟩::q.an.map iW⟩]) q ad3 bd2:=
  ⟨hq,rfl,rfl,by dsimp only;omega,c6,rfl,by omega,by omega,d2,c4⟩
 refine agi (P:=λr=>r= .inl ()\/∃b q y bd,r= .inr b/\AA b q y bd) (A3.aV (λk(i:Int)=>0<=i/\i<=3/\k=3-i.toNat) (m:=3) VQ ⟨by decide,by decide,rfl⟩ ?_) ?_
 .rintro k i ⟨g1,g2,rfl⟩;refine Qi (λc=>?_) λc=>.inl (bb (.inl rfl))
  have N:i<3:=by simpa using c
  have D:IntKind.i64.wrap (i+1)=i+1:=by rw[BW];omega
  refine agj ⟨g1,by simpa using N⟩ λm hm=>A3.step (T45 (done.BL m hm).1 (done.BL m hm).2) λv _=>Qi (λ_=>A3.aU VQ (A3.aU ?_ ?_)) λ_=>.inl (bb ⟨_,?_,?_,?_,rfl⟩)
  .have:((l.map (G.int .i64)).length:Int)=l.length:=by simp
   rw[this];have h0:(0:Int)<=l.length:=by omega
   have h1:(l.length:Int).tdiv 2=l.length / 2:=Int.tdiv_eq_ediv_of_nonneg h0;rw[h1,BW];omega
  .change A3 c0 ((z8 n (uU l)).bind _) _;cases e:z8 n (uU l)with
   |none=>exact .inr ⟨rfl,hc0▸e⟩
   |some b=>
    obtain⟨q',y,bd,hb⟩:=aqr b e;exact .inl (bb (.inr ⟨b,q',y,bd,rfl,hb⟩))
  all_goals(try simp only[D])<;>omega
 .rintro _ (rfl|⟨b,q',y,bd,rfl,hb⟩)
  .exact bb ⟨q,ad3,bd2,done⟩
  .exact bb ⟨q',y,bd,hb⟩
abbrev Ws(r:aE×U aP):Prop:=∃q x bd,AA r q x bd
def tQ:uU []=[]:=rfl
def ajt l(h:l.length<9000000000000000000):uU l=l.take (l.length / 2):=by
 have e:((l.map (G.int .i64)).length:Int)=l.length:=by simp
 have x:(l.length:Int).tdiv 2=l.length / 2:=Int.tdiv_eq_ediv_of_nonneg B9;unfold uU;have e2:(IntKind.i64.wrap ((l.length:Int) / 2)).toNat-(0:Int).toNat=l.length / 2:=by rw[BW];omega
 rw[e,x,e2];rfl
def axI:(z8 1 []).isSome=true:=by decide+kernel
def aip l:z8 0 l=none:=rfl
def tR n:∀b,z8 n []=some b->Ws b:=by
 induction n with
 |zero=>intro b h;rw[aip]at h;cases h
 |succ n x=>
  intro b h;rcases Nj (n:=n) (l:=[]) NP NP (by rw[tQ];exact x)with⟨a,e,y⟩|⟨e,_⟩
  .rw[e]at h;rw[<-GZ h];exact y
  .rw[e]at h;cases h
def ah8 n:z8 (n+1) []≠none:=by
 induction n with
 |zero=>intro h;have:=axI;rw[LB]at h;rw[h]at this;cases this
 |succ n x=>
  intro h;rcases Nj (n:=n+1) (l:=[]) NP NP (by rw[tQ];exact tR (n+1))with⟨a,e,y⟩|⟨_,e⟩
  .rw[e]at h;cases h
  .rw[tQ]at e;exact x e
def UE:∀k l n,l.length<2 ^ k->k<n->k<=62->(∀x∈l,qv x)->AU (z8 n l) Ws
 |0,l,0,_,h,_,_=>absurd h B9
 |0,l,n+1,h,_,_,_=>by
  have:l=[]:=KE Do;subst this;cases e:z8 (n+1) []with
  |none=>exact absurd e (ah8 n)
  |some b=>exact⟨b,rfl,tR _ b e⟩
 |k+1,l,0,_,h,_,_=>absurd h B9
 |k+1,l,n+1,h,j,z,c=>by
  have hp:2 ^(k+1)<=2 ^ 62:=Nat.pow_le_pow_right VQ z;have y:l.length<9000000000000000000:=by
   have:(2:Nat) ^ 62=4611686018427387904:=by decide
   omega
  have g:(uU l).length<2 ^ k:=by
   rw[ajt l y,JB];rw[Nat.pow_succ]at h;omega
  have d:=UE k (uU l) n g B9 B9 (λx hx=>c x (by rw[ajt l y]at hx;exact LA hx));rcases Nj (n:=n) (l:=l) c y (λb f=>by obtain⟨a,e,i⟩:=d;rw[e]at f;cases f;exact i)with h|⟨_,e⟩
  .exact h
  .obtain⟨a,e2,_⟩:=d;rw[e2]at e;cases e
def W20{l}(h:l.length<2 ^ 62)(y:∀x∈l,qv x):AU (z8 1000000 l) Ws:=UE 62 l 1000000 h VQ VQ y
def T12:OD=some true:=by decide+kernel
def Y7 l:AU (GC l l) λr=>r=true:=by
 refine cZ (λh=>by simp at h) λ_=>?_
 refine fB (λ_ _=>True) trivial (λj x s hx _ z _=>?_) λ_ _=>bb rfl
 refine fA ⟨by omega,by omega⟩ λy a e=>?_
 have:y=x:=by rw[show((j:Int).toNat)=j by omega,hx]at e;simpa using e.symm
 subst this;exact cZ (λh=>by simp at h) λ_=>bb trivial
def dE:Nat->J->Prop
 |0,_=>False
 |d+1,e=>∀k∈e.au,dE d k
def O0:∀{d n e},dE d e->d<=n->AU (Vg n e e) λr=>r=true
 |0,_,_,h,_=>h.elim
 |d+1,0,_,_,h=>absurd h B9
 |d+1,n+1,e,h,k=>by
  refine ct (Y7 _) λl b=>ct (Y7 _) λm f=>?_
  subst b f;have tt:∀{c:At},c=false->AU _ λr=>r=false:=λh=>bb h
  refine ct (bb rfl) λa z=>?_
  subst z;refine ct (tt NP) λa z=>?_
  subst z;refine ct (tt NP) λa z=>?_
  subst z;refine ct (tt NP) λa z=>?_
  subst z;refine ct (tt NP) λa z=>?_
  subst z;refine ct (tt NP) λa z=>?_
  subst z;refine ct (tt NP) λa z=>?_
  subst z;refine ct (tt NP) λa z=>?_
  subst z
  refine fB (λ_ _=>True) trivial (λj x s hx g o _=>?_) λ_ _=>bb rfl
  refine fA ⟨by omega,by omega⟩ λy p e2=>?_
  have:y=x:=by rw[show((j:Int).toNat)=j by omega,hx]at e2;simpa using e2.symm
  subst this;refine ct (O0 (h y g) B9) λv i=>?_
  subst i;exact cZ (λh=>by simp at h) λ_=>bb trivial
def wB:Nat->J->Prop
 |0,_=>False
 |d+1,e=>(e.ah=10->e.au.length=e.ay.length+1)/\(e.ah=13->e.au.length<=e.binds.length+1)/\e.ay.length<=8/\e.binds.length<=8/\e.au.length<=9/\∀k∈e.au,wB d k
theorem wB.mono:∀{d e},wB d e->wB (d+1) e
 |0,_,h=>h.elim
 |d+1,e,⟨a,b,c,f,g,k⟩=>⟨a,b,c,f,g,λx hx=>(k x hx).mono⟩
def wB.le{d e t}(h:wB d t)(l:d<=e):wB e t:=by
 induction l with
 |refl=>exact h
 |step _ x=>exact x.mono
def T13{l}(h:l.length<2 ^ 62)(z:∀x∈l,qv x):AU (Mk l) λr=>∃b q y bd,AA (b,r) q y bd:=ct (W20 h z) λv⟨q,y,bd,a⟩=>bb ⟨v.1,q,y,bd,a⟩
def Y8 x:qv (IntKind.i64.wrap x):=by unfold qv;rw[BW];omega
def T75{s x n}(h:s.an.length<=3)(e:qv n):AU (F8 s x n) λr=>r.length<=6/\∀y∈r,y∈ [⟨#[120]⟩,x.name,⟨#[114,111,119]⟩]++s.an.map (·.name):=by
 unfold F8;refine fB (λj(a:U Z)=>a=[⟨#[120]⟩,x.name,⟨#[114,111,119]⟩]++(s.an.take j).map (·.name)) rfl (λj t a f _ g z=>?_) λc d=>?_
 .refine eT (by rw[z];simp;omega) (bb ?_)
  show _=_
  rw[z,G6,f];simp
 .rw[Gq]at d;have o:c.length<=6:=by rw[d];simp;omega
  rw[<-d];refine ct (MS e VQ) λv u=>?_
  refine fB (λj(a:Int×U Z)=>a.2.length<=j/\∀y∈a.2,y∈c) NP (λj t a _ i g z=>?_) λk b=>bb ?_
  .obtain⟨l,m⟩:=a;dsimp only at z |-;refine hC VQ ?_;refine ei (AU.mono (P:=λr=>∃q:U Z,r= .inl q/\q.length<=j+1/\∀y∈q,y∈c) (cZ (λ_=>eT Ar (bb ⟨_,rfl,by simp;omega,λy hy=>?_⟩)) λ_=>bb ⟨_,rfl,by omega,z.2⟩) ?_)
   .rcases Hy.1 hy with hy|hy
    .exact z.2 y hy
    .have:y=t:=by simpa using hy
     subst this;exact i
   rintro _ ⟨q,rfl,hq⟩;simp only[G5];refine hC (p:=(4:Int)≠0) VQ (bb ?_);exact hq
  .obtain⟨l,m⟩:=k;dsimp only at b |-;exact⟨by omega,b.2⟩
end Go.Ab

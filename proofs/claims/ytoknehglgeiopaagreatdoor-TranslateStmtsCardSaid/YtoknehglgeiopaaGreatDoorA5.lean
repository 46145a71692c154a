/- The logic of the walk. -/
import Derived.Lib.BitFns
import Derived.Lib.Bytealg
import Derived.Lib.Slices
import Derived.Lib.Small
import Derived.Lib.Strings
import Derived.Lib.Walk
import Derived.Test.YtoknehglgeiopaaGreatDoorProg
import Derived.Test.YtoknehglgeiopaaGreatDoorA4
set_option linter.all false
open Go Go.RowKit
namespace Go.Ab
section
variable {P:Program}{ge:GE}{N b:Nat}{tm:Tm}{l:HL}{ti:Nat->T TE}
def F2(N:Nat):Nm->Prop:=λj=>j.1<1\/(j.1=1/\j.2<N)
def ry(P:Program)(ge:GE)(F:Nm->Prop)(f:FuncId)(args:U G)(hp:Hp)(D:G->Hp->Prop):Prop:=
 ∀g fr w vs,oC fr F->gh g w hp fr->oO g ge->VL g args vs.toList->
  Calls P f vs w λe w'=>∃v g' x y,e= .returned v/\AV.Le g g'/\gh g' w' y fr/\ac g' x v/\D x y
def dW.aaO{y z}(b:wa y z){d F}(hd:∀j,F (y j)->j.1<d){f args hp D}(C:dW P ge d f args hp D):
 ry P ge F f (hO y args) (hp.bm y z) (λx m=>∃c e,x=c.bm y/\m=e.bm y z/\D c e):=λg fr w vs n r k v=>by
 refine(C _ (fr.bm z y) w vs (λj i=>?_) ⟨?_,λj=>?_⟩ ?_ ((VL.bm g y _ _).2 v)).mono λen w'⟨u,g',x,a,e1,o,l,p,q⟩=>?_
 .simp only[Hp.bm,Option.isSome_map]at i;exact hd j (n _ i)
 .rw[dy.bm b,vv,vh b];exact r.rel
 .have:=r.cM (y j)
  grind [Hp.bm,b.ts,Option.map_eq_none_iff]
 .exact oO.sH (S:=λ_=>False) (g:=g) ⟨rfl,rfl,λ_=>K4,λ_ h=>h.elim,λ_ h=>h.elim,λ_ h=>h.elim⟩ k
 .refine⟨u,g'.bm z,x.bm y,a.bm y z,e1,o.bm b,⟨?_,λj=>?_⟩,?_,x,a,rfl,rfl,q⟩
  .have:=l.rel;rw[<-Ak b.ts g',dy.bm b,vv,vh b]at this;exact this
  .have:=l.cM (z j)
   grind [Hp.bm,b.st,Option.map_eq_none_iff]
  .rw[<-ac.bm,Ak b.ts];exact p
def ry.y0{F f args hp hq D}(h:ry P ge F f args hp D)(i:∀j,(hq j).isSome=true->F j)(hd:gp hp hq):
 ry P ge F f args (bG hp hq) (λx h'=>∃z,h'=bG z hq/\gp z hq/\D x z):=λg fr w vs l r k v=>by
 have a:gp hp _:=λj=>by
  rcases hd j with e|e
  .exact .inl e
  .cases e2:hp j with
   |none=>exact .inl rfl
   |some o=>exact .inr (cm e (r.cM.none (aK e2)))
 refine(h g (bG hq fr) w vs (λj d=>?_) ⟨by rw[<-lV];exact r.rel,a⟩ k v).mono λe w'⟨u,g',x,y,e1,k1,c,m,k4⟩=>?_
 .cases e:hq j with
  |some o=>exact i j CD
  |none=>rw[bM e]at d;exact l j d
 .refine⟨u,g',x,bG y hq,e1,k1,⟨by rw[lV];exact c.rel,λj=>?_⟩,m,y,rfl,λj=>?_,k4⟩
  .cases e:fr j with
   |none=>exact .inr rfl
   |some o=>
    left;refine cm ?_ ?_
    .rcases c.cM j with h'|h'
     .exact h'
     .cases e2:hq j with
      |some p=>rw[aK e2]at h';simp at h'
      |none=>rw[bM e2,e]at h';simp at h'
    .rcases r.cM j with h'|h'
     .cases e2:hq j with
      |none=>rfl
      |some p=>
       cases e3:hp j with
       |none=>rw[bM e3,e2]at h';simp at h'
       |some q=>rw[aK e3]at h';simp at h'
     .rw[e]at h';simp at h'
  .rcases c.cM j with h'|h'
   .exact .inl h'
   .cases e2:hq j with
    |none=>exact .inr rfl
    |some p=>rw[aK e2]at h';simp at h'
def F1(N:Nat):Nm->Nm
 |(0,i)=>if i<N then(1,i)else(0,i-N)
 |(1,i)=>(1,i+N)
 |(m+2,k)=>(m+2,k)
def Kg(N:Nat):Nm->Nm
 |(0,i)=>(0,i+N)
 |(1,i)=>if i<N then(0,i)else(1,i-N)
 |(m+2,k)=>(m+2,k)
def aaP(N:Nat):wa (F1 N) (Kg N)where
 st:=by
  rintro⟨a,i⟩
  match a with
  |0=>simp only[Kg,F1];rw[BY B9];congr 1;omega
  |1=>
   simp[Kg];split
   .rename_i h;simp only[F1];rw[BX h]
   .simp only[F1];congr 1;omega
  |m+2=>simp[Kg,F1]
 ts:=by
  rintro⟨a,i⟩
  match a with
  |0=>
   simp[F1];split
   .rename_i h;simp only[Kg];rw[BX h]
   .simp only[Kg];congr 1;omega
  |1=>simp only[Kg,F1];rw[BY B9];congr 1;omega
  |m+2=>simp[Kg,F1]
def awj N:∀j,F2 N (F1 N j)↔j.1<1:=by
 rintro⟨a,i⟩
 match a with
 |0=>
  simp[F1];split
  .rename_i h;simp[F2,h]
  .simp[F2]
 |1=>simp[F1,F2]
 |m+2=>simp[F1,F2]
def anb N:(ν:U Nm)->ν.Nodup->(∀j∈ν,F2 N j)->∃y g,wa y g/\(∀j,F2 N (y j)↔j.1<1)/\(∀i j,ν[i]?=some j->y (0,i)=j)/\∀i,y (1,i)=(1,i+N):=by
 suffices h:∀n(ν:U Nm),ν.length=n->ν.Nodup->(∀j∈ν,F2 N j)->∃y g,wa y g/\(∀j,F2 N (y j)↔j.1<1)/\(∀i j,ν[i]?=some j->y (0,i)=j)/\∀i,y (1,i)=(1,i+N)from λν=>h ν.length ν rfl
 intro n
 induction n with
 |zero=>
  intro ν m _ _;have:ν=[]:=by simpa using m
  subst this;exact⟨F1 N,Kg N,aaP N,awj N,by simp,λi=>rfl⟩
 |succ n r=>
  intro l0 a s hd;obtain⟨l,x,rfl⟩:∃l x,l0=l++[x]:=by
   have c:l0≠ []:=by intro e;subst e;simp at a
   exact⟨l0.dropLast,l0.getLast c,(List.dropLast_concat_getLast c).symm⟩
  have d:=Lc.1 s;obtain⟨y,g,b,o,hs,t⟩:=r l (by simpa using a) d.1 (λj u=>hd j (by simp[u]));have hx:=hd x NP;have m:=(o (0,l.length)).2 NP;refine⟨_,_,b.swap (y (0,l.length)) x,λj=>?_,λi ν z=>?_,λi=>?_⟩
  .simp only[Ab.swap];split
   .rename_i e;have:=b.ts j;rw[e,b.ts]at this;subst this;simp[hx]
   .split
    .rename_i e;have:F2 N (y j):=by rw[e];exact hx
     exact⟨λ_=>(o j).1 this,λ_=>m⟩
    .exact o j
  .rw[List.getElem?_append]at z;split at z
   .rename_i v;have e:=hs i ν z;rw[e];refine ma ?_ ?_
    .intro e2;rw[<-e]at e2;have:((0,i))=(0,l.length):=by rw[<-b.ts (0,i),e2,b.ts]
     simp at this;omega
    .intro e2;subst e2;exact d.2.2 ν (K3 z) ν NP rfl
   .rename_i w;have p:i=l.length/\x=ν:=by
     cases q:i-l.length with
     |zero=>rw[q]at z;simp at z;exact⟨by omega,z⟩
     |succ k=>rw[q]at z;simp at z
    obtain⟨rfl,rfl⟩:=p;exact u7 _ _
  .rw[t i];have f:¬F2 N (1,i+N):=by simp[F2]
   exact ma (λe=>f (e▸m)) (λe=>f (e▸hx))
structure oB(ν:List Nm)(N:Nat)(X:Nm->Nm):Prop where
 gj:∀i j,ν[i]?=some j->X (0,i)=j
 new:∀i,X (1,i)=(1,i+N)
class R2(ν:List Nm)(N:Nat)(x:G)(y:outParam G):Prop where
 out:∀X,oB ν N X->x.bm X=y
class Ao(ν:List Nm)(N:Nat)(x:List G)(y:outParam (List G)):Prop where
 out:∀X,oB ν N X->hO X x=y
class VK(ν:List Nm)(N:Nat)(x:bB)(y:outParam bB):Prop where
 out:∀X,oB ν N X->x.bm X=y
class RL(ν:List Nm)(N:Nat)(x:HL)(y:outParam HL):Prop where
 out:∀X,oB ν N X->x.map (λp=>(X p.1,p.2.bm X))=y
class RM(ν:List Nm)(N:Nat)(x:Nm)(y:outParam Nm):Prop where
 out:∀X,oB ν N X->X x=y
variable {ν:U Nm}
instance (i:Nat)j[h:zq ν i j]:RM ν N (0,i) j:=⟨λ_ hs=>hs.gj i j h.out⟩
instance (i:Nat):RM ν N (1,i) (1,i+N):=⟨λ_ hs=>hs.new i⟩
instance (x:G)[h:UN [] x]:R2 ν N x x:=⟨λ_ _=>zL (dA h.out)⟩
instance (k j:Nm)n[h:RM ν N k j]:R2 ν N (.eU k n) (.eU j n):=⟨λx hs=>by simp only[G.bm];rw[h.out x hs]⟩
instance (k j:Nm)n a[h:RM ν N k j]:R2 ν N (.ms k a n) (.ms j a n):=⟨λx hs=>by simp only[G.bm];rw[h.out x hs]⟩
instance (k j:Nm)[h:RM ν N k j]:R2 ν N (.map k) (.map j):=⟨λx hs=>by simp only[G.bm];rw[h.out x hs]⟩
instance (f:Fn)a c x y[h:Ao ν N a x][k:Ao ν N c y]:R2 ν N (.fn f a c) (.fn f x y):=⟨λz hs=>by simp only[G.bm];rw[h.out z hs,k.out z hs]⟩
instance (a x:U G)[h:Ao ν N a x]:R2 ν N (.agg a) (.agg x):=⟨λy hs=>by simp only[G.bm];rw[h.out y hs]⟩
instance (a x:U G)[h:Ao ν N a x]:R2 ν N (.bZ a) (.bZ x):=⟨λy hs=>by simp only[G.bm];rw[h.out y hs]⟩
instance (a x:U G)n[h:Ao ν N a x]:R2 ν N (.aS a n) (.aS x n):=⟨λy hs=>by simp only[G.bm];rw[h.out y hs]⟩
instance (a:Nat)k j xs ys[m:RM ν N k j][h:Ao ν N xs ys]:R2 ν N (.sl a (.tail k) xs) (.sl a (.tail j) ys):=⟨λx hs=>by simp only[G.bm,jV.bm];rw[h.out x hs,m.out x hs]⟩
instance (xs:U G)[h:eL [] xs]:Ao ν N xs xs:=⟨λ_ _=>zW (ln (λj x=>by simp at x) _ h.out)⟩
instance:Ao ν N [] []:=⟨λ_ _=>rfl⟩
instance (x y:G)xs ys[h:R2 ν N x y][k:Ao ν N xs ys]:Ao ν N (x::xs) (y::ys):=⟨λz hs=>by simp only[hO];rw[h.out z hs,k.out z hs]⟩
instance (a x:U G)[h:Ao ν N a x]:VK ν N (.cells a) (.cells x):=⟨λy hs=>by simp only[bB.bm];rw[h.out y hs]⟩
instance (a n:Nat):VK ν N (.tail a n) (.tail a n):=⟨λ_ _=>rfl⟩
instance (m:Nat)a x[h:Ao ν N a x]:VK ν N (.bD m a) (.bD m x):=⟨λy hs=>by simp only[bB.bm];rw[h.out y hs]⟩
instance:RL ν N [] []:=⟨λ_ _=>rfl⟩
instance (k j:Nm)o o' l l'[m:RM ν N k j][h:VK ν N o o'][r:RL ν N l l']:RL ν N ((k,o)::l) ((j,o')::l'):=⟨λx hs=>by simp only[Hx];rw[h.out x hs,m.out x hs,r.out x hs]⟩
def Ki(k:Nat):HL->At
 | []=>true
 |p::l=>wh p.1 (1,k)&&Ki (k+1) l
def tj:∀l k,Ki k l=true->l.map (·.1)=(List.range' k l.length).map λi=>((1,i):Nm)
 | [],k,_=>rfl
 |p::l,k,h=>by
  simp[Ki]at h;simp only[Hx,B0,List.range'_succ];rw[jB.1 h.1,tj l _ h.2]
def QC:(l:HL)->(b:Nat)->∀p∈l,p.1.2<nx b l
 | [],b,p,h=>by simp at h
 |(i,o)::l,b,p,h=>by
  rcases BV.1 h with rfl|h
  .refine Nat.lt_of_lt_of_le ?_ (lB l _);cases x:Nat.ble b i.2 with
   |true=>simp
   |false=>
    have:¬b<=i.2:=λe=>by rw[Nat.ble_eq_true_of_le e]at x;simp at x
    simp;omega
  .exact QC l _ p h
def ahY(P:Program)(ge:GE)(f:FuncId)(N:Nat)(z:U G)(a:G)(c x d e:HL):Prop:=
 ∀{b:Nat}{l:HL}{K:KX}{y:U G},bF y z->(l.all λp=>Nat.ble p.1.1 1)=true->nx b l=N->qO l c->hU l x->
  (th d l λl'=>lD e l' λg=>K a g (x.map (·.1)))->bW P f=true/\ox P ge b f y (aN l) (CH b l K)
def bE{f args aiU D rw rv L z a y rn' x1 x1'}ν N(C:dB P ge f args D rw x1 (rv++L))[ra:Ao ν N args aiU][rr:R2 ν N x1 x1'][r1:RL ν N D z][r2:RL ν N rw a][r3:RL ν N rv y][r4:RL ν N L rn']
 (hn:(m0 ν&&zr 0 (D++rw)&&Nat.beq ν.length (D++rw).length&&(rw.map (·.1)==rv.map (·.1))&&Ki 0 L)=true):ahY P ge f N aiU x1' z a y rn':=by
 intro b l K aiS s h5 hN t Q k;refine⟨C.1,?_⟩;simp only[BR,HV]at hn;obtain⟨⟨⟨⟨h1,h2⟩,h3⟩,h6⟩,h7⟩:=hn;have h3:=FU h3;have X:∀j,(aN l j).isSome=true->F2 N j:=λj c=>by
  obtain⟨p,hp,rfl⟩:=Hr.1 (db.1 c);have:=J1 (H0.1 h5 p hp);have h2:=QC l b p hp;simp[F2];omega
 have amj:∀j,(aN _ j).isSome=true->(aN l j).isSome=true:=λj c=>by
  rw[dD]at c;cases e:aN z j with
  |some o=>simp[t.iK j o e]
  |none=>
   rw[bM e]at c;obtain⟨o,ho⟩:=NX.1 c;obtain⟨p,hp,_⟩:=Q.iK j o ho;simp[hp]
 have nm:=oz _ _ h2;have hν:(z++a).map (·.1)=ν:=by
  let σ':Nm->Nm:=λj=>match j with
   |(0,i)=>ν.getD i (0,0)
   |(1,i)=>(1,i+N)
   |j=>j
  have hs':oB ν N σ':=⟨λi j h=>by simp[σ',h],λi=>rfl⟩;rw[<-r1.out σ' hs',<-r2.out σ' hs',<-HO,JD];have e:(D++rw).map ((λx=>x.1)∘λp=>(σ' p.1,p.2.bm σ'))=((D++rw).map (·.1)).map σ':=by rw[JD];rfl
  rw[e,nm,<-h3];apply Lf;intro k;by_cases hk:k<ν.length
  .simp[hk,σ',LG]
  .simp[hk]
 have apY:=λj c=>X j (amj j (db.2 (by rw[hν];exact c)))
 obtain⟨σ,τ,B,hd,hs0,hs1⟩:=anb N ν (kQ h1) apY;have d:oB ν N σ:=⟨hs0,hs1⟩;have e1:=r1.out σ d;have e2:=r2.out σ d;have e3:=r3.out σ d;have e4:=r4.out σ d;have A:y.map (·.1)=a.map (·.1):=by
  rw[<-e2,<-e3,JD,JD];have q:∀r:HL,r.map ((λx=>x.1)∘λp=>(σ p.1,p.2.bm σ))=(r.map (·.1)).map σ:=λr=>by rw[JD];rfl
  rw[q,q,h6]
 have nmn:rn'.map (·.1)=(List.range' 0 L.length).map λi=>((1,i+N)):=by
  rw[<-e4,JD];have q:L.map ((λx=>x.1)∘λp=>(σ p.1,p.2.bm σ))=(L.map (·.1)).map σ:=by rw[JD];rfl
  rw[q,tj _ _ h7,JD];exact Ou λi _=>hs1 i
 have nd:((z++a).map (·.1)).Nodup:=by rw[hν];exact kQ h1
 have ndv:(y.map (·.1)).Nodup:=by
  rw[A];rw[HO]at nd;exact(Lc.1 nd).2.1
 have y5:∀j,(aN z j).isSome=true->aN y j=none:=λj c=>by
  cases e:aN y j with
  |none=>rfl
  |some o=>
   have m2:=db.1 (show(aN y j).isSome=true by simp[e]);rw[A]at m2;have m1:=db.1 c;rw[HO]at nd;exact absurd rfl ((Lc.1 nd).2.2 j m1 j m2)
 have akX:=wl ndv;have hsv:∀j,(aN y j).isSome=(aN a j).isSome:=λj=>by
  rw[M8,db,db,A]
 have akc:∀j,(aN rn' j).isSome=true->¬F2 N j/\j.1=1/\b<=j.2:=λj c=>by
  have:=db.1 c;rw[nmn]at this;obtain⟨i,_,rfl⟩:=Hr.1 this;have:=lB l b;exact⟨by simp[F2],rfl,by simp only;omega⟩
 have hnl:∀j,(aN rn' j).isSome=true->aN l j=none:=λj c=>by
  cases e:aN l j with
  |none=>rfl
  |some o=>exact absurd (X j CD) (akc j c).1
 have C2:=C.2.aaO B (λj h=>(hd j).1 h);rw[ra.out σ d,mc B,HO,e1,e2]at C2
 let hq:Hp:=λj=>if(aN (z++a) j).isSome=true then none else aN l j
 have C3:=C2.y0 (hq:=hq) (λj c=>by
  simp[hq]at c;split at c
  .simp at c
  .exact X j c) (λj=>by
  simp[hq];cases e:aN _ j with
  |none=>exact .inl rfl
  |some o=>right;simp)
 intro g fr w vs fi r kk v;have ez:HSub _ (bG (aN _) hq):=λj=>by
  simp[bG,hq];cases e:aN (z++a) j with
  |none=>simp;exact HSub.refl _ j
  |some o=>
   rw[dD]at e;cases e4:aN z j with
   |some q=>
    rw[aK e4]at e;simp at e;subst e;simp[t.iK j q e4];exact .refl _
   |none=>
    rw[bM e4]at e;obtain⟨p,hp,hso⟩:=Q.iK j o e;simp[hp];exact hso
 have hdj:gp (bG _ hq) fr:=λj=>by
  rcases r.cM j with e|e
  .left;have:=ez.isSome j;cases e2:bG _ hq j with
   |none=>rfl
   |some o=>rw[e,e2]at this;simp at this
  .exact .inr e
 have k:=eG _ (oy _ k);refine(C3 g fr w vs (λj c=>?_) ⟨r.rel.ez ez.bG,hdj⟩ kk (VL.sub s _ v)).mono λe w'⟨u,g',x,hp',q1,q2,q3,q4,q5⟩=>?_
 .have:=lB l b;rcases fi j c with h|h<;>simp[F2]<;>omega
 .obtain⟨hh,rfl,_,x0,h0,rfl,rfl,rfl,rfl⟩:=q5;have am3:bG ((aN (D++(rv++L))).bm σ τ) hq=aN (rn'++oc y l):=by
   rw[mc B,HO,HO,e1,e3,e4];funext j;rw[dD rn'];simp[bG];rw[jm _ _ akX];simp[dD,bG,hq];cases e9:aN rn' j with
   |some o=>
    have n1:=hnl j (by simp[e9]);have n2:aN z j=none:=by
     cases e:aN z j with
     |none=>rfl
     |some o=>rw[t.iK j o e]at n1;simp at n1
    have n3:aN y j=none:=by
     have:=hsv j;cases e:aN y j with
     |none=>rfl
     |some o=>
      rw[e]at this;obtain⟨o2,ho2⟩:=NX.1 this.symm;obtain⟨p,hp,_⟩:=Q.iK j o2 ho2;rw[hp]at n1;simp at n1
    simp[n2,n3]
   |none=>
    cases e4:aN z j with
    |some o=>simp[y5 j (by simp[e4]),t.iK j o e4]
    |none=>
     cases e5:aN y j with
     |some o=>rfl
     |none=>
      have:aN a j=none:=by
       have:=hsv j;rw[e5]at this;cases e6:aN a j with
       |none=>rfl
       |some o=>rw[e6]at this;simp at this
      simp[this]
  rw[am3]at q3;have n:∀j,aN (rn'++oc y l) j=match aN rn' j with|some o=>some o|none=>match aN y j with|some o=>some o|none=>aN l j:=λj=>by
   rw[dD];simp[bG];cases aN rn' j with
   |some o=>rfl
   |none=>exact jm _ _ akX j
  refine⟨u,g',_,_,q1,q2,q3,q4,rn'++oc y l,a.map (·.1),rfl,⟨λj c hjn=>?_,λj c=>?_,λj c m=>?_⟩,?_⟩
  .rw[n];cases e9:aN rn' j with
   |some o=>rw[hnl j (by simp[e9])]at c;simp at c
   |none=>
    cases e5:aN y j with
    |none=>rfl
    |some o=>exact absurd (by rw[<-A];exact db.1 (by simp[e5])) hjn
  .rw[n];cases e9:aN rn' j with
   |some o=>rfl
   |none=>
    cases e5:aN y j with
    |none=>exact c
    |some o=>rfl
  .rw[n]at m;cases e9:aN rn' j with
   |some o=>exact(akc j (by simp[e9])).2
   |none=>
    rw[e9]at m;cases e5:aN y j with
    |none=>rw[e5]at m;dsimp only at m;rw[c]at m;simp at m
    |some o=>
     have h7:=hsv j;rw[e5]at h7;have h8:=amj j (by
      rw[dD];cases e4:aN z j with
      |some o=>simp[bG,e4]
      |none=>rw[bM e4,<-h7];rfl)
     rw[c]at h8;simp at h8
  .rw[rr.out σ d];exact k
def tk{fr:Hp}(x:∀j,(fr j).isSome=true->j.1<1\/(j.1=1/\j.2<b)){m}(y:b<=m):fr (1,m)=none:=by
 cases e:fr _ with
 |none=>rfl
 |some o=>have:=x (1,m) CD;simp only at this;omega
def tlA n sz m{f args K a xs}(h:fy args n=some (.sl a .fu xs))(hs:(Nat.beq a sz||xs.isEmpty)=true)(t:nx b l=m)
 (k:bW P f=true/\ox P ge b f (eH args n (.sl sz (.tail (1,m)) xs)) (aN (((1,m),.tail sz xs.length)::l)) (CH b (((1,m),.tail sz xs.length)::l) K)):bW P f=true/\ox P ge b f args (aN l) (CH b l K):=by
 refine⟨k.1,λg fr w vs A r N v=>?_⟩;have d:=t▸lB l b;have z:=hE l b 1 m (Nat.le_of_eq t);have C:=tk A d;rw[dJ]at h;obtain⟨u,hu,Q⟩:=VL.get args vs.toList v n _ h;obtain⟨D,i,L,v1⟩:=r.rel.jW (cm z C) (Q.FZ (F0 hs));rw[bz]at L;have vm:=VL.mono i _ _ v;have X:VL D (eH args n (.sl sz (.tail (1,m)) xs)) vs.toList:=by
  grind [eR,md]
 refine(k.2 D fr w vs A ⟨L,by rw[<-bq z];exact r.cM.cW C⟩ (N.mono i) X).mono λe w'⟨u,g',x,o,e1,k1,k2,k3,l',ch,e2,p,hK⟩=>?_
 refine⟨u,g',x,o,e1,i.trans k1,k2,k3,l',ch,e2,⟨λj c q=>?_,λj c=>?_,λj c s=>?_⟩,hK⟩
 .have y:j≠(1,m):=λe=>by subst e;rw[z]at c;simp at c
  have:=p.1 j OO q;rw[this,<-bq z,aZ _ _ y]
 .have y:j≠(1,m):=λe=>by subst e;rw[z]at c;simp at c
  exact p.2.1 j OO
 .by_cases y:j=(1,m)
  .subst y;exact⟨rfl,d⟩
  .exact p.2.2 j OO s
def RN j i sz m{f args K a cs xs}(h:lk l j=some (.cells cs))(n:fy cs i=some (.sl a .fu xs))(hs:(Nat.beq a sz||xs.isEmpty)=true)(hm:nx b l=m)
 (k:bW P f=true/\ox P ge b f args (aN (dp j (.cells (eH cs i (.sl sz (.tail (1,m)) xs))) (((1,m),.tail sz xs.length)::l))) (CH b (dp j (.cells (eH cs i (.sl sz (.tail (1,m)) xs))) (((1,m),.tail sz xs.length)::l)) λx l' ch=>K x l' (j::ch))):
 bW P f=true/\ox P ge b f args (aN l) (CH b l K):=by
 refine⟨k.1,λg fr w vs fi r kk v=>?_⟩;have s:=hm▸lB l b;have d:=hE l b 1 m (Nat.le_of_eq hm);have hf:=tk fi s;rw[<-cQ]at h;rw[dJ]at n;obtain⟨vs0,rest,elem,o1,o2⟩:=r.rel.fR j _ (aK h);obtain⟨u,hu,hv⟩:=VL.get cs vs0 o1 i _ n;obtain⟨g1,A,C,v1⟩:=r.rel.jW (cm d hf) (hv.FZ (F0 hs));have D:j≠(1,m):=λe=>by rw[e,d]at h;simp at h
 rw[bz,bq d]at C;have t:Ab.bG (aN (((1,m),.tail sz xs.length)::l)) fr j=some (.cells cs):=by
  refine aK ?_;rw[<-bq d,aZ _ _ D];exact h
 have L:=r.rel.dl (aK h);obtain⟨o,ajc,N,p1,p,p3⟩:=C.fR j _ t;have Q:o=vs0:=by
  rw[A.cC j L,o2.1]at p;have p:=GZ p;simp at p;have e:=p.1;have e:vs0++rest=o++ajc:=by simpa using e
  have n1:=VL.length _ _ o1;have n2:=VL.length _ _ p1;exact(aw2 e B9).1.symm
 subst Q;have r2:=C.pi t (cs':=eH cs i _) ⟨o,ajc,N,by rw[eR];exact md p1 hu v1,p,p3⟩;rw[bz,bx]at r2;have X:gp (aN (dp j (.cells (eH cs i (.sl sz (.tail (1,m)) xs))) (((1,m),.tail sz xs.length)::l))) fr:=by
  rw[<-bx];exact gp.cW (r.cM.cW hf) (r.cM.none h)
 have z:∀q,q≠j->q≠(1,m)->aN (dp j (.cells (eH cs i (.sl sz (.tail (1,m)) xs))) ((_,.tail sz xs.length)::l)) q=aN l q:=λq h1 h2=>by
  rw[<-bx,aZ _ _ h1,<-bq d,aZ _ _ h2]
 refine(k.2 g1 fr w vs fi ⟨r2,X⟩ (kk.mono A) (VL.mono A _ _ v)).mono λe w'⟨u,g',x,hp',e1,k1,k2,k3,l',ch,e2,n,hK⟩=>?_
 refine⟨u,g',x,hp',e1,A.trans k1,k2,k3,l',j::ch,e2,⟨λq hq c=>?_,λq hq=>?_,λq hq hq'=>?_⟩,hK⟩
 .have y:q≠(1,m):=λe=>by subst e;rw[d]at hq;simp at hq
  simp at c;rw[n.1 q (by rw[z q c.1 y];exact hq) c.2,z q c.1 y]
 .have y:q≠(1,m):=λe=>by subst e;rw[d]at hq;simp at hq
  by_cases e:q=j
  .subst e;exact n.2.1 q (by rw[<-bx,bp];rfl)
  .exact n.2.1 q (by rw[z q e y];exact hq)
 .by_cases y:q=(1,m)
  .subst y;exact⟨rfl,s⟩
  .by_cases e:q=j
   .subst e;rw[h]at hq;simp at hq
   .exact n.2.2 q (by rw[z q e y];exact hq) hq'
def ZG n c sz m{f args K a cs xs}(h:fy args n=some (.agg cs))(L:fy cs c=some (.sl a .fu xs))(hs:(Nat.beq a sz||xs.isEmpty)=true)(N:nx b l=m)
 (k:bW P f=true/\ox P ge b f (eH args n (.agg (eH cs c (.sl sz (.tail (1,m)) xs)))) (aN (((1,m),.tail sz xs.length)::l)) (CH b (((1,m),.tail sz xs.length)::l) K)):bW P f=true/\ox P ge b f args (aN l) (CH b l K):=by
 refine⟨k.1,λg fr w vs Q r kk v=>?_⟩;have i:=N▸lB l b;have z:=hE l b 1 m (Nat.le_of_eq N);have X:=tk Q i;rw[dJ]at h L;obtain⟨u0,s,o⟩:=VL.get args vs.toList v n _ h;obtain⟨bD,e0,p⟩:=o;obtain⟨u,hu,hv⟩:=VL.get cs bD.toList p c _ L;obtain⟨g1,q,r1,v1⟩:=r.rel.jW (cm z X) (hv.FZ (F0 hs));rw[bz]at r1;have vm:=VL.mono q _ _ v;have v2:VL g1 (eH args n (.agg (eH cs c (.sl sz (.tail (1,m)) xs)))) vs.toList:=by
  rw[eR];refine md vm s ?_;refine⟨bD,e0,?_⟩;rw[eR];exact md (VL.mono q _ _ p) hu v1
 refine(k.2 g1 fr w vs Q ⟨r1,by rw[<-bq z];exact r.cM.cW X⟩ (kk.mono q) v2).mono λe w'⟨u,g',x,t,e1,k1,k2,k3,l',ch,e2,A,hK⟩=>?_
 refine⟨u,g',x,t,e1,q.trans k1,k2,k3,l',ch,e2,⟨λj d C=>?_,λj d=>?_,λj d D=>?_⟩,hK⟩
 .have y:j≠(1,m):=λe=>by subst e;rw[z]at d;simp at d
  have:=A.1 j ON C;rw[this,<-bq z,aZ _ _ y]
 .have y:j≠(1,m):=λe=>by subst e;rw[z]at d;simp at d
  exact A.2.1 j ON
 .by_cases y:j=(1,m)
  .subst y;exact⟨rfl,i⟩
  .exact A.2.2 j ON D
def RO j q{f args K o}(h:lk l j=some o)(hs:jk o q)
 (k:bW P f=true/\ox P ge b f args (aN (dp j q l)) (CH b (dp j q l) λx l' ch=>K x l' (j::ch))):bW P f=true/\ox P ge b f args (aN l) (CH b l K):=by
 refine⟨k.1,λg fr w vs n r p v=>?_⟩;rw[<-cQ]at h;have ez:HSub (aN l) (aN _):=λi=>by
  rw[<-bx];by_cases e:i=j
  .subst e;rw[bp,h];exact hs
  .rw[aZ _ _ e];exact HSub.refl _ i
 have hd:gp (aN (dp j q l)) fr:=λi=>by
  rcases r.cM i with e|e
  have:=ez.isSome i;simp_all
  .exact .inr e
 have y:∀i,i≠j->aN (dp j q l) i=aN l i:=λi s=>by rw[<-bx,aZ _ _ s]
 refine(k.2 g fr w vs n ⟨r.rel.ez ez.bG,hd⟩ p v).mono λe w'⟨u,g',x,d,e1,k1,t,A,l',ch,e2,c,C⟩=>?_
 refine⟨u,g',x,d,e1,k1,t,A,l',j::ch,e2,⟨λi a z=>?_,λi a=>?_,λi a m=>?_⟩,C⟩
 .simp only[BV,not_or]at z;rw[c.1 i (by rw[y i z.1];exact a) z.2,y i z.1]
 .by_cases e:i=j
  .subst e;exact c.2.1 i (by rw[<-bx,bp];rfl)
  .exact c.2.1 i (by rw[y i e];exact a)
 .by_cases e:i=j
  .subst e;rw[h]at a;simp at a
  .exact c.2.2 i (by rw[y i e];exact a) m
end
section
variable {P:Program}{ge:GE}{N b d:Nat}{tm tm2 tm3:Tm}{l:HL}{ti:Nat->T TE}
theorem cc{hp x hp3}(h:Wk d N tm hp tm2 x)(k:Wk d N tm2 x tm3 hp3):Wk d N tm hp tm3 hp3:=λg fr w tmps y r v=>by
 obtain⟨z,a,b,c⟩:=h g fr w tmps y r v;obtain⟨e,f,i,j⟩:=k z fr w tmps y b c
 grind [a.trans]
instance {a}f n[h:Pl f]:Pl (λ(x:U a)=>G.sl n .no (x.map f)):=⟨λx=>by
 simp only[G.aM];refine⟨trivial,eP.2 λy b=>?_⟩;obtain⟨z,_,rfl⟩:=Hr.1 b;exact h.out z⟩
def ft x{hp}(h:kA tm x):Wk d N tm hp x hp:=λg _ _ _ _ r v=>⟨g,AV.nk.refl _ g,r,v.1,λt=>ac.sub (h.yW t) _ (v.2 t)⟩
def Nf t sz m{a xs}(h:get tm t= .sl a .fu xs)(hs:(Nat.beq a sz||xs.isEmpty)=true)(c:nx 0 l=m):
 Wk 1 N tm (aN l) ((t,.sl sz (.tail (1,m)) xs)::tm) (aN (((1,m),.tail sz xs.length)::l)):=by
 subst c;intro g fr w tmps y r v;have x:=hE l 0 1 _ (Hq _);have z:=v.2 t;rw[h]at z;obtain⟨d,e,b,f⟩:=r.rel.jW (cm x (nU y _)) (z.FZ (F0 hs));rw[bz,bq x]at b;refine⟨d,e.some _,⟨b,?_⟩,v.1,λi=>?_⟩
 .rw[<-bq x];exact r.cM.cW (nU y _)
 .rw[ff]
  grind [ac.mono,v.2]
def EY t{q sz n xs}(h:get tm t= .ms q sz n)(hq:lk l q=some (.bD sz xs))(y:xs.length=n):
 Wk 1 N tm (aN l) ((t,.sl sz .no xs)::tm) (aN (dp q (.bD sz []) l)):=by
 subst y;intro g fr w tmps c r v;rw[<-cQ]at hq;obtain⟨z,a,_,x,d⟩:=r.rel.nw (aK hq);rw[bz,bx]at x;have b:=v.2 t;rw[h]at b;refine⟨z,a.some _,⟨x,?_⟩,v.1,λi=>?_⟩
 .rw[<-bx];exact r.cM.fW hq
 .rw[ff]
  grind [ac.mono,v.2]
def er j i{q sz n cs xs}(h:lk l j=some (.cells cs))(o:fy cs i=some (.ms q sz n))(hq:lk l q=some (.bD sz xs))(s:xs.length=n):
 Wk 1 N tm (aN l) tm (aN (dp j (.cells (eH cs i (.sl sz .no xs))) (dp q (.bD sz []) l))):=by
 subst s;intro g fr w tmps L r v;rw[<-cQ]at h hq;rw[dJ]at o;have a:j≠q:=λe=>by subst e;rw[h]at hq;simp at hq
 obtain⟨vs,rest,elem,o1,o2⟩:=r.rel.fR j _ (aK h);obtain⟨u,hu,t⟩:=VL.get cs vs o1 i _ o;obtain⟨A,b,_,c,C⟩:=r.rel.nw (aK hq);rw[bz,bx]at c;have z:Ab.bG (aN (dp q (.bD sz []) l)) fr j=some (.cells cs):=by
  refine aK ?_;rw[<-bx,aZ _ _ a];exact h
 have d:=r.rel.dl (aK h);obtain⟨x,ajc,f,D,y,K⟩:=c.fR j _ z;have k:x=vs:=by
  rw[b.cC j d,o2.1]at y;have y:=GZ y;simp only[Ls]at y;have e:=y.1;have e:vs++rest=x++ajc:=by simpa using e
  grind [VL.length,List.append_inj]
 subst k;have p:=c.pi z (cs':=eH cs i (.sl sz .no xs)) ⟨x,ajc,f,by rw[eR];exact md D hu (C _ t),y,K⟩;rw[bz,bx]at p;refine⟨A,b.some _,⟨p,?_⟩,v.mono b⟩;have m:gp (aN (dp q (.bD sz []) l)) fr:=by rw[<-bx];exact r.cM.fW hq
 rw[<-bx];exact m.cW (r.cM.none h)
def QD(a c j:Nm):Nm:=cond (wh j a) c (cond (wh j c) a j)
def qi a c j:QD a c j=swap a c j:=by
 unfold QD swap;by_cases x:j=a
 .rw[BX x,jB.2 x];rfl
 .rw[BY x,gR.2 x,FM];by_cases y:j=c
  .rw[BX y,jB.2 y];rfl
  .rw[BY y,gR.2 y];rfl
def ahP a c:wa (swap a c) (swap a c):=⟨iE a c,iE a c⟩
class R3(a c:Nm)(x:G)(y:outParam G):Prop where
 out:x.bm (swap a c)=y
class Ck(a c:Nm)(x:List G)(y:outParam (List G)):Prop where
 out:hO (swap a c) x=y
class UZ(a c:Nm)(x:bB)(y:outParam bB):Prop where
 out:x.bm (swap a c)=y
class U0(a c:Nm)(x:HL)(y:outParam HL):Prop where
 out:x.map (λp=>(swap a c p.1,p.2.bm (swap a c)))=y
class ZH(a c:Nm)(x:Tm)(y:outParam Tm):Prop where
 out:x.map (λp=>(p.1,p.2.bm (swap a c)))=y
section
variable {a c:Nm}
instance (x:G)[h:UN [] x]:R3 a c x x:=⟨zL (dA h.out)⟩
instance (k:Nm)n:R3 a c (.eU k n) (.eU (QD a c k) n):=⟨by simp only[G.bm];rw[qi]⟩
instance (k:Nm)n m:R3 a c (.ms k m n) (.ms (QD a c k) m n):=⟨by simp only[G.bm];rw[qi]⟩
instance (k:Nm):R3 a c (.map k) (.map (QD a c k)):=⟨by simp only[G.bm];rw[qi]⟩
instance (f:Fn)x y z b[h:Ck a c x z][k:Ck a c y b]:R3 a c (.fn f x y) (.fn f z b):=⟨by simp only[G.bm];rw[h.out,k.out]⟩
instance (x y:U G)[h:Ck a c x y]:R3 a c (.agg x) (.agg y):=⟨by simp only[G.bm];rw[h.out]⟩
instance (x y:U G)n[h:Ck a c x y]:R3 a c (.aS x n) (.aS y n):=⟨by simp only[G.bm];rw[h.out]⟩
instance (m:Nat)k xs ys[h:Ck a c xs ys]:R3 a c (.sl m (.tail k) xs) (.sl m (.tail (QD a c k)) ys):=⟨by simp only[G.bm,jV.bm];rw[h.out,qi]⟩
instance (xs:U G)[h:eL [] xs]:Ck a c xs xs:=⟨zW (ln (λj x=>by simp at x) _ h.out)⟩
instance:Ck a c [] []:=⟨rfl⟩
instance (x y:G)xs ys[h:R3 a c x y][k:Ck a c xs ys]:Ck a c (x::xs) (y::ys):=⟨by simp only[hO];rw[h.out,k.out]⟩
instance (x y:U G)[h:Ck a c x y]:UZ a c (.cells x) (.cells y):=⟨by simp only[bB.bm];rw[h.out]⟩
instance (m n:Nat):UZ a c (.tail m n) (.tail m n):=⟨rfl⟩
instance (m:Nat)x y[h:Ck a c x y]:UZ a c (.bD m x) (.bD m y):=⟨by simp only[bB.bm];rw[h.out]⟩
instance:U0 a c [] []:=⟨rfl⟩
instance (k:Nm)o o' l l'[h:UZ a c o o'][r:U0 a c l l']:U0 a c ((k,o)::l) ((QD a c k,o')::l'):=⟨by simp only[Hx];rw[h.out,r.out,qi]⟩
instance:ZH a c [] []:=⟨rfl⟩
instance (k:Nat)o o' l l'[h:R3 a c o o'][r:ZH a c l l']:ZH a c ((k,o)::l) ((k,o')::l'):=⟨by simp only[Hx];rw[h.out,r.out]⟩
end
def gp.F3{a b}(h:gp a b){j p}(x:b j=some p):a j= .none:=by
 rcases h j with e|e
 .exact e
 grind
def ag6 y:∀tm t,get (tm.map λp=>(p.1,p.2.bm y)) t=(get tm t).bm y
 | [],t=>rfl
 |(i,x)::tm,t=>by
  simp only[Hx,get];cases Nat.beq i t with
  |true=>rfl
  |false=>exact ag6 y tm t
theorem gv a c{n}(d:(Nat.beq a.1 1&&Nat.beq c.1 1)=true)[h:U0 a c l n][k:ZH a c tm tm2]:Wk 1 N tm (aN l) tm2 (aN n):=by
 intro g fr w tmps b r v;simp only[BR]at d;have p:=FU d.1;have q:=FU d.2;have B:=ahP a c;have y:∀j:Nm,j.1<1->swap a c j=j:=λj z=>ma (λe=>by subst e;omega) (λe=>by subst e;omega)
 have f:fr.bm (swap a c) (swap a c)=fr:=by
  funext j;simp only[Hp.bm];cases e:fr (swap a c j)with
  |none=>
   cases e2:fr j with
   |none=>rfl
   |some o=>
    have:=b.ay j (by simp[e2]);rw[y j this,e2]at e;simp at e
  |some o=>
   have s:=b.ay _ (show(fr (swap a c j)).isSome=true by simp[e]);have u:swap a c j=j:=by
    have:=y _ s;rw[iE]at this;exact this.symm
   rw[u]at e;have hu:=b.jt j o e;rw[Jm,e];congr 1;cases o with
   |cells cs=>
    simp only[bB.bm];rw[mp (S:=ol 1) (ρ:=id) (λj z=>y j z) cs hu];congr 1;exact ny cs
   |tail=>rfl
   |sG=>rfl
   |yB i=>simp only[bB.bm];rw[y i hu]
   |bD sz xs=>
    simp only[bB.bm];rw[mp (S:=ol 1) (ρ:=id) (λj z=>y j z) xs hu];congr 1;exact ny xs
   |map A=>
    simp only[bB.bm];congr 1;have:∀x∈A,(x.1.bm (swap a c),x.2.bm (swap a c))=x:=λx hx=>by
     have:=hu x hx;rw[v5 (S:=ol 1) (ρ:=id) (λj z=>y j z) _ this.1,v5 (S:=ol 1) (ρ:=id) (λj z=>y j z) _ this.2,xo,xo]
    rw[Ou this];simp
 refine⟨g.bm (swap a c),⟨rfl,rfl,λ_=>K4,λj z m=>?_,λj z m=>?_,λj z m=>?_⟩,⟨?_,?_⟩,v.1,λt=>?_⟩
 .simp only[AV.bm];rw[y j z];exact m
 .simp only[AV.bm];rw[y j z]
 .simp only[AV.bm];rw[y j z];exact .inl rfl
 .rw[dy.bm B,vv,f,<-h.out,<-mc B,vh B];exact r.rel
 .rw[<-h.out,<-mc B];intro j;cases e:fr j with
  |none=>exact .inr rfl
  |some o=>
   left;simp only[Hp.bm];rw[y j (b.ay j CD),r.cM.F3 e];rfl
 .rw[<-k.out,ag6,<-ac.bm,Ak (iE a c)];exact v.2 t
def ZI(ti:Nat->T TE)(N:Nat)(rs:U ResultVar)(x1:G)(y:HL):KC:=λe tm l=>(e= .normal\/e= .ret)/\∃tm2 x,Wk 1 N tm (aN l) tm2 (aN x)/\hU x y/\FY ti tm2 (y++x) (λxs=>Sub (zo xs) x1) rs
def RJ(E:zn P ti){f fn c args y rw rv x1}(t:P.funcs[f]?=some fn)(A:fn.body=some c)(C:bW P f=true)(D:Nat.ble args.length fn.ntmps=true)(K:qh (y++rw) (y++rv)=true)[u:UT [(0,x1)] (y++rv)](h:br P ge 1 fn.ntmps c (LC (ZI ti fn.ntmps fn.results.toList x1 (y++rv))) (qH 0 args) (aN (y++rw))):dB P ge f args y rw x1 rv:=by
 generalize d:y++rv=z at*;generalize i:y++rw=l0 at*;simp only[dB,i,d];have k:∀p∈l0,p.1.1=0/\(aN z p.1).isSome=true:=λp hp=>by
  have:=H0.1 K p hp;simp only[BR]at this
  grind [Nat.eq_of_beq_eq_true,this.1,this.2,qK,cQ]
 have a:∀j,(aN l0 j).isSome=true->j.1<1/\(aN z j).isSome=true:=λj x=>by
  obtain⟨p,hp,rfl⟩:=Hr.1 (db.1 x);obtain⟨s,m⟩:=k p hp;exact⟨by omega,m⟩
 refine⟨C,dW.enter (λj x=>(a j x).1) t A (J1 D) ?_⟩;refine hT h λe tm hp⟨l,e1,q⟩=>?_
 subst e1;obtain⟨L,tm2,b,N,Q,X⟩:=q;obtain⟨xs,s,m⟩:=nB E.tt _ X;refine⟨tm2,aN (z++b),cc N ?_,L,zo xs,x1,qN s,m,aN z,?_,λj x=>(a j x).2,u.kO (0,x1) NP,λj o x=>.inr (u.FX _ (pg x)),rfl,rfl⟩
 .intro g fr w tmps fi r v;have hs:HSub (aN b) (aN (z++b)):=λj=>by
   rw[dD];simp only[bG];cases e:aN z j with
   |none=>cases aN b j<;>simp[jk.refl]
   |some o=>
    obtain⟨p,hp,n⟩:=Q.iK j o e;simp only[hp];exact n
  refine⟨g,AV.nk.refl _ g,⟨r.rel.ez hs.bG,λj=>?_⟩,v⟩;rcases r.cM j with e|e
  .left;have:=hs.isSome j;cases e2:aN (z++b) j with
   |none=>rfl
   |some o=>rw[e,e2]at this;simp at this
  .exact .inr e
 .intro j o x;rw[dD];exact aK x
def lR(E:zn P ti){f fn c args x rw rv x1}(y:P.funcs[f]?=some fn)(z:fn.body=some c)(a:bW P f=true)(b:Nat.ble args.length fn.ntmps=true)(d:qh (x++rw) (x++rv)=true)[u:UT [(0,x1)] (x++rv)](h:lD x rw λl0=>lD x rv λe=>qM 0 args λtm=>SC P ge ti fn.ntmps c (ZI ti fn.ntmps fn.results.toList x1 e) tm l0):dB P ge f args x rw x1 rv:=
 RJ E y z a b d (SC.cb E c (mb _ _ (eG _ (eG _ h))))
end
section
variable {P:Program}{ge:GE}{N b:Nat}{tm:Tm}{l:HL}{ti:Nat->T TE}{X σ ρ τ:Type}
def Mn{f args a d ch K}(X:∀g fr w vs,(∀j,(fr j).isSome=true->j.1<1\/(j.1=1/\j.2<b))->gh g w (aN l) fr->VL g args vs->∃i,AV.Le g i/\gh i w (aN d) fr/\VL i a vs)(m:vg b l d ch)(k:bW P f=true/\ox P ge b f a (aN d) (CH b d λx l' c=>K x l' (ch++c))):bW P f=true/\ox P ge b f args (aN l) (CH b l K):=by
 refine⟨k.1,λg fr w vs q r t v=>?_⟩;obtain⟨i,s,A,C⟩:=X g fr w vs.toList q r v;refine(k.2 i fr w vs q A (t.mono s) C).mono λe w'⟨u,g',x,o,e1,k1,D,L,l',c,e2,y,N⟩=>?_
 refine⟨u,g',x,o,e1,s.trans k1,D,L,l',ch++c,e2,⟨λj n z=>?_,λj n=>y.2.1 j (m.2.1 j n),λj n p=>?_⟩,N⟩
 .simp only[Hy,not_or]at z
  grind [y.1,m.2.1,z.2,m.1,z.1]
 .cases e:(aN d j).isSome with
  |true=>exact m.2.2 j n e
  |false=>exact y.2.2 j e p
def kR{q sz xs}(hq:lk l q=some (.bD sz xs)){g fr w}(r:gh g w (aN l) fr):
 ∃g',AV.Le g g'/\gh g' w (aN (dp q (.bD sz []) l)) fr/\∀v,ac g (.ms q sz xs.length) v->ac g' (.sl sz .no xs) v:=by
 rw[<-cQ]at hq;obtain⟨y,z,_,x,a⟩:=r.rel.nw (aK hq);rw[bz,bx]at x;exact⟨y,z,⟨x,by rw[<-bx];exact r.cM.fW hq⟩,a⟩
def anf n c{q sz m cs xs f args K}(h:fy args n=some (.agg cs))(e:fy cs c=some (.ms q sz m))(hq:lk l q=some (.bD sz xs))(i:xs.length=m)
 (k:bW P f=true/\ox P ge b f (eH args n (.agg (eH cs c (.sl sz .no xs)))) (aN (dp q (.bD sz []) l)) (CH b (dp q (.bD sz []) l) λx l' ch=>K x l' ([q]++ch))):bW P f=true/\ox P ge b f args (aN l) (CH b l K):=by
 subst i;refine Mn (λg fr w vs _ r v=>?_) (fJ (by rw[cQ];exact hq)) k;obtain⟨j,a,o,p⟩:=kR hq r;rw[dJ]at h e;obtain⟨t,d,y⟩:=VL.get args vs v n _ h;simp only[ac]at y;obtain⟨bD,e0,z⟩:=y;obtain⟨u,hu,s⟩:=VL.get cs bD.toList z c _ e;refine⟨j,a,o,?_⟩;rw[eR];refine md (VL.mono a _ _ v) d ?_;simp only[ac];refine⟨bD,e0,?_⟩;rw[eR];exact md (VL.mono a _ _ z) hu (p _ s)
def adC(E:zn P ti){c K}y lo[u:∀a,UT (y a) (lo a)]{x:X⊕ρ}(h:SC P ge ti N c (VJ y lo x K) tm l)
 (k:∀v,x= .inl v->∃z l',Wk 1 N (y v) (aN (lo v)) z (aN l')/\K .normal z l'):br P ge 1 N c (LC K) tm (aN l):=
 hT (SC.cb E c h) λe tm hp⟨l,e1,q⟩=>by
  subst e1;cases e with
  |normal=>obtain⟨v,b,d⟩:=q;obtain⟨z,l',f,g⟩:=k v b;exact⟨_,_,cc d.wk f,_,rfl,g⟩
  |_=>obtain⟨r,_,q⟩:=q;exact⟨tm,_,dr _ _ _ _,l,rfl,q⟩
def qw t sz m{a tok}(h:get tm t= .sl a tok [])(k:nx 0 l=m):
 Wk 1 N tm (aN l) ((t,.ms (1,m) sz 0)::tm) (aN (((1,m),.bD sz [])::l)):=by
 subst k;intro g fr w tmps d r v;have b:=hE l 0 1 _ (Hq _);have c:=v.2 t;rw[h]at c;simp only[ac,B1]at c;obtain⟨z,cap,e1,e2,e3,_,n,_⟩:=c;have x:=cm b (nU d _);have f:=r.rel.bO ⟨z,0,cap⟩ x;have y:=(g.gG ⟨z,0,cap⟩ (r.rel.cT x)).trans (lu _ 0 (f.cT x));have j:=f.ki x sz 0;rw[bz,bq b]at j;refine⟨(g.bO (1,nx 0 l) ⟨z,0,cap⟩).push (1,nx 0 l) 0,y.some _,⟨j,?_⟩,v.1,λi=>?_⟩
 .rw[<-bq b];exact r.cM.cW (nU d _)
 .rw[ff];split
  .rename_i e;subst e;simp only[ac];exact⟨.inl rfl,z,cap,e1,e2,e3,λh=>absurd h (MH 0),n,by simp[dV,AV.push,AV.bO]⟩
  .exact ac.mono y _ _ (v.2 i)
def adE j i{q sz n cs xs}(h:lk l j=some (.cells cs))(p:fy cs i=some (.ms q sz n))(hq:lk l q=some (.bD sz xs))(t:xs.length=n)(b:xs≠ []):
 Wk 1 N tm (aN l) tm (aN (dp j (.cells (eH cs i (.sl sz (.tail q) xs))) (dp q (.tail sz xs.length) l))):=by
 subst t;intro g fr w tmps P r v;rw[<-cQ]at h hq;rw[dJ]at p;have z:j≠q:=λe=>by subst e;rw[h]at hq;simp at hq
 obtain⟨vs,rest,elem,o1,o2⟩:=r.rel.fR j _ (aK h);obtain⟨u,hu,A⟩:=VL.get cs vs o1 i _ p;obtain⟨C,c,_,d,D⟩:=r.rel.AS (aK hq) b;rw[bz,bx]at d;have a:Ab.bG (aN (dp q (.tail sz xs.length) l)) fr j=some (.cells cs):=by
  refine aK ?_;rw[<-bx,aZ _ _ z];exact h
 have f:=r.rel.dl (aK h);obtain⟨x,ajc,k,K,y,L⟩:=d.fR j _ a;have m:x=vs:=by
  rw[c.cC j f,o2.1]at y;have y:=GZ y;simp only[Ls]at y;have e:=y.1;have e:vs++rest=x++ajc:=by simpa using e
  grind [VL.length,List.append_inj]
 subst m;have s:=d.pi a (cs':=eH cs i (.sl sz (.tail q) xs)) ⟨x,ajc,k,by rw[eR];exact md K hu (D _ A),y,L⟩;rw[bz,bx]at s;refine⟨C,c.some _,⟨s,?_⟩,v.mono c⟩;have o:gp (aN (dp q (.tail sz xs.length) l)) fr:=by rw[<-bx];exact r.cM.fW hq
 rw[<-bx];exact o.cW (r.cM.none h)
def ll{d}l'(h:l=l'):Wk d N tm (aN l) tm (aN l'):=h▸dr _ _ _ _
def gl{f:τ->G}{xs i v y}(h:aA xs i=some v)(e:f v=y):fy (xs.map f) i.toNat=some y:=by
 obtain⟨_,h⟩:=p8 h;rw[dJ,K9,h,<-e];rfl
theorem bF.qP:∀{xs:U G}{i z z'},Sub z z'->bF (xs.set i z) (xs.set i z')
 | [],_,_,_,_=>.refl _
 |_::_,0,_,_,h=>.cons h (.refl _)
 |x::xs,i+1,_,_,h=>.cons (.refl x) (bF.qP (xs:=xs) (i:=i) h)
def gI{f}{xs:U τ}{i z v}(h:Sub z (f v)):bF ((xs.map f).set i z) ((xs.set i v).map f):=by
 grind [List.map_set,bF.qP]
end
section
variable {P:Program}{ge:GE}{N b:Nat}{tm:Tm}{l:HL}{ti:Nat->T TE}
def AV.me(g:AV)(n:Nat)(w:World):AV:={g with bV:=n,w0:=w}
mutual
theorem ac.me {g:AV} {n:Nat} {w:World}:(x:G)->(v:Value)->(ac (g.me n w) x v↔ac g x v)
 |.bool _,v=>by simp only[ac]
 |.int _ _,v=>by simp only[ac]
 |.str _,v=>by simp only[ac]
 |.eM,v=>by simp only[ac]
 |.eU j off,v=>by simp only[ac];exact Iff.rfl
 |.aS cs off,v=>by
  simp only[ac];constructor
  .rintro⟨b,o,vals,h1,h2,h3⟩;exact⟨b,o,vals,h1,(VL.me cs vals).1 h2,h3⟩
  .rintro⟨b,o,vals,h1,h2,h3⟩;exact⟨b,o,vals,h1,(VL.me cs vals).2 h2,h3⟩
 |.sl sz tok xs,v=>by
  simp only[ac];have ht:∀n' a cap,dV (g.me n w) n' a cap tok↔dV g n' a cap tok:=λn' a cap=>by cases tok<;>exact Iff.rfl
  constructor
  .rintro⟨a,cap,h1,h2,h3,h4,h5,h6⟩;exact⟨a,cap,h1,h2,h3,λhx=>by obtain⟨b,o,vals,k1,k2,k3⟩:=h4 hx;exact⟨b,o,vals,k1,(VE.me sz xs vals).1 k2,k3⟩,h5,(ht _ _ _).1 h6⟩
  .rintro⟨a,cap,h1,h2,h3,h4,h5,h6⟩;exact⟨a,cap,h1,h2,h3,λhx=>by obtain⟨b,o,vals,k1,k2,k3⟩:=h4 hx;exact⟨b,o,vals,k1,(VE.me sz xs vals).2 k2,k3⟩,h5,(ht _ _ _).2 h6⟩
 |.ms j _ _,v=>by simp only[ac];exact Iff.rfl
 |.sub j _ _ _ _,v=>by simp only[ac];exact Iff.rfl
 |.dP,v=>by simp only[ac]
 |.map j,v=>by simp only[ac];exact Iff.rfl
 |.fn f a c,v=>by
  simp only[ac];constructor
  .rintro⟨x,y,h1,h2,h3⟩;exact⟨x,y,h1,(VL.me a _).1 h2,(VL.me c _).1 h3⟩
  .rintro⟨x,y,h1,h2,h3⟩;exact⟨x,y,h1,(VL.me a _).2 h2,(VL.me c _).2 h3⟩
 |.bX,v=>by simp only[ac]
 |.iface t x,v=>by
  simp only[ac];constructor
  .rintro⟨y,h1,h2⟩;exact⟨y,h1,(ac.me x y).1 h2⟩
  .rintro⟨y,h1,h2⟩;exact⟨y,h1,(ac.me x y).2 h2⟩
 |.nilIface,v=>by simp only[ac]
 |.agg cs,v=>by
  simp only[ac];constructor
  .rintro⟨y,h1,h2⟩;exact⟨y,h1,(VL.me cs _).1 h2⟩
  .rintro⟨y,h1,h2⟩;exact⟨y,h1,(VL.me cs _).2 h2⟩
 |.bZ cs,v=>by
  simp only[ac];constructor
  .rintro⟨y,h1,h2⟩;exact⟨y,h1,(VL.me cs _).1 h2⟩
  .rintro⟨y,h1,h2⟩;exact⟨y,h1,(VL.me cs _).2 h2⟩
 |.any,v=>by simp only[ac]
 |.mR _,v=>by simp only[ac];exact Iff.rfl
theorem VL.me {g:AV} {n:Nat} {w:World}:(xs:U G)->(vs:U Value)->(VL (g.me n w) xs vs↔VL g xs vs)
 | [],vs=>by simp only[VL]
 |x::xs,vs=>by
  simp only[VL];constructor
  .rintro⟨v,r,h1,h2,h3⟩;exact⟨v,r,h1,(ac.me x v).1 h2,(VL.me xs r).1 h3⟩
  .rintro⟨v,r,h1,h2,h3⟩;exact⟨v,r,h1,(ac.me x v).2 h2,(VL.me xs r).2 h3⟩
theorem VE.me {g:AV} {n:Nat} {w:World} (sz:Nat):(xs:U G)->(vs:U Value)->(VE (g.me n w) sz xs vs↔VE g sz xs vs)
 | [],vs=>by simp only[VE]
 |x::xs,vs=>by
  simp only[VE];constructor
  .rintro⟨v,r,h1,h0,h2,h3⟩;exact⟨v,r,h1,h0,(ac.me x v).1 h2,(VE.me sz xs r).1 h3⟩
  .rintro⟨v,r,h1,h0,h2,h3⟩;exact⟨v,r,h1,h0,(ac.me x v).2 h2,(VE.me sz xs r).2 h3⟩
end
def zu(w:World)(b:Nat):U Value:=match w.heap[b]? with
 |some (.cells c _ _)=>c.toList
 |_=>[]
def AV.all(g:AV)(w:World):AV:={bV:=g.bV,w0:=g.w0,fz:=zu w,dC:=λ_=>False,cC:=g.cC,tl:=g.tl}
def dy.pj{g w hp}(r:dy g w hp)b:g.fz b<+:zu w b:=by
 by_cases h:g.fz b=[]
 .rw[h];exact LV
 grind [r.fz,zu]
def ac.all{g w hp}(r:dy g w hp){x v}(h:ac g x v)(u:x.aM p9):ac (g.all w) x v:=by
 have z:ac (g.cut p9) x v:=ac.cut _ _ h u;have y:AV.Le (g.cut p9) (g.all w):=⟨rfl,rfl,λb=>r.pj b,λ_ h=>h.elim,λ_ h=>h.elim,λ_ h=>h.elim⟩;exact ac.mono y _ _ z
mutual
inductive Vw (l:HL):G->G->Prop
 |pl {x y:G}:Sub x y->y.aM p9->Vw l x y
 |ms {q:Nm} {sz n:Nat} {xs ys:List G}:lk l q=some (.bD sz xs)->xs.length=n->dN l xs ys->Vw l (.ms q sz n) (.sl sz .no ys)
 |agg {xs ys:List G}:dN l xs ys->Vw l (.agg xs) (.agg ys)
 |eU {q:Nm} {off:Nat} {cs ys:List G}:lk l q=some (.cells cs)->dN l cs ys->Vw l (.eU q off) (.aS ys off)
 |arp {q:Nm} {i off sz:Nat} {cs ys xs:List G}:lk l q=some (.bD sz xs)->fy xs i=some (.agg cs)->off=i*sz->dN l cs ys->Vw l (.eU q off) (.aS ys 0)
 |fn {f:Fn} {xs xs' ys ys':List G}:dN l xs xs'->dN l ys ys'->Vw l (.fn f xs ys) (.fn f xs' ys')
inductive dN (l:HL):List G->List G->Prop
 |nil:dN l [] []
 |cons {x y:G} {xs ys:List G}:Vw l x y->dN l xs ys->dN l (x::xs) (y::ys)
end
theorem dN.length{l}:∀{xs ys},dN l xs ys->xs.length=ys.length
 |_,_,.nil=>rfl
 |_,_,.cons _ h=>by simp[h.length]
mutual
theorem Vw.cb {g:AV} {w:World} {fr:Hp} (r:gh g w (aN l) fr):{x y:G}->Vw l x y->∀v,ac g x v->ac (g.all w) y v
 |_,_,.pl hs hu,v,h=>ac.all r.rel (ac.sub hs _ h) hu
 |_,_,.ms (q:=q) (sz:=sz) (xs:=xs) (ys:=ys) hq hn he,v,h=>by
  subst hn;rw[<-cQ]at hq;simp only[ac]at h |-;obtain⟨e0,a,cap,e1,e2,e3,e4,e5,_⟩:=h;have hl:=he.length;refine⟨a,cap,by rw[<-hl];exact e1,by rw[<-hl];exact e2,e3,λhne=>?_,e5,trivial⟩;have hxs:xs≠ []:=λe=>hne (KE (by rw[<-hl,e];rfl))
  obtain⟨vals,rest,elem,o1,o2,_⟩:=r.rel.fR q _ (aK hq) hxs;exact⟨g.cC q,0,vals,e4 (KS.2 hxs),Qt r he vals o1,by simp[AV.all,zu,o2]⟩
 |_,_,.agg he,v,h=>by
  simp only[ac]at h |-;obtain⟨a,e1,e2⟩:=h;exact⟨a,e1,dN.cb r he _ e2⟩
 |_,_,.eU (q:=q) (off:=off) (cs:=cs) hq he,v,h=>by
  rw[<-cQ]at hq;simp only[ac]at h |-;obtain⟨_,e1⟩:=h;obtain⟨vs,rest,elem,o1,o2,_⟩:=r.rel.fR q _ (aK hq);exact⟨g.cC q,0,vs,by rw[e1];simp,dN.cb r he vs o1,by simp[AV.all,zu,o2]⟩
 |_,_,.arp (q:=q) (i:=i) (sz:=sz) (cs:=cs) (xs:=xs) hq hi ho he,v,h=>by
  subst ho;rw[<-cQ]at hq;rw[dJ]at hi;simp only[ac]at h |-;obtain⟨_,e1⟩:=h;have hne:xs≠ []:=λe=>by subst e;simp at hi
  obtain⟨vals,rest,elem,o1,o2,_⟩:=r.rel.fR q _ (aK hq) hne;obtain⟨u,k1,k2,k3,k4⟩:=VE.get xs vals o1 i _ hi;simp only[ac]at k1;obtain⟨a,rfl,k5⟩:=k1;refine⟨g.cC q,i*sz,a.toList,e1,dN.cb r he _ k5,?_⟩;simp only[AV.all,zu,o2,List.toList_toArray];refine List.IsPrefix.trans k4 ?_;exact eF (MK _ _) _
 |_,_,.fn hx hy,v,h=>by
  simp only[ac]at h |-;obtain⟨a,b,e1,e2,e3⟩:=h;exact⟨a,b,e1,dN.cb r hx _ e2,dN.cb r hy _ e3⟩
theorem dN.cb {g:AV} {w:World} {fr:Hp} (r:gh g w (aN l) fr):{xs ys:U G}->dN l xs ys->∀vs,VL g xs vs->VL (g.all w) ys vs
 |_,_,.nil,vs,h=>by simpa only[VL]using h
 |_,_,.cons hx hxs,vs,h=>by
  simp only[VL]at h |-;obtain⟨v,rest,e,h1,h2⟩:=h;exact⟨v,rest,e,Vw.cb r hx v h1,dN.cb r hxs rest h2⟩
theorem Qt {g:AV} {w:World} {fr:Hp} (r:gh g w (aN l) fr) {sz:Nat}:{xs ys:U G}->dN l xs ys->∀vs,VE g sz xs vs->VE (g.all w) sz ys vs
 |_,_,.nil,vs,h=>by simpa only[VE]using h
 |_,_,.cons hx hxs,vs,h=>by
  simp only[VE]at h |-;obtain⟨v,rest,e,h0,h1,h2⟩:=h;exact⟨v,rest,e,h0,Vw.cb r hx v h1,Qt r hxs rest h2⟩
end
def AN{l}:∀{xs ys},bF xs ys->hH p9 ys->dN l xs ys
 | [],_,h,_=>by have:=h.sR;subst this;exact .nil
 |x::xs,_,.refl _,u=>by simp only[hH]at u;exact .cons (.pl (.refl _) u.1) (AN (.refl _) u.2)
 |x::xs,_,.cons h k,u=>by simp only[hH]at u;exact .cons (.pl h u.1) (AN k u.2)
def dy.grown{g:AV}{w w':World}{hp:Hp}(r:dy g w hp)(k:Below w.heap.size w w'):dy g w' hp where
 dC:=r.dC
 jI:=r.jI.trans (k.mono r.size)
 size:=KV r.size k.size
 fz b hb:=by
  obtain⟨c,e,fr,h,x⟩:=r.fz b hb;exact⟨c,e,fr,by rw[k.block b (r.gm hb)];exact h,x⟩
 fR j o h:=(r.fR j o h).lU (AV.Le.refl g) (r.dl h) rfl λb hb=>⟨k.block b (r.el j o b h hb).2,rfl⟩
 el j o b h hb:=⟨(r.el j o b h hb).1,Nat.lt_of_lt_of_le (r.el j o b h hb).2 k.size⟩
 jH:=r.jH
def cR{f args y x1 x2 K}(C:dB P ge f y [] [] x1 [])(m:dN l args y)(hx:∀g h v,ac g x1 v->ac h x2 v)(k:K x2 l []):
 bW P f=true/\ox P ge b f args (aN l) (CH b l K):=by
 refine⟨C.1,λg fr w vs X r n v=>?_⟩
 let z:=(g.all w).me w.heap.size w
 have s:oO z ge:=λq cs hq=>by
  obtain⟨u,vals,t,A⟩:=n q cs hq;have d:(g.cut (λ_=>False)).Le (g.all w):=⟨rfl,rfl,λb=>r.rel.pj b,λ_ h=>h.elim,λ_ h=>h.elim,λ_ h=>h.elim⟩;exact⟨u,vals,(VL.me cs vals).2 (VL.mono d _ _ (VL.cut _ _ t u)),A.trans (r.rel.pj q)⟩
 have D:dy z w ej:=⟨λj=>by simp[z,AV.all,AV.me,ej],Below.refl _ _,Hq _,λb a=>by
  simp only[z,AV.all,AV.me,zu]at a |-;split at a
  .rename_i c e fr h;exact⟨c,e,fr,h,by simp⟩
  .exact absurd rfl a,λj o h=>by simp[ej]at h,λj o b h=>by simp[ej]at h,λi j o p b h=>by simp[ej]at h⟩
 have e0:Ab.bG (aN []) ej=ej:=by funext j;simp[Ab.bG,aN,ej]
 refine(C.2 z ej w vs (λj h=>by simp[ej]at h) ⟨by simp only[Lm];rw[e0];exact D,λj=>.inr rfl⟩ s ((VL.me _ _).2 (dN.cb r m _ v))).mono λe w'⟨u,g',x,L,e1,k1,N,Q,e2,_⟩=>?_
 subst e2;have a:Below w.heap.size w w':=by
  have:=N.rel.jI;rw[k1.bV,k1.w0]at this;exact this
 exact⟨u,g,x2,aN l,e1,AV.Le.refl g,⟨r.rel.grown a,r.cM⟩,hx _ _ _ Q,l,[],rfl,vg.refl b l,k⟩
def aaU{x:G}(h:x.aM (λj=>j∈([]:U Nm))):x.aM p9:=lA (λj y=>by simp at y) _ h
def aij{x}(h:hH (λj=>j∈([]:U Nm)) x):hH p9 x:=ln (λj y=>by simp at y) _ h
def vp{x y}(h:Sub x y)[u:UN [] y]:Vw l x y:=.pl h (aaU u.out)
def vl{xs ys}(h:bF xs ys)[u:eL [] ys]:dN l xs ys:=AN h (aij u.out)
def va{xs ys}(h:dN l xs ys):Vw l (.agg xs) (.agg ys):=.agg h
def vq{q off cs ys}(hq:lk l q=some (.cells cs))(h:dN l cs ys):Vw l (.eU q off) (.aS ys off):=.eU hq h
def vf{f xs xs' ys x}(h:dN l xs xs')(k:dN l ys x):Vw l (.fn f xs ys) (.fn f xs' x):=.fn h k
def vm{q sz n xs ys}(hq:lk l q=some (.bD sz xs))(x:xs.length=n)(h:dN l xs ys):Vw l (.ms q sz n) (.sl sz .no ys):=.ms hq x h
def vc{x y xs ys}(h:Vw l x y)(k:dN l xs ys):dN l (x::xs) (y::ys):=.cons h k
def vr{q i off sz cs ys xs}(hq:lk l q=some (.bD sz xs))(x:fy xs i=some (.agg cs))(y:off=i*sz)(h:dN l cs ys):Vw l (.eU q off) (.aS ys 0):=.arp hq x y h
def awh{sz xs}g h v(y:ac g (.sl sz .no xs) v):ac h (.sl 0 .no (List.replicate xs.length .any)) v:=by
 have key:∀n,VE h 0 (List.replicate n .any) []:=λn=>by
  induction n with
  |zero=>simp[VE]
  |succ n z=>simp only[P7,VE];exact⟨.agg #[],[],by simp[Value.cells],by simp[Value.cells],by simp[ac],z⟩
 simp only[ac,List.length_replicate]at y |-;obtain⟨a,cap,e1,e2,e3,e4,c,_⟩:=y;refine⟨a,cap,e1,e2,e3,λx=>?_,c,trivial⟩;have hx:xs≠ []:=λe=>by subst e;simp at x
 obtain⟨b,off,vals,d,_,_⟩:=e4 hx;exact⟨b,off,[],d,key _,LV⟩
end
def mE{x}(f:x->G)(p:Z×x):G×G:=(.str p.1,f p.2)
def cv{x}:U (Z×x)->Z->T x
 | [],_=>none
 |p::r,s=>cond (s.data.toList==p.1.data.toList) (some p.2) (cv r s)
def jr{x}:U (Z×x)->Z->x->U (Z×x)
 | [],s,v=>[(s,v)]
 |p::r,s,v=>cond (s.data.toList==p.1.data.toList) ((p.1,v)::r) (p::jr r s v)
def ZJ{x}(f:x->G):∀L s z,
 fh (L.map (mE f)) s=some (cond (cv L s).isSome (some (f ((cv L s).getD z))) none)
 | [],s,z=>rfl
 |p::r,s,z=>by
  simp only[Hx,mE,fh,cv];cases s.data.toList==p.1.data.toList with
  |true=>rfl
  |false=>exact ZJ f r s z
def zM{x}{f:x->G}{L s z D}(y:(cv L s).isSome=false)(a:D=[f z]):D=[f ((cv L s).getD z)]:=by
 simp_all
def Ap{x}(f:x->G):∀L s v,jl (L.map (mE f)) s (f v)=some ((jr L s v).map (mE f))
 | [],s,v=>rfl
 |p::r,s,v=>by
  simp only[Hx,mE,jl,jr];cases s.data.toList==p.1.data.toList with
  |true=>rfl
  |false=>
   have:=Ap f r s v;simp only[FM,this,Jm,Hx,mE]
def A5{x f}[h:Pl f]y(L:U (Z×x)):(L.map (mE f)).map (λe=>(e.1.bm y,e.2.bm y))=L.map (mE f):=by
 rw[JD];refine Ou λp _=>?_
 simp only[Function.comp,mE,G.bm,zL (h.out p.2)]
instance {S y}f(L:U (Z×y))[h:Pl f]:UO S (.map (L.map (mE f))):=⟨by
 intro x hx;obtain⟨p,_,rfl⟩:=Hr.1 hx;exact⟨trivial,lA (λj z=>z.elim) _ (h.out p.2)⟩⟩
instance {y x}f(L:U (Z×x))[h:Pl f]:UX y (.map (L.map (mE f))) (.map (L.map (mE f))):=⟨λz _=>by simp only[bB.bm];rw[A5]⟩
instance {y N x}f(L:U (Z×x))[h:Pl f]:VK y N (.map (L.map (mE f))) (.map (L.map (mE f))):=⟨λz _=>by simp only[bB.bm];rw[A5]⟩
instance {a c x}f(L:U (Z×x))[h:Pl f]:UZ a c (.map (L.map (mE f))) (.map (L.map (mE f))):=⟨by simp only[bB.bm];rw[A5]⟩
instance {S}:UO S (.map []):=⟨λ_ h=>by simp at h⟩
instance {x}:UX x (.map []) (.map []):=⟨λ_ _=>rfl⟩
def ald{x}{m n:Nat}{a b}{r:x}(e:m<n)(h:(bif decide (m<n)then a else b)=some r):a=some r:=by
 grind
def agF{x}{m n:Nat}{a b}{r:x}(e:n<=m)(h:(bif decide (m<n)then a else b)=some r):b=some r:=by
 grind
section
set_option maxRecDepth 100000
open Go Go.RowKit Go.Proofs
abbrev s0:G:=.str ⟨#[]⟩
abbrev i0:G:=.int .i64 0
abbrev l0:G:=.sl 0 .fu []
abbrev b0:G:=.bool false
abbrev f0:G:=.bX
abbrev p0:G:=.eM
abbrev j0:G:=.nilIface
abbrev lf:Tr:=.lf
abbrev dX:Tr->Tr->Tr:=.nd none
abbrev ld(b:Nat)(f:U (Nat×Nat))(z:U G)(c:At):T TE:=some ⟨z.length,b,true,.struct,f,z,c⟩
abbrev dQ(b:Nat)(u:UK)(z:G)(c:At):T TE:=some ⟨1,b,false,u,[],[z],c⟩
abbrev VP:T TE:=dQ 8 (.int .i64) i0 true
def tr:Tr:=(dX (dX (.nd VP (dX (.nd (dQ 8 (.pointer) p0 true) (.nd (dQ 24 (.slice 33) l0 false) lf (.nd (dQ 24 (.slice 30) l0 false) (.nd (some ⟨24,192,true,.array 8 158,[],(.replicate 24 f0),false⟩) lf lf) lf)) (.nd (ld 136 [(0,3),(1,9),(2,3),(3,9),(4,30),(5,30),(6,45),(7,3),(8,3)] [i0,s0,i0,s0,l0,l0,l0,i0,i0] false) (dX lf (.nd (ld 32 [(0,3),(1,9),(2,3)] [i0,s0,i0] true) lf lf)) lf)) (.nd (dQ 24 (.slice 39) l0 false) (.nd (ld 40 [(0,9),(1,37)] [s0,l0] false) (.nd (ld 96 [(0,9),(1,53)] [s0,i0,s0,i0,l0,l0] false) lf lf) (.nd (ld 264 [(0,9),(1,4),(2,53),(7,4),(8,47),(17,3),(18,3)] [s0,b0,i0,s0,i0,l0,l0,b0,i0,s0,i0,s0,l0,l0,l0,i0,i0,i0,i0] false) (.nd (ld 280 [(0,49),(13,9),(14,4),(15,164),(16,165)] [s0,l0,l0,l0,i0,s0,i0,s0,l0,l0,l0,i0,i0,s0,b0,l0,f0] false) lf lf) (dX (.nd (some ⟨5,5,true,.array 5 4,[],[b0,b0,b0,b0,b0],true⟩) lf lf) lf))) (dX (.nd (ld 328 [(0,3),(1,9),(2,9),(3,47),(12,47),(21,3),(22,3)] [i0,s0,s0,i0,s0,i0,s0,l0,l0,l0,i0,i0,i0,s0,i0,s0,l0,l0,l0,i0,i0,i0,i0] false) (dX (dX (.nd (dQ 24 (.slice 20) l0 false) lf lf) lf) (.nd VP lf lf)) (.nd (dQ 8 (.func) f0 false) lf lf)) (dX (dX lf (.nd (dQ 8 (.pointer) p0 true) lf lf)) lf)))) (.nd (dQ 16 (.string) s0 true) (.nd (ld 8 [(0,17)] [p0] true) (.nd (ld 160 [(0,3),(1,9),(2,9),(3,9),(4,30),(5,33)] [i0,s0,s0,s0,l0,i0,i0,s0,l0,l0] false) lf (.nd (ld 64 [(0,9),(1,3),(2,3),(3,3),(4,30)] [s0,i0,i0,i0,l0] false) (dX (.nd (dQ 24 (.slice 296) l0 false) lf lf) (.nd (some ⟨24,24,true,.array 24 5,[],(.replicate 24 (.int .u8 0)),true⟩) lf lf)) (dX lf (.nd (dQ 8 (.pointer) p0 true) lf lf)))) (.nd (dQ 24 (.slice 53) l0 false) lf (dX (dX lf (.nd (dQ 8 (.int .u64) (.int .u64 0) true) lf lf)) (.nd (dQ 8 (.func) f0 false) lf (.nd (ld 88 [(0,58),(1,9),(2,3),(3,3),(4,30),(5,31)] [i0,s0,i0,i0,l0,l0] false) lf lf))))) (.nd (ld 48 [(0,24),(1,25)] [l0,l0] false) (.nd (dQ 24 (.slice 71) l0 false) (.nd (ld 32 [(0,9),(1,9)] [s0,s0] true) (.nd (ld 104 [(0,9),(1,4),(2,53)] [s0,b0,i0,s0,i0,l0,l0] false) lf lf) (.nd (ld 24 [(0,9),(1,58)] [s0,i0] true) (.nd (dQ 8 (.pointer) p0 true) lf lf) (.nd (dQ 8 (.pointer) p0 true) lf lf))) (dX (dX (dX (.nd (ld 40 [(0,553),(1,9),(2,9)] [p0,s0,s0] true) lf lf) lf) lf) (dX lf (.nd (dQ 1 (.int .u8) (.int .u8 0) true) lf lf)))) (dX (dX (.nd (dQ 8 (.func) f0 false) lf lf) (.nd (dQ 8 (.pointer) p0 true) (.nd (ld 96 [(0,9),(1,53)] [s0,i0,s0,i0,l0,l0] false) lf lf) (.nd (some ⟨24,384,true,.array 24 9,[],(.replicate 24 s0),true⟩) lf lf))) (.nd (dQ 24 (.slice 128) l0 false) (dX lf (.nd (some ⟨65,65,true,.array 65 5,[],(.replicate 65 (.int .u8 0)),true⟩) lf lf)) lf))))) (.nd (dQ 1 (.int .u8) (.int .u8 0) true) (.nd (dQ 16 (.string) s0 true) (.nd (dQ 8 (.pointer) p0 true) (.nd (ld 80 [(0,3),(1,3),(2,9),(3,30),(4,31)] [i0,i0,s0,l0,l0] false) (.nd (dQ 24 (.slice 99) l0 false) (dX (dX (.nd (dQ 8 (.map 9 31) (.dP) false) lf lf) lf) lf) (dX (dX (.nd (dQ 8 (.func) f0 false) lf lf) lf) (.nd (dQ 8 (.pointer) p0 true) lf lf))) (dX (.nd (dQ 24 (.slice 25) l0 false) (.nd (dQ 8 (.pointer) p0 true) (.nd (dQ 8 (.func) f0 false) lf lf) lf) lf) (.nd (dQ 8 (.func) f0 false) lf lf))) (.nd (ld 224 [(0,9),(1,43),(2,30),(3,44),(4,47)] [s0,l0,l0,l0,i0,s0,i0,s0,l0,l0,l0,i0,i0] false) (dX lf (.nd (dQ 8 (.func) f0 false) lf (.nd (ld 48 [(0,9),(1,9),(2,400)] [s0,s0,j0] true) lf lf))) (.nd (some ⟨8,64,true,.array 8 112,[],(.replicate 8 f0),false⟩) (dX (.nd (dQ 8 (.func) f0 false) lf lf) (.nd (dQ 8 (.map 9 3) (.dP) false) lf lf)) (dX lf (.nd (dQ 8 (.pointer) p0 true) lf lf))))) (.nd (dQ 24 (.slice 49) l0 false) (dX (dX (.nd (dQ 8 (.func) f0 false) lf (.nd (dQ 8 (.map 3 4) (.dP) false) lf lf)) (.nd (dQ 8 (.pointer) p0 true) lf (.nd (some ⟨32,32,true,.array 16 456,[],(.replicate 32 (.int .u8 0)),true⟩) lf lf))) (dX (dX (dX (.nd (dQ 8 (.pointer) p0 true) lf lf) lf) lf) lf)) (dX (dX (dX (.nd (dQ 8 (.func) f0 false) (.nd (dQ 8 (.func) f0 false) lf lf) lf) lf) (dX lf (.nd (some ⟨64,64,true,.array 64 5,[],(.replicate 64 (.int .u8 0)),true⟩) lf lf))) (dX lf (.nd (dQ 8 (.func) f0 false) lf (.nd (ld 16 [(0,3),(1,3)] [i0,i0] true) lf lf)))))) (dX (.nd (dQ 4 (.int .i32) (.int .i32 0) true) (.nd (dQ 24 (.slice 56) l0 false) lf (dX (.nd (dQ 8 (.func) f0 false) lf (.nd (dQ 24 (.slice 5) l0 false) lf lf)) (dX (.nd (ld 40 [(0,3),(1,4),(2,30)] [i0,b0,l0] false) lf lf) lf))) (.nd (ld 80 [(0,3),(1,9),(2,3),(3,30),(4,51)] [i0,s0,i0,l0,l0] false) (.nd (dQ 8 (.func) f0 false) lf (.nd (dQ 8 (.func) f0 false) lf (.nd (some ⟨256,256,true,.array 256 4,[],(.replicate 256 b0),true⟩) lf lf))) lf)) (dX (.nd (dQ 24 (.slice 47) l0 false) (dX lf (dX (.nd (ld 248 [(0,9),(1,47),(10,30),(11,30),(12,30),(13,30)] [s0,i0,s0,i0,s0,l0,l0,l0,i0,i0,l0,l0,l0,l0] false) lf lf) lf)) (dX (.nd (dQ 8 (.func) f0 false) lf lf) lf)) (dX (dX lf (.nd (dQ 8 (.func) f0 false) lf (.nd (dQ 8 (.pointer) p0 true) lf lf))) (.nd (ld 120 [(0,22),(1,3),(2,9),(3,24),(4,25),(5,123)] [l0,i0,s0,l0,l0,l0] false) (dX lf (.nd (dQ 8 (.func) f0 false) lf lf)) (dX lf (.nd (some ⟨2,32,true,.array 2 9,[],[s0,s0],true⟩) lf lf)))))))) (.nd VP (.nd (dQ 1 (.bool) b0 true) (.nd (ld 24 [(0,2),(1,3),(2,4),(3,6)] [i0,i0,b0,.int .u8 0] true) (.nd (dQ 8 (.pointer) p0 true) (dX (dX (.nd (ld 144 [(0,9),(1,9),(2,51),(3,3),(4,53)] [s0,s0,l0,i0,i0,s0,i0,l0,l0] false) lf lf) (dX (.nd (dQ 24 (.slice 228) l0 false) lf lf) lf)) (dX (.nd (dQ 8 (.pointer) p0 true) lf (.nd (dQ 8 (.int .u64) (.int .u64 0) true) lf lf)) (.nd (ld 64 [(0,219),(1,9),(2,9),(3,220),(4,221),(5,222)] [p0,s0,s0,f0,f0,f0] false) lf (.nd (ld 16 [(0,9)] [s0] true) lf lf)))) (dX (dX (dX lf (.nd (dQ 16 (.iface) j0 true) lf lf)) (.nd (dQ 8 (.func) f0 false) lf lf)) (.nd (dQ 8 (.func) f0 false) lf (.nd (dQ 8 (.func) f0 false) (.nd (dQ 8 (.func) f0 false) lf lf) lf)))) (.nd (dQ 24 (.slice 42) l0 false) (.nd (dQ 24 (.slice 139) l0 false) (dX lf (dX lf (.nd (ld 2 [(0,5),(1,5)] [.int .u8 0,.int .u8 0] true) lf lf))) (dX (dX (.nd (ld 64 [(0,3),(1,9),(2,9),(3,9),(4,3)] [i0,s0,s0,s0,i0] true) lf lf) lf) lf)) (.nd (ld 584 [(0,3),(1,9),(2,42),(4,49),(17,50),(18,4),(19,53),(24,47),(33,54),(34,3),(35,3),(36,3)] [i0,s0,s0,l0,s0,l0,l0,l0,i0,s0,i0,s0,l0,l0,l0,i0,i0,l0,b0,i0,s0,i0,l0,l0,i0,s0,i0,s0,l0,l0,l0,i0,i0,l0,i0,i0,i0] false) (dX lf (dX (.nd (some ⟨26,416,true,.array 26 9,[],(.replicate 26 s0),true⟩) lf lf) (.nd (some ⟨32,32,true,.array 32 5,[],(.replicate 32 (.int .u8 0)),true⟩) lf lf))) (dX (dX (.nd (dQ 8 (.func) f0 false) lf lf) lf) lf)))) (.nd (dQ 8 (.int .u64) (.int .u64 0) true) (.nd (dQ 16 (.iface) j0 true) (dX (dX lf (dX (.nd (dQ 8 (.func) f0 false) lf lf) lf)) (dX (.nd (dQ 24 (.slice 170) l0 false) (.nd (dQ 24 (.slice 509) l0 false) (.nd (dQ 8 (.func) f0 false) lf lf) lf) lf) (.nd (ld 64 [(0,3),(1,9),(2,9),(3,9),(4,3)] [i0,s0,s0,s0,i0] true) lf lf))) (dX (dX (dX (dX (.nd (dQ 8 (.func) f0 false) lf lf) lf) lf) lf) (dX (dX (.nd (dQ 8 (.func) f0 false) lf lf) lf) lf))) (dX (.nd (dQ 24 (.slice 75) l0 false) (.nd (dQ 8 (.func) f0 false) (.nd (dQ 8 (.func) f0 false) lf lf) lf) (.nd (dQ 8 (.map 9 167) (.dP) false) lf lf)) (dX (dX (.nd (dQ 8 (.func) f0 false) (.nd (dQ 24 (.slice 207) l0 false) (.nd (ld 264 [(0,224),(6,9),(7,47),(16,30),(17,30)] [p0,s0,s0,f0,f0,f0,s0,i0,s0,i0,s0,l0,l0,l0,i0,i0,l0,l0] false) lf lf) lf) lf) (.nd (dQ 8 (.func) f0 false) lf lf)) (dX (dX (.nd (dQ 8 (.func) f0 false) lf lf) lf) (dX lf (.nd (ld 120 [(0,9),(1,3),(2,3),(3,9),(4,4),(5,296)] [s0,i0,i0,s0,b0,i0,s0,s0,s0,i0] true) lf lf))))))) (.nd (dQ 1 (.int .u8) (.int .u8 0) true) (.nd (dQ 16 (.string) s0 true) (dX (dX (dX (dX (dX (.nd (dQ 8 (.func) f0 false) lf lf) lf) lf) lf) (dX (dX (.nd (dQ 24 (.slice 508) l0 false) lf lf) lf) (.nd (dQ 8 (.pointer) p0 true) (.nd (dQ 24 (.slice 357) l0 false) lf lf) lf))) (.nd (dQ 24 (.slice 103) l0 false) (.nd (dQ 8 (.pointer) p0 true) lf lf) (dX lf (dX (.nd (ld 72 [(0,226),(1,228)] [p0,i0,s0,s0,s0,i0] true) lf lf) lf)))) (dX (.nd (ld 40 [(0,9),(1,40)] [s0,l0] false) (dX (dX lf (.nd (dQ 8 (.map 3 30) (.dP) false) lf lf)) (dX (.nd (dQ 24 (.slice 4) l0 false) lf lf) lf)) (dX (.nd (ld 48 [(0,9),(1,9),(2,9)] [s0,s0,s0] true) (.nd (dQ 8 (.func) f0 false) lf lf) lf) (.nd (dQ 8 (.func) f0 false) lf lf))) (.nd VP (.nd (dQ 8 (.pointer) p0 true) (.nd (dQ 8 (.func) f0 false) (dX (.nd (dQ 8 (.pointer) p0 true) lf lf) lf) lf) (.nd (dQ 8 (.pointer) p0 true) lf lf)) (.nd (dQ 8 (.func) f0 false) (dX lf (.nd (some ⟨20,160,true,.array 20 416,[],(.replicate 20 (.int .u64 0)),true⟩) lf lf)) (dX (.nd (dQ 8 (.int .u64) (.int .u64 0) true) lf lf) lf))))) (.nd (ld 24 [(0,9),(1,12)] [s0,.int .u64 0] true) (.nd (dQ 24 (.slice 3) l0 false) (dX (dX (dX (dX (.nd (dQ 8 (.pointer) p0 true) lf lf) lf) lf) (.nd (dQ 24 (.slice 347) l0 false) lf (.nd (some ⟨256,256,true,.array 256 5,[],(.replicate 256 (.int .u8 0)),true⟩) lf lf))) (dX (dX (.nd (ld 152 [(0,23),(1,9),(2,9),(3,290),(4,291),(5,65),(6,292)] [l0,s0,s0,l0,l0,l0,l0] false) lf lf) lf) lf)) (.nd (dQ 24 (.slice 87) l0 false) lf (.nd (ld 280 [(0,27),(2,27),(4,35),(14,30)] [l0,l0,l0,l0,i0,s0,s0,s0,l0,i0,i0,s0,l0,l0,l0] false) (dX (.nd (dQ 8 (.func) f0 false) lf lf) lf) lf))) (.nd (dQ 24 (.slice 9) l0 false) (dX (.nd (dQ 8 (.pointer) p0 true) lf lf) (.nd (ld 288 [(0,27),(2,27),(4,35),(14,108),(15,30)] [l0,l0,l0,l0,i0,s0,s0,s0,l0,i0,i0,s0,l0,l0,.dP,l0] false) lf lf)) (dX (dX (.nd (ld 24 [(0,154),(1,155),(2,156)] [f0,f0,f0] false) lf (.nd (dQ 4 (.int .u32) (.int .u32 0) true) lf lf)) (.nd (dQ 8 (.func) f0 false) lf (.nd (dQ 8 (.pointer) p0 true) lf lf))) (dX (dX (.nd (dQ 8 (.func) f0 false) lf lf) (.nd VP lf lf)) (.nd (dQ 24 (.slice 58) l0 false) (.nd (dQ 8 (.func) f0 false) lf lf) lf))))))))
def RQ:U Z:=[⟨#[97,110,100]⟩,⟨#[97,115]⟩,⟨#[99,104,101,99,107]⟩,⟨#[100,101,108,101,116,101]⟩,⟨#[101,108,115,101]⟩,⟨#[102,97,108,115,101]⟩,⟨#[102,117,110]⟩,⟨#[105,102]⟩,⟨#[105,110]⟩,⟨#[105,110,115,101,114,116]⟩,⟨#[107,101,121]⟩,⟨#[108,101,116]⟩,⟨#[109,97,116,99,104]⟩,⟨#[110,111,116]⟩,⟨#[111,114]⟩,⟨#[112,114,111,99]⟩,⟨#[114,101,102]⟩,⟨#[115,101,116]⟩,⟨#[116,97,98,108,101]⟩,⟨#[116,104,101,110]⟩,⟨#[116,111]⟩,⟨#[116,114,117,101]⟩,⟨#[116,121,112,101]⟩,⟨#[117,112,100,97,116,101]⟩,⟨#[119,104,101,114,101]⟩,⟨#[119,105,116,104]⟩]
def Oe:U G:=RQ.map G.str
def aad:(RQ.map G.str).flatMap G.cells=Oe:=rfl
def aaa:((RQ.map G.str).all λy=>Nat.beq y.cells.length 1&&y.cells.all G.eV)=true:=rfl
def ZK:U Z:=[⟨#[61,61]⟩,⟨#[33,61]⟩,⟨#[60,61]⟩,⟨#[60,45]⟩,⟨#[45,62]⟩,⟨#[43,43]⟩,⟨#[60]⟩,⟨#[62]⟩,⟨#[61]⟩,⟨#[43]⟩,⟨#[45]⟩,⟨#[42]⟩,⟨#[40]⟩,⟨#[41]⟩,⟨#[123]⟩,⟨#[125]⟩,⟨#[91]⟩,⟨#[93]⟩,⟨#[44]⟩,⟨#[46]⟩,⟨#[58]⟩,⟨#[124]⟩,⟨#[59]⟩,⟨#[63]⟩]
def gk9:U G:=ZK.map G.str
def anI:Z:=⟨#[48,48,48,49,48,50,48,51,48,52,48,53,48,54,48,55,48,56,48,57,49,48,49,49,49,50,49,51,49,52,49,53,49,54,49,55,49,56,49,57,50,48,50,49,50,50,50,51,50,52,50,53,50,54,50,55,50,56,50,57,51,48,51,49,51,50,51,51,51,52,51,53,51,54,51,55,51,56,51,57,52,48,52,49,52,50,52,51,52,52,52,53,52,54,52,55,52,56,52,57,53,48,53,49,53,50,53,51,53,52,53,53,53,54,53,55,53,56,53,57,54,48,54,49,54,50,54,51,54,52,54,53,54,54,54,55,54,56,54,57,55,48,55,49,55,50,55,51,55,52,55,53,55,54,55,55,55,56,55,57,56,48,56,49,56,50,56,51,56,52,56,53,56,54,56,55,56,56,56,57,57,48,57,49,57,50,57,51,57,52,57,53,57,54,57,55,57,56,57,57]⟩
inductive AR where
 |e (n:Int)
 |b (x:Bool)
def AR.ty:AR->Nat
 |.e _=>58
 |.b _=>4
def AR.val:AR->G
 |.e n=>.int .i64 n
 |.b x=>.bool x
def AR.av(x:AR):G:=.iface x.ty x.val
instance:Pl AR.av:=⟨λx=>by cases x<;>trivial⟩
instance {S}(x:AR):UN S x.av:=⟨by cases x<;>trivial⟩
def AR.eqB:AR->At->At
 |.e _,_=>false
 |.b x,c=>x==c
def agh(x:AR)c:VF tr.find x.av (.iface 4 (.bool c)) (x.eqB c):=by
 cases x with
 |e n=>exact .inl ⟨58,4,_,_,rfl,rfl,by decide,rfl⟩
 |b x=>exact .inr ⟨4,x,c,_,rfl,rfl,rfl,rfl,rfl,rfl⟩
def AR.ZL:AR->T Int
 |.e n=>some n
 |.b _=>none
def af8{x:AR}{n}(h:x.ZL=some n):x.av= .iface 58 (.int .i64 n):=by
 cases x with
 |e m=>simp only[AR.ZL,Hs]at h;subst h;rfl
 |b _=>simp[AR.ZL]at h
def ahc:U G:=[.fn (.func 538) [] [],.any,.any,.fn (.func 541) [] [],.any,.any,.fn (.func 544) [] [],.any,.any,.fn (.func 547) [] [],.any,.any,.fn (.func 550) [] [],.any,.any,.fn (.func 553) [] [],.any,.any,.fn (.func 556) [] [],.any,.any,.fn (.func 559) [] [],.any,.any]
def gE:GE:=λk=>match k with
 |0=>some ahc
 |1=>some Oe
 |9=>some gk9
 |_=>none
def eS:zn Tryz.prog tr.find:=⟨Tr.tt E3,by decide+kernel⟩
end
end Go.Ab
namespace Go.Proofs
section
set_option maxHeartbeats 1000000
set_option maxRecDepth 100000
def aan a b w:
 Calls Tryz.prog 630 #[.string a,.string b] w λe w'=>e= .returned (.int .i64 (Lib.compareBytes a.data.toList b.data.toList))/\w'=w:=by
 go_enter Tryz.func630,Tryz.ntmps630
 go_wp2
 rw[run_callFunc_extern Tryz.func656 (by kernel_rfl) (by kernel_rfl) (by kernel_rfl) (e:=Extern.BytealgCompare.compare) (by kernel_rfl),Lib.run_compareString];simp only[Result.andThen];rw[Oper.upon_value]
 go_wp2
 go_ret
 exact⟨rfl,rfl⟩
def aao s c w:
 Calls Tryz.prog 513 #[.string s,.int .u8 c] w λe w'=>e= .returned (.int .i64 (Lib.indexByte s.data.toList c.toNat.toUInt8))/\w'=w:=by
 go_enter Tryz.func513,Tryz.ntmps513
 go_wp2
 rw[run_callFunc_extern Tryz.func514 (by kernel_rfl) (by kernel_rfl) (by kernel_rfl) (e:=Extern.BytealgIndexByte.indexByte) (by kernel_rfl),Lib.run_indexByteString];simp only[Result.andThen];rw[Oper.upon_value]
 go_wp2
 go_ret
 exact⟨rfl,rfl⟩
end
end Go.Proofs
namespace Go.Ab
section
set_option maxHeartbeats 1000000
set_option maxRecDepth 100000
open Go Go.RowKit Go.Proofs
variable {P:Program}{ge:GE}
def ad5{f}(z:bW P f=true){k}(F:ByteArray->ByteArray->Int)(h:∀a b w,Calls P f #[.string a,.string b] w λe w'=>e= .returned (.int k (F a b))/\w'=w)a b:
 dB P ge f [.str a,.str b] [] [] (.int k (F a b)) []:=by
 refine⟨z,λg fr w vs c r d y=>?_⟩;simp only[VL,ac]at y;obtain⟨_,_,e1,rfl,_,_,e2,rfl,e3⟩:=y;have e:vs=#[.string a,.string b]:=by
  grind
 subst e;refine(h a b w).mono λx w' hx=>?_
 obtain⟨rfl,rfl⟩:=hx;exact⟨_,g,_,_,rfl,AV.Le.refl g,r,by simp only[ac],rfl,rfl⟩
def aeg{f}(c:bW P f=true){k y}(F:ByteArray->Int->Int)(h:∀a b w,Calls P f #[.string a,.int y b] w λe w'=>e= .returned (.int k (F a b))/\w'=w)a b:
 dB P ge f [.str a,.int y b] [] [] (.int k (F a b)) []:=by
 refine⟨c,λg fr w vs d r i z=>?_⟩;simp only[VL,ac]at z;obtain⟨_,_,e1,rfl,_,_,e2,rfl,e3⟩:=z;have e:vs=#[.string a,.int y b]:=by
  grind
 subst e;refine(h a b w).mono λx w' hx=>?_
 obtain⟨rfl,rfl⟩:=hx;exact⟨_,g,_,_,rfl,AV.Le.refl g,r,by simp only[ac],rfl,rfl⟩
end
end Go.Ab
namespace Go.Proofs
set_option maxHeartbeats 4000000 in
set_option maxRecDepth 100000 in
def aap (x:Int) (w:World) (h0:0<=x) (h1:x<=18446744073709551615):
 Calls Tryz.prog 437 #[.int .u64 x] w λe w'=>e= .returned (.int .i64 (Lib.bitLen x.toNat))/\w'=w:=by
 go_enter Tryz.func437,Tryz.ntmps437
 go_wp2
 all_goals(go_ret;refine⟨congrArg Ending.returned (congrArg (Value.int IntKind.i64) ?_),rfl⟩)
 all_goals first
  |(
   rw[Lib.len8_of (x / 4294967296 / 65536 / 256 % 256) (by omega) (by omega)];have e:(x / 4294967296 / 65536 / 256 % 256).toNat=x.toNat / 72057594037927936:=by omega
   have l:=Lib.bitLen_le8' (x / 4294967296 / 65536 / 256 % 256) (by omega) (by omega);have s:=Lib.bitLen_shift56 x.toNat (by omega) (by omega);rw[e]at l |-;omega)
  |(
   rw[Lib.len8_of (x / 4294967296 / 65536 % 256) (by omega) (by omega)];have e:(x / 4294967296 / 65536 % 256).toNat=x.toNat / 281474976710656:=by omega
   have l:=Lib.bitLen_le8' (x / 4294967296 / 65536 % 256) (by omega) (by omega);have s:=Lib.bitLen_shift48 x.toNat (by omega) (by omega);rw[e]at l |-;omega)
  |(
   rw[Lib.len8_of (x / 4294967296 / 256 % 256) (by omega) (by omega)];have e:(x / 4294967296 / 256 % 256).toNat=x.toNat / 1099511627776:=by omega
   have l:=Lib.bitLen_le8' (x / 4294967296 / 256 % 256) (by omega) (by omega);have s:=Lib.bitLen_shift40 x.toNat (by omega) (by omega);rw[e]at l |-;omega)
  |(
   rw[Lib.len8_of (x / 4294967296 % 256) (by omega) (by omega)];have e:(x / 4294967296 % 256).toNat=x.toNat / 4294967296:=by omega
   have l:=Lib.bitLen_le8' (x / 4294967296 % 256) (by omega) (by omega);have s:=Lib.bitLen_shift32 x.toNat (by omega) (by omega);rw[e]at l |-;omega)
  |(
   rw[Lib.len8_of (x / 65536 / 256 % 256) (by omega) (by omega)];have e:(x / 65536 / 256 % 256).toNat=x.toNat / 16777216:=by omega
   have l:=Lib.bitLen_le8' (x / 65536 / 256 % 256) (by omega) (by omega);have s:=Lib.bitLen_shift24 x.toNat (by omega) (by omega);rw[e]at l |-;omega)
  |(
   rw[Lib.len8_of (x / 65536 % 256) (by omega) (by omega)];have e:(x / 65536 % 256).toNat=x.toNat / 65536:=by omega
   have l:=Lib.bitLen_le8' (x / 65536 % 256) (by omega) (by omega);have s:=Lib.bitLen_shift16 x.toNat (by omega) (by omega);rw[e]at l |-;omega)
  |(
   rw[Lib.len8_of (x / 256 % 256) (by omega) (by omega)];have e:(x / 256 % 256).toNat=x.toNat / 256:=by omega
   have l:=Lib.bitLen_le8' (x / 256 % 256) (by omega) (by omega);have s:=Lib.bitLen_shift8 x.toNat (by omega) (by omega);rw[e]at l |-;omega)
  |(
   rw[Lib.len8_of (x % 256) (by omega) (by omega)];have e:(x % 256).toNat=x.toNat:=by omega
   have l:=Lib.bitLen_le8' (x % 256) (by omega) (by omega);rw[e]at l |-;omega)
end Go.Proofs
namespace Go.Ab
section
open Go Go.RowKit Go.Proofs
variable {P:Program}{ge:GE}
def aeh{f}(b:bW P f=true){k y}(F:Int->Int)(C:Int->Prop)(h:∀a w,C a->Calls P f #[.int y a] w λe w'=>e= .returned (.int k (F a))/\w'=w)a(c:C a):
 dB P ge f [.int y a] [] [] (.int k (F a)) []:=by
 refine⟨b,λg fr w vs d r i z=>?_⟩;simp only[VL,ac]at z;obtain⟨_,_,e1,rfl,e3⟩:=z;have e:vs=#[.int y a]:=by
  grind
 subst e;refine(h a w c).mono λx w' hx=>?_
 obtain⟨rfl,rfl⟩:=hx;exact⟨_,g,_,_,rfl,AV.Le.refl g,r,by simp only[ac],rfl,rfl⟩
end
section
variable {P:Program}{ge:GE}{N b:Nat}{tm:Tm}{l:HL}{ti:Nat->T TE}
def od{j sz n n'}(h:n'=n):Sub (.ms j sz n) (.ms j sz n'):=h▸ .refl _
def vw{q sz i xs}(hq:lk l q=some (.bD sz xs)){g fr w}(j:AF 1 fr)(r:gh g w (aN l) fr)(m:i<=xs.length){a cap}(n:xs≠ []->a=(g.tl q).a/\cap=(g.tl q).cap)(y:i<=cap/\i<=4611686018427387904)(c:a=none->cap=0)(d:∀x∈a,x.spot=none):
 ∃g',AV.Le g g'/\gh g' w (aN (((1,nx 0 l),.bD sz (xs.take i))::dp q (.bD sz []) l)) fr/\ac g' (.ms (1,nx 0 l) sz i) (.slice a i cap):=by
 have b:=hE l 0 1 _ (Hq _);rw[<-cQ]at hq;have f:=cm b (nU j _);obtain⟨o,p,k,s⟩:=r.rel.wd (aK hq) f m n y c d;have z:aN (dp q (.bD sz []) l) (1,nx 0 l)=none:=by
  rw[<-bx,aZ _ _ (λe=>by rw[e]at b;rw[b]at hq;simp at hq)];exact b
 rw[bz,bz,bx,bq z]at k;refine⟨o,p,⟨k,?_⟩,s⟩;rw[<-bq z,<-bx];exact(r.cM.fW hq).cW (nU j _)
def ur t m{q sz i n xs}(h:get tm t= .sub q sz 0 i n)(hq:lk l q=some (.bD sz xs))(j:xs.length=n)(o:nx 0 l=m):
 Wk 1 N tm (aN l) ((t,.ms (1,m) sz i)::tm) (aN (((1,m),.bD sz (xs.take i))::dp q (.bD sz []) l)):=by
 subst o j;intro g fr w tmps p r v;have y:=v.2 t;rw[h]at y;simp only[ac]at y;obtain⟨d,K,L,a,cap,e1,s,z,P,b,Q,u⟩:=y;have x:=hq;rw[<-cQ]at x;obtain⟨A,f,C,D⟩:=vw hq p r (i:=i) B9 (a:=a) (cap:=cap) (λc=>by
  obtain⟨_,_,_,_,_,_,o4,_⟩:=r.rel.fR q _ (aK x) c;exact u o4 trivial) ⟨s.1,by omega⟩ z b
 refine⟨A,f.some _,C,v.1,λk=>?_⟩;rw[ff];split
 .rename_i e;subst e;rw[e1];exact D
 .exact ac.mono f _ _ (v.2 k)
def rn t m{q sz n xs}(h:get tm t= .ms q sz n)(hq:lk l q=some (.bD sz xs))(j:xs.length=n)(o:nx 0 l=m):
 Wk 1 N tm (aN l) ((t,.ms (1,m) sz n)::tm) (aN (((1,m),.bD sz (xs.take n))::dp q (.bD sz []) l)):=by
 subst o j;intro g fr w tmps p r v;have y:=v.2 t;rw[h]at y;simp only[ac]at y;obtain⟨d,a,cap,e1,s,z,K,b,_,L,u⟩:=y;have x:=hq;rw[<-cQ]at x;obtain⟨A,f,C,D⟩:=vw hq p r (i:=xs.length) (Hq _) (a:=a) (cap:=cap) (λc=>by
  obtain⟨_,_,_,_,_,_,o4,_⟩:=r.rel.fR q _ (aK x) c;exact u o4) s z b
 refine⟨A,f.some _,C,v.1,λk=>?_⟩;rw[ff];split
 .rename_i e;subst e;rw[e1];exact D
 .exact ac.mono f _ _ (v.2 k)
def zv a c q o:∀l,(dp q o l).map (λp=>(swap a c p.1,p.2.bm (swap a c)))=dp (swap a c q) (o.bm (swap a c)) (l.map (λp=>(swap a c p.1,p.2.bm (swap a c))))
 | []=>rfl
 |(i,p)::l=>by
  by_cases e:i=q
  .subst e;simp[dp]
  .have x:swap a c i≠swap a c q:=λh=>e (by rw[<-iE a c i,h,iE])
   simp[dp,e,x,zv a c q o l]
section
instance (a c q:Nm)o o' l l'[h:UZ a c o o'][r:U0 a c l l']:U0 a c (dp q o l) (dp (QD a c q) o' l'):=⟨by rw[zv,h.out,r.out,qi]⟩
instance (S:U Nm)n xs[h:eL S xs]:eL S (xs.take n):=⟨eP.2 λy x=>eP.1 h.out y (LA x)⟩
end
def lE{x}f{xs:U x}{sz}(e:xs.map f=[]):jk (.bD sz []) (.bD sz (xs.map f)):=e▸ .refl _
def ko{x}(f:x->G){xs:U x}{sz j}(e:xs.map f=[]):Sub (.ms j sz 0) (.ms j sz ((xs.map f).length)):=by rw[e];exact .refl _
def aaW{n w u}(h:ck n w=some u):n*w<=140737488355328:=by
 unfold ck at h
 grind
def eI{x}f(xs:U x)n:bF ((xs.map f).take n) ((xs.take n).map f):=by rw[MC];exact .refl _
def zw{x y}(h:Sub x y):∀n{xs ys},bF xs ys->bF (List.replicate n x++xs) (List.replicate n y++ys)
 |0,_,_,k=>k
 |n+1,_,_,k=>.cons h (zw h n k)
def zy:∀x{xs ys},bF xs ys->bF (x++xs) (x++ys)
 | [],_,_,k=>k
 |z::x,_,_,k=>.cons (.refl z) (zy x k)
def F7{x f}{xs:U x}{lo n y z}(h:Sub y (f z)):
 bF ((xs.map f).take lo++List.replicate n y++(xs.map f).drop (lo+n)) ((xs.take lo++List.replicate n z++xs.drop (lo+n)).map f):=by
 simp only[HO,MC,NH,List.map_replicate,MI];exact zy _ (zw h n (.refl _))
def aa2{x}(f:x->G)(xs:U x)i lo m:(xs.map f).take i++((xs.map f).drop lo).take m++(xs.map f).drop (i+m)=(xs.take i++(xs.drop lo).take m++xs.drop (i+m)).map f:=by simp
end
end Go.Ab

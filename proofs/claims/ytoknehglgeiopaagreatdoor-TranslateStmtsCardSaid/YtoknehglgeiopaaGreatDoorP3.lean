/- Plain laws. -/
import Derived.Test.YtoknehglgeiopaaGreatDoorP2
set_option linter.all false
set_option maxRecDepth 1000000
set_option maxHeartbeats 20000000
open Go Go.RowKit Go.Proofs
namespace Go.Ab
def dx{d e}(h:∀k∈e.au,dE d k):dE (d+1) e:=h
def dn{d}:∀k∈([]:U J),dE d k:=λ_ h=>by simp at h
def dc{d a l}(h:dE d a)(t:∀k∈l,dE d k):∀k∈a::l,dE d k:=λk hk=>by
 rcases BV.1 hk with rfl|hk
 .exact h
 .exact t k hk
def Ut{d k n}:dE (d+1) (cw k n):=dx dn
def Jx{d k n m}:dE (d+2) (bL k n [cw 3 m]):=dx (dc Ut dn)
def aeZ{d j o r}:dE (d+3) (jC j o r):=dx (dc Jx (dc Jx dn))
def ahg{d js l r}:∀k∈Vk js l r,dE (d+3) k:=λk x=>by
 obtain⟨p,_,hp⟩:=List.mem_flatMap.1 x;exact dc Ut (dc aeZ dn) k hp
def wB.dE:{d:Nat}->{e:J}->wB d e->dE d e
 |0,_,h=>h.elim
 |d+1,e,h=>λk x=>(h.2.2.2.2.2 k x).dE
def wB.pos{d e}(h:wB d e):1<=d:=by cases d;exact h.elim;omega
def Od(n:Nat):((n:Int)==0)=(n==0):=by rw[Vj];cases n<;>rfl
def sC{gw m w n nm v}(i:VS w n v)(hu:gw.eJ=w.u)(C:w.u.length<=16)(j:∀x∈w.u,x∈L0)(o:nm∈L0){d c}(h:wB d c)(D:vK d c)(K:vN d c)(hd:d<=1000):
 ∃e,mu gw m v nm c=some e/\oH w n nm c=some e/\dE (d+8) e:=by
 obtain⟨f,L,N,f3⟩:=ahi h D K hd;have f4:=f3.len;have Rd:=i.Rd;obtain⟨l,Q,X,p⟩:=partners i (u:=w.u++[nm]++f) (u':=w.u++[nm]++f) (λ_=>rfl) Ar (λx hx=>by
  simp only[Hy,M6]at hx;rcases hx with(hx|rfl)|hx
  .exact j x hx
  .exact o
  .exact f3.2 x hx) Ar
 obtain⟨b,r1,r2,r3⟩:=i.np nm l p;obtain⟨j1,j2⟩:=aie i (e:=bL 11 nm [b,c]) (r:=nm) p;refine⟨cond (v.bK.length==0) (bL 11 nm [b,c]) (bL 4 m5 [ip 10 (Hj l) (bL 11 nm [b,c]::Vk v.bK l nm)]),cF ?_,cF ?_,?_⟩
 .unfold mu;refine ct (P:=λr=>r=f) ⟨_,L,rfl⟩ λq hq=>?_
  subst hq;refine ct (G3 NP (by simp[hu];omega)) λA y=>?_
  have e1:A=w.u++[nm]++q:=by rw[y,hu];simp
  subst e1;refine ct (P:=λr=>r=l) ⟨_,Q,rfl⟩ λg z=>?_
  subst z;refine ct (P:=λr=>r=b) ⟨_,r1,rfl⟩ λs a=>?_
  subst a;have e2:(Ks v.bK==0)=(v.bK.length==0):=by
   simp only[Ks,CU,B7];exact Od _
  rw[e2];refine cZ (λc=>bb CE) λc=>?_
  rw[c];exact ct (P:=λr=>r=ip 10 (Hj g) (bL 11 nm [s,_]::Vk v.bK g nm)) ⟨_,j1,rfl⟩ λq hq=>bb (by rw[hq];rfl)
 .unfold oH;refine ct (nY B9 NP) λq0 t=>?_
  subst t;refine ct (P:=λr=>r=f) ⟨_,N,rfl⟩ λq hq=>?_
  subst hq;refine ct (nY Ar B9) λA y=>?_
  subst y;refine ct (P:=λr=>r=l) ⟨_,X,rfl⟩ λg z=>?_
  subst z;refine ct (P:=λr=>r=b) ⟨_,r2,rfl⟩ λs a=>?_
  subst a;have e2:(gL g==0)=(v.bK.length==0):=by
   simp only[gL,CU,B7,p];exact Od _
  rw[e2];refine cZ (λc=>bb CE) λc=>?_
  rw[c];exact ct (P:=λr=>r=ip 10 (Hj g) (bL 11 nm [s,_]::Vk v.bK g nm)) ⟨_,j2,rfl⟩ λq hq=>bb (by rw[hq];rfl)
 .have hp:=h.pos;have q:∀k,dE (d+5+k) (bL 11 nm [b,c]):=λk=>(show dE (d+4+1) _ from dx (dc (r3.dE.le B9) (dc (h.dE.le B9) dn))).le B9
  cases v.bK.length==0
  .exact dx (dc (dx (dc (q 1) ahg)) dn)
  .exact q 3
def Qe{s n t}(h:iC s n=some (t,true))(j:t.ae.length<=1000)(k:t.key.length<=1000)(l:t.aX.length<=1000):wX s n=some (t,true):=by
 have e:wW s.an n=some (t,true):=h;refine cF ?_;unfold wX;refine ct (P:=λr=>r=(t,true)) ⟨_,e,rfl⟩ λr x=>?_
 subst x
 show AU ((zR t.ae).b λy=>(qm t.key).b λz=>(zT t.aX).b λd=>some ((V.mk t.name y z d t.aH),true)) _
 refine ct (P:=λr=>r=t.ae) (by unfold zR;exact eT Ar (bb NP)) λa f=>?_
 refine ct (P:=λr=>r=t.key) (by unfold qm;exact eT Ar (bb NP)) λb g=>?_
 refine ct (P:=λr=>r=t.aX) (by unfold zT;exact eT Ar (bb NP)) λc i=>?_
 subst f g i;exact bb rfl
def pS(x:GStep)(n q:Z)(c:Z):J:=
 if bg n x.ai=true then
  if x.ah=1/\bg c x.name=true then bL 8 x.ar [cw 3 q]
  else if x.ah=2/\bg c x.ar=true then(jN 1000000 x.default).getD eK
  else if x.ah=6/\bg c x.ar=true then bL 12 bk [bL 8 c [cw 3 q],cw 5 (x.ae.getD 1 bk),cw 5 (x.ae.getD 0 bk)]
  else bL 8 c [cw 3 q]
 else bL 8 c [cw 3 q]
def aop{x n q c}(hd:x.ah=2->dE 4 ((jN 1000000 x.default).getD eK)):dE 5 (pS x n q c):=by
 unfold pS;split
 .split
  .exact Jx
  .split
   .rename_i h;exact(hd h.1).mono
   .split
    .exact dx (dc Jx (dc Ut (dc Ut dn)))
    .exact Jx
 .exact Jx
def yw{x n q}{t:V}{A}(hd:x.ah=2->dE 4 ((jN 1000000 x.default).getD eK)):dE 6 (ip 6 A (t.ae.map λc=>pS x n q c.name)):=dx λk y=>by
 obtain⟨c,_,rfl⟩:=Hr.1 y;exact aop hd
def tX{gw m w n q}(hx:gw.x=w.x){t y}(h:iC gw.yG n=some (t,true))(X:iC w.yG n=some (y,true))(g:t.ae.map (·.name)=y.ae.map (·.name))(N:t.ae.length<=1000)(h2:t.key.length<=1000)(h3:t.aX.length<=1000)(hd:w.x.ah=2->Gw w.x.default=some ((jN 1000000 w.x.default).getD eK)/\jN 1000000 w.x.default=some ((jN 1000000 w.x.default).getD eK))(h6:w.x.ah=6->2<=w.x.ae.length):
 kc gw m n q=some (ip 6 (t.ae.map (·.name)) (t.ae.map λc=>pS w.x n q c.name))/\GQ w n q=some (ip 6 (t.ae.map (·.name)) (t.ae.map λc=>pS w.x n q c.name)):=by
 have Q:w.x.ah=6->aA w.x.ae 0=some (w.x.ae.getD 0 bk)/\aA w.x.ae 1=some (w.x.ae.getD 1 bk):=λk=>by
  have:=h6 k
  match p:w.x.ae,this with
  |a::b::r,_=>exact⟨rfl,rfl⟩
 refine⟨cF ?_,cF ?_⟩
 .unfold kc;refine ct (P:=λr=>r=(t,true)) ⟨_,Qe h N h2 h3,rfl⟩ λr i=>?_
  subst i;refine ct (P:=λr=>r=ip 6 (t.ae.map (·.name)) (t.ae.map λc=>pS w.x n q c.name)) ?_ λr i=>bb i
  unfold xL;refine fB (λj(s:U Z×U J)=>s=((t.ae.take j).map (·.name),(t.ae.take j).map λc=>pS w.x n q c.name)) rfl (λj c s p hm hj l=>?_) λs l=>bb (by rw[l,Gq])
  subst l;dsimp only;refine eT Ar ?_;refine ct (P:=λr=>r=pS w.x n q c.name) ?_ λr i=>eT Ar (bb ?_)
  .unfold xK pS;rw[hx];by_cases hA:bg n w.x.ai=true
   .by_cases k1:w.x.ah=1
    .cases e1:bg c.name w.x.name<;>simp[hA,k1,e1,AU,Y]
    .by_cases d:w.x.ah=2
     .have:=(hd d).1;cases e1:bg c.name w.x.ar<;>simp[hA,d,e1,AU,Y,this]
     .by_cases f:w.x.ah=6
      .obtain⟨u,v⟩:=Q f;cases e1:bg c.name w.x.ar<;>simp[hA,f,e1,AU,Y,u,v]
      .have C:(w.x.ah==1)=false:=by simp[k1]
       have D:(w.x.ah==2)=false:=by simp[d]
       have L:(w.x.ah==6)=false:=by simp[f]
       simp[hA,k1,d,f,C,D,L,AU,Y]
   .simp[hA,AU,Y]
  .subst i
   show _=_
   rw[G6,p];simp
 .have key:ip 6 (t.ae.map (·.name)) (t.ae.map λc=>pS w.x n q c.name)=ip 6 (y.ae.map (·.name)) (y.ae.map λc=>pS w.x n q c.name):=by
   have:=JV (List.map (pS w.x n q)) g;simp only[JD]at this;rw[g];exact JV _ this
  rw[key];have N:y.ae.length<=1000:=by have:=JV List.length g;simp only[B7]at this;omega
  unfold GQ;refine ct (P:=λr=>r=(y,true)) ⟨_,X,rfl⟩ λr i=>?_
  subst i;refine fB (λj(s:U Z×U J)=>s=((y.ae.take j).map (·.name),(y.ae.take j).map λc=>pS w.x n q c.name)) rfl (λj c s p hm hj l=>?_) λs l=>bb (by rw[l,Gq])
  subst l;dsimp only;have dG:∀e:J,e=pS w.x n q c.name->((y.ae.take j).map (·.name)++[c.name],(y.ae.take j).map (λc=>pS w.x n q c.name)++[e])=((y.ae.take (j+1)).map (·.name),(y.ae.take (j+1)).map λc=>pS w.x n q c.name):=λe he=>by
   rw[G6,p,he];simp
  refine⟨.inl ((y.ae.take j).map (·.name)++[c.name],(y.ae.take j).map (λc=>pS w.x n q c.name)++[pS w.x n q c.name]),?_,dG _ rfl⟩;have l1:((y.ae.take j).map (·.name)).length<=1000:=by simp;omega
  have l2:((y.ae.take j).map (λc=>pS w.x n q c.name)).length<=1000:=by simp;omega
  clear dG;generalize (y.ae.take j).map (λc=>pS w.x n q c.name)=K at l2 |-;generalize (y.ae.take j).map (·.name)=A at l1 |-;have c1:ck (A.length+1) 16=some ():=by unfold ck;rw[BX B9]
  have o:ck (K.length+1) 136=some ():=by unfold ck;rw[BX B9]
  by_cases hA:bg n w.x.ai=true
  .by_cases k1:w.x.ah=1
   .cases e1:bg c.name w.x.name<;>simp[pS,hA,k1,e1,Y,c1,o]
   .by_cases d:w.x.ah=2
    .have:=(hd d).2;cases e1:bg c.name w.x.ar
     .simp[pS,hA,d,e1,Y,c1,o]
     .rw[this];simp[pS,hA,d,e1,Y,c1,o];generalize (jN 1000000 w.x.default).getD eK=z;cases z;rfl
    .by_cases f:w.x.ah=6
     .obtain⟨u,v⟩:=Q f;cases e1:bg c.name w.x.ar<;>simp[pS,hA,f,e1,Y,u,v,c1,o]
     .have C:(w.x.ah==1)=false:=by simp[k1]
      have D:(w.x.ah==2)=false:=by simp[d]
      have L:(w.x.ah==6)=false:=by simp[f]
      simp[pS,hA,k1,d,f,C,D,L,Y,c1,o]
  .simp[pS,hA,Y,c1,o]
def Aj:U Z:=[Be,Ik,yH,Il,m5,Im]
def agy:∀{d n n' e},dE d e->3*d<=n->d<=n'->∃b,Gx n e=some b/\yg n' e=some b
 |0,_,_,_,h,_,_=>h.elim
 |d+1,n+3,n'+1,e,h,L,A=>by
  let B:J->At:=λk=>(yg n' k).getD false
  have w:∀k∈e.au,Gx n k=some (B k)/\yg n' k=some (B k):=λk C=>by
   obtain⟨b,o,m⟩:=agy (h k C) (by omega:3*d<=n) (by omega:d<=n');have:B k=b:=by simp only[B,m,Kj]
   rw[this];exact⟨o,m⟩
  have any:∀{γ:Type}{f:At->T At},AU ((bo (λ(N:Nat)(D:J)=>λ(_:Unit)=>((yg n' D).b λp=>Y p (ir (.inr true)) (il ()):T (Unit⊕(Unit⊕At)))) (λ_=>()) 0 e.au ()).j λ_=>some false) λr=>r=e.au.any B:=λ{γ f}=>by
   refine fB (λj _=>(e.au.take j).any B=false) rfl (λj y s q g K z=>?_) λs z=>bb (by rw[Gq]at z;rw[z])
   refine ct (P:=λr=>r=B y) ⟨_,(w y g).2,rfl⟩ λv x=>?_
   subst x;refine cZ (λc=>bb (bb (It.2 ⟨y,g,c⟩).symm)) λc=>bb ?_
   show(e.au.take (j+1)).any B=false
   rw[G6,q,KW,z];simp[c]
  have au:AU (rZ (n+2) e.au) λr=>r=e.au.any B:=by
   unfold rZ;refine ct (P:=λr=>decide (r>=0)=e.au.any B) ?_ λv x=>bb x
   unfold xN;refine fB (λj _=>(e.au.take j).any B=false) rfl (λj y s q g K z=>?_) λs z=>bb (by rw[Gq]at z;rw[z];rfl)
   refine ct (P:=λr=>r=B y) ⟨_,(w y g).1,rfl⟩ λv x=>?_
   subst x;refine cZ (λc=>bb (bb ?_)) λc=>bb ?_
   .rw[It.2 ⟨y,g,c⟩];simp
   .show(e.au.take (j+1)).any B=false
    rw[G6,q,KW,z];simp[c]
  refine⟨((e.ah==4)&& !(jf e.s&&aJ Aj e.name))||e.au.any B,cF ?_,cF ?_⟩
  .unfold Gx;refine ct (P:=λr=>r=(jf e.s&&aJ Aj e.name)) (cZ (λc=>ct (Ra _ _) λv x=>bb (by rw[x];show _=(bg e.s bk&&_);rw[c];rfl)) λc=>bb (by show _=(bg e.s bk&&_);rw[c];rfl)) λa i=>?_
   subst i;refine ct (P:=λr=>r=((e.ah==4)&& !(jf e.s&&aJ Aj e.name))) (cZ (λc=>bb CE) λc=>bb CE) λa i=>?_
   subst i;refine ct (P:=λr=>r=(((e.ah==4)&& !(jf e.s&&aJ Aj e.name))||e.au.any B)) (cZ (λc=>bb CE) λc=>ct au λv x=>bb (by rw[c,x];rfl)) λa i=>bb i
  .unfold yg;refine cZ (λc=>?_) λc=>?_
   .rw[c];refine cZ (λt=>bb ?_) λt=>ct (P2 _ _) λv x=>cZ (λl=>bb ?_) λl=>(any (γ:=Unit) (f:=some)).mono λr u=>?_
    .have:jf e.s=false:=by show bg e.s bk=false;simpa using t
     rw[this];rfl
    .rw[x]at l;have:aJ Aj e.name=false:=by simpa[Aj]using l
     rw[this];cases jf e.s<;>rfl
    .rw[x]at l;have o:aJ Aj e.name=true:=by simpa[Aj]using l
     have m:jf e.s=true:=by show bg e.s bk=true;simpa using t
     rw[u,o,m];rfl
   .rw[c];exact(any (γ:=Unit) (f:=some)).mono λr u=>by rw[u];rfl
 |d+1,0,_,_,_,h,_=>absurd h B9
 |d+1,1,_,_,_,h,_=>absurd h B9
 |d+1,2,_,_,_,h,_=>absurd h B9
 |d+1,_,0,_,_,_,h=>absurd h B9
structure WR(gw:ax)(m:List (ByteArray×aB))(w:aL):Prop where
 x:gw.x=w.x
 gj:gw.gj=w.gj
 eJ:gw.eJ=w.u
 ul:w.u.length<=16
 uL:∀x∈w.u,x∈L0
 vs:∀n,(cv m n=none/\oS w n=some false)\/∃v,cv m n=some v/\oS w n=some true/\VS w n v
 two:w.x.ah=2->∃v,cv m w.x.ai=some v/\VS w w.x.ai v/\v.bK=[]
 hd:w.x.ah=2->Gw w.x.default=some ((jN 1000000 w.x.default).getD eK)/\jN 1000000 w.x.default=some ((jN 1000000 w.x.default).getD eK)
 hD:w.x.ah=2->dE 4 ((jN 1000000 w.x.default).getD eK)
 h6:w.x.ah=6->2<=w.x.ae.length
 fT:w.x.ah≠0->nT gw w w.x.ai
 k4:w.x.ah≠4
 oT:∃t,iC w.gj w.x.ai=some (t,true)/\(t.ae.length<=1000/\t.key.length<=1000/\t.aX.length<=1000)/\∃k0,aA t.key 0=some k0
 fN:w.x.ah=3->nT gw w w.x.name
def sE(e:J):Prop:=wB 20 e/\vK 20 e/\vN 20 e
def sE.oU{e}(h:sE e):∃r,m7 e=some r/\qT e=some r/\Jv r/\r.length<=98:=by
 obtain⟨r,y,z,x⟩:=ahi h.1 h.2.1 h.2.2 VQ;exact⟨r,y,z,x,x.len⟩
def fa{y:Type}{p:y->Prop}{a b:U y}(h:∀x∈a,p x)(k:∀x∈b,p x):∀x∈a++b,p x:=List.forall_mem_append.2 ⟨h,k⟩
def dR(r:U aC×Int):Prop:=r.1.length<=2/\∀s∈r.1,dE 30 s.cond/\dE 30 s.value
def mG{n}:dR ([],n):=⟨by simp,λs h=>by simp at h⟩
def uq{s l n}(h:dE 30 s.cond)(y:dE 30 s.value)(t:dR (l,n))(z:l.length<=1:=by simp):dR (s::l,n):=⟨by simp;omega,λx hx=>by
 rcases BV.1 hx with rfl|hx
 .exact⟨h,y⟩
 .exact t.2 x hx⟩
def Fv{b x y}(hx:dR x)(z:dR y):dR (bif b then x else y):=by cases b<;>assumption
def dZ{d}:dE (d+1) eK:=dx dn
def sE.dE{e:J}(h:sE e):dE 20 e:=h.1.dE
def fP l n:lj l n=some (aJ l n):=cF (Ra l n)
def avo{gw m w}(y:WR gw m w)(h0:w.x.ah≠0){a}(hp1:a.length<=20)(hp0:∀x∈a,x∈L0){s e}(hs:sE s.value)(he:sE e)(hsc:dE 30 s.cond):
 ∃r,gU gw m a s e=some r/\tN w a s e=some r/\dR r:=by
 obtain⟨f,D,K,f4,f3⟩:=he.oU;obtain⟨g,N,P,_,g3⟩:=hs.oU;have hul:=y.ul;obtain⟨q,d,i,_⟩:=qD qC (l:=w.u++a++f) (l':=w.u++a++f) L0 VQ (fa (fa y.uL hp0) f4.2) λ_=>rfl
 obtain⟨b4,c1,Q⟩:=agy hs.1.dE (by decide:3*20<=1000000) (by decide:20<=1000000);obtain⟨t,t',ht,ht',tc,t1,t2,t3⟩:=y.fT h0;obtain⟨j,k⟩:=tX (m:=m) (q:=q) y.x ht ht' tc t1 t2 t3 y.hd y.h6;have r3:=yw (n:=w.x.ai) (q:=q) (t:=t) (A:=t.ae.map (·.name)) y.hD;generalize ip 6 (t.ae.map (·.name)) (t.ae.map λc=>pS w.x w.x.ai q c.name)=fe at j k r3;have de:=he.dE;have dq:dE 30 (bL 11 q [e,fe]):=dx (dc (de.le VQ) (dc (r3.le VQ) dn));have o:pp [w.u,a,f]=some (w.u++a++f):=cF ((G3 NP Ar).mono λr hr=>by rw[hr];simp);have X:gu w.u a=some (w.u++a):=cF (nY B9 B9);have p:gu (w.u++a) f=some (w.u++a++f):=cF (nY Ar B9);obtain⟨i19,z1,z1'⟩:=P2 g w.x.ai;obtain⟨i21,z2,z2'⟩:=P2 a w.x.ai;have b:decide (i19>=0)=aJ g w.x.ai:=by
  cases z:aJ g w.x.ai<;>simp[z]at z1' ⊢<;>omega
 have y2:decide (i21<0)= !aJ a w.x.ai:=z2';generalize w.u++a++f=L at d i o p;by_cases k1:w.x.ah=1
 .refine⟨([(aC.mk 0 w.x.ai bk eK (bL 11 q [e,fe]) 0 0)],0),?_,?_,uq dZ dq mG⟩
  .cases b4<;>cases z:aJ g w.x.ai<;>simp[gU,y.x,y.eJ,D,o,d,c1,j,N,fP,Y,k1,z]
  .cases b4<;>cases z:aJ g w.x.ai<;>rw[z]at b<;>simp[tN,K,X,p,i,Q,k,P,z1,z2,b,Y,k1]
 by_cases k6:w.x.ah=6
 .refine⟨([(aC.mk 0 w.x.ai bk eK (bL 11 q [e,fe]) 0 0)],0),?_,?_,uq dZ dq mG⟩
  .cases b4<;>cases z:aJ g w.x.ai<;>simp[gU,y.x,y.eJ,D,o,d,c1,j,N,fP,Y,k6,z]
  .cases b4<;>cases z:aJ g w.x.ai<;>rw[z]at b<;>simp[tN,K,X,p,i,Q,k,P,z1,z2,b,Y,k6]
 by_cases k5:w.x.ah=5
 .refine⟨([(aC.mk 0 w.x.name bk eK (ip 6 [w.x.ar] [(bL 8 w.x.ar [e])]) 0 0),{s with value:=e}],0),?_,?_,uq dZ (dx (dc (dx (dc (de.le VQ) dn)) dn)) (uq hsc (de.le VQ) mG)⟩
  .cases b4<;>cases z:aJ g w.x.ai<;>simp[gU,y.x,y.eJ,D,o,d,c1,j,N,fP,Y,k5,z]
  .cases b4<;>cases z:aJ g w.x.ai<;>rw[z]at b<;>simp[tN,K,X,p,i,Q,k,P,z1,z2,b,Y,k5]
 by_cases k2:w.x.ah=2
 .obtain⟨v,v1,v2,v3⟩:=y.two k2;obtain⟨ro,ro1,ro2,ro3⟩:=v2.np q [] (by rw[v3];rfl);refine⟨bif !(b4||(aJ g w.x.ai&& !aJ a w.x.ai))then([(aC.mk 1 w.x.ai q (bL 14 jT [ro,e]) eK 0 0),(aC.mk 0 w.x.ai bk eK (bL 11 q [e,fe]) 0 0)],0)else([],23),?_,?_,Fv (uq (dx (dc (ro3.dE.le VQ) (dc (de.le VQ) dn))) dZ (uq dZ dq mG)) mG⟩
  .cases b4<;>cases z:aJ g w.x.ai<;>cases C:aJ a w.x.ai<;>simp[gU,y.x,y.eJ,D,o,d,c1,j,N,fP,Y,k2,z,C,v1,ro1]
  .cases b4<;>cases z:aJ g w.x.ai<;>cases C:aJ a w.x.ai<;>rw[z]at b<;>rw[C]at y2<;>simp[tN,K,X,p,i,Q,k,P,z1,z2,b,y2,Y,k2,ro2]
 by_cases k3:w.x.ah=3
 .obtain⟨u,u',hu,hu',uc,u1,u2,u3⟩:=y.fN k3;obtain⟨n1,n2⟩:=tX (m:=m) (q:=q) y.x hu hu' uc u1 u2 u3 y.hd y.h6;have n3:=yw (n:=w.x.name) (q:=q) (t:=u) (A:=u.ae.map (·.name)) y.hD;generalize ip 6 (u.ae.map (·.name)) (u.ae.map λc=>pS w.x w.x.name q c.name)=fn at n1 n2 n3;refine⟨bif !(b4||(aJ g w.x.ai&& !aJ a w.x.ai))then([(aC.mk 0 w.x.ai bk eK (bL 11 q [e,fe]) 0 0),(aC.mk 0 w.x.name bk eK (bL 11 q [e,fn]) 0 0)],0)else([],23),?_,?_,Fv (uq dZ dq (uq dZ (dx (dc (de.le VQ) (dc (n3.le VQ) dn))) mG)) mG⟩
  .cases b4<;>cases z:aJ g w.x.ai<;>cases C:aJ a w.x.ai<;>simp[gU,y.x,y.eJ,D,o,d,c1,j,N,fP,Y,k3,z,C,n1]
  .cases b4<;>cases z:aJ g w.x.ai<;>cases C:aJ a w.x.ai<;>rw[z]at b<;>rw[C]at y2<;>simp[tN,K,X,p,i,Q,k,P,z1,z2,b,y2,Y,k3,n2]
 have b1:(w.x.ah==1)=false:=by simp[k1]
 have b2:(w.x.ah==2)=false:=by simp[k2]
 have b3:(w.x.ah==3)=false:=by simp[k3]
 have b5:(w.x.ah==5)=false:=by simp[k5]
 have b6:(w.x.ah==6)=false:=by simp[k6]
 refine⟨([],23),?_,?_,mG⟩
 .cases b4<;>cases z:aJ g w.x.ai<;>simp[gU,y.x,y.eJ,D,o,d,c1,j,N,fP,Y,b1,b2,b3,b5,b6,z]
 .cases b4<;>cases z:aJ g w.x.ai<;>rw[z]at b<;>simp[tN,K,X,p,i,Q,k,P,z1,z2,b,Y,b1,b2,b3,b5,b6]
def kK{l}(h:l.length<=100000):fF l=some l:=cF akw
def og{n b}(h:n*b<=140737488355328):ck n b=some ():=by unfold ck;rw[BX h]
def WR.key{gw m w}(y:WR gw m w):∃k0,kV gw m w.x.ai=some k0/\kg w=some k0:=by
 obtain⟨t,z,⟨b,c,d⟩,k0,a⟩:=y.oT;refine⟨k0,?_,?_⟩
 .simp[kV,y.gj,Qe z b c d,a]
 .simp[kg,z,a]
def avl{gw m w}(y:WR gw m w){p1}(P:p1.length<=20){s}(Q:s.bind∈L0){e}(f:sE e)(n:dE 30 s.value):
 ∃r,iq gw m p1 s e=some r/\uS w p1 s e=some r/\dR r:=by
 have b4:(w.x.ah==4)=false:=by simp[y.k4]
 have p:=y.ul;rcases y.vs s.ai with⟨a,b⟩|⟨v,a,b,g⟩
 .exact⟨([{s with cond:=e}],0),by simp[iq,a,y.x,b4,Y,cN],by simp[uS,b,b4,Y,cN],uq (f.dE.le VQ) n mG⟩
 .obtain⟨D,t1,t2,t3⟩:=sC (gw:=gw) (m:=m) (nm:=s.bind) g y.eJ p y.uL Q f.1 f.2.1 f.2.2 VQ;have Rd:=g.Rd
  let cap:=v.bK.any λj=>aJ (p1++[s.bind]) j.ai
  have c1:kb gw m v (p1++[s.bind])=some cap:=cF (by unfold kb;exact ct (yr _ _) λr z=>bb z);have c:BE (v.bK.map (·.ai)) (p1++[s.bind])=some cap:=cF ((Uo _ _).mono λr z=>by rw[z,List.any_map];rfl);have e1:fF p1=some p1:=kK B9;have e2:ck (p1.length+1) 16=some ():=og B9;have e3:gu p1 []=some p1:=cF ((nY B9 NP).mono λr z=>by rw[z];simp);obtain⟨k0,X,g2⟩:=y.key;obtain⟨t,K,A⟩:=P2 p1 w.x.ai;have i:decide (t>=0)=aJ p1 w.x.ai:=by
   cases hh:aJ p1 w.x.ai<;>simp[hh]at A ⊢<;>omega
  obtain⟨o,o1,o2,_⟩:=qD nh (l:=w.u) (l':=w.u) w.u B9 (λ_ h=>h) λ_=>rfl
  obtain⟨q,q1,q2,_⟩:=qD qC (l:=w.u++[o]) (l':=w.u++[o]) (w.u++[o]) Ar (λ_ h=>h) λ_=>rfl
  have u1:fF w.u=some w.u:=kK B9;have L:ck (w.u.length+1) 16=some ():=og B9;have u3:gu w.u []=some w.u:=cF ((nY B9 NP).mono λr z=>by rw[z];simp);have N:ck 2 328=some ():=og B9;have js:=g.js;have bs:=g.bV;generalize cap=C at c1 c;generalize v.bK.map (·.ai)=a0 at js c;cases C
  .by_cases d:w.x.ah=3
   .cases k:aJ p1 w.x.ai
    .exact⟨([aC.mk 1 v.bV s.bind D eK 0 0,aC.mk 1 w.x.name o (bL 14 jT [bL 4 yH [ip 10 [q,bk] [cw 3 q,cw 3 w.x.ai,bL 14 jT [bL 8 k0 [cw 3 q],bL 8 k0 [cw 3 o]]]],eK]) eK 0 0],0),by simp[iq,a,y.x,y.eJ,b4,Y,cN,d,e1,e2,c1,t1,fP,k,X,o1,u1,L,q1,N],by rw[k]at i;simp[uS,b,b4,Y,cN,d,e2,e3,c,js,bs,t2,K,i,g2,o2,L,u3,q2,N],uq (t3.le VQ) dZ (uq (dx (dc (dx (dc (dx (dc Ut (dc Ut (dc (dx (dc Jx (dc Jx dn))) dn)))) dn)) (dc dZ dn))) dZ mG)⟩
    .exact⟨([],15),by simp[iq,a,y.x,y.eJ,b4,Y,cN,d,e1,e2,c1,t1,fP,k],by rw[k]at i;simp[uS,b,b4,Y,cN,d,e2,e3,c,js,bs,t2,K,i],mG⟩
   .have b3:(w.x.ah==3)=false:=by simp[d]
    exact⟨([(aC.mk 1 v.bV s.bind D eK 0 0)],0),by simp[iq,a,y.x,y.eJ,b4,b3,Y,cN,e1,e2,c1,t1],by simp[uS,b,b4,b3,Y,cN,e2,e3,c,js,bs,t2],uq (t3.le VQ) dZ mG⟩
  .exact⟨([],15),by simp[iq,a,y.x,y.eJ,b4,Y,cN,e1,e2,c1,t1],by simp[uS,b,b4,Y,cN,e2,e3,c,js],mG⟩
def tY{z:Type}{f:z->T At}{P a}(g:∀x∈a,f x=some (P x)):
 AU ((bo (λ i k=>λ _=>((f k).b λl=>Y l (ir (.inr i)) (il ()):T (Unit⊕(Unit⊕Int)))) (λ_=>()) 0 a ()).j λ_=>some (-1)) λr=>decide (r>=0)=a.any P:=by
 refine fB (λj _=>(a.take j).any P=false) rfl (λj y s m e o d=>?_) λs d=>bb (by rw[Gq]at d;rw[d];rfl)
 refine ct (P:=λr=>r=P y) ⟨_,g y e,rfl⟩ λv n=>?_
 subst n;refine cZ (λc=>bb (bb ?_)) λc=>bb ?_
 .rw[It.2 ⟨y,e,c⟩];simp
 .show(a.take (j+1)).any P=false
  rw[G6,m,KW,d];simp[c]
def dM(t:V)(l:U Z)(b:At):U Z:=(t.ae.map (·.name)).filter λn=>aJ l n==b
def nS{t:V}{f:Z->T At}{P}(k:∀c∈t.ae,f c.name=some (P c.name))(q:t.ae.length<=1000):
 AU ((fI (λ s z=>λ d=>(((f z.name).b λe=>Y e ((ck (d.length+([z.name]:U Z).length) 16).b λl=>il (d++[z.name])) (il d):T (U Z⊕(U Z⊕(U Z⊕U Z)))).j λg=>il g)) t.ae []).j λm=>some m) λr=>r=(t.ae.map (·.name)).filter P:=by
 refine fB (λj(a:U Z)=>a=((t.ae.take j).map (·.name)).filter P) rfl (λj y a n o u i=>?_) λa i=>bb (by rw[i,Gq])
 subst i;have w:(((t.ae.take j).map (·.name)).filter P).length<=1000:=by
  have:=LY P ((t.ae.take j).map (·.name));simp only[B7,JB]at this;omega
 have st:((t.ae.take (j+1)).map (·.name)).filter P=((t.ae.take j).map (·.name)).filter P++cond (P y.name) [y.name] []:=by
  rw[G6,n,HO,L8];cases h:P y.name<;>simp[List.filter,h]
 refine ei (AU.mono (P:=λx=>x= .inl (((t.ae.take (j+1)).map (·.name)).filter P)) (ct (P:=λr=>r=P y.name) ⟨_,k y o,rfl⟩ λv p=>?_) ?_)
 .subst p;refine cZ (λc=>eT OX (bb ?_)) λc=>bb ?_
  .rw[st,c];rfl
  .rw[st,c];simp
 .rintro _ rfl;exact bb rfl
def avf{t l}(x:t.ae.length<=1000):nP t l=some (dM t l false):=cF (by
 unfold nP;refine(nS (f:=λn=>sk n l) (P:=λn=>aJ l n==false) (λc _=>?_) x).mono λr y=>y
 simp[sk,fP])
def avh{t gw m}(y:t.ae.length<=1000):pH t gw m=some (dM t gw.x.ae true):=cF (by
 unfold pH;refine(nS (f:=λn=>sy n gw m) (P:=λn=>aJ gw.x.ae n==true) (λc _=>?_) y).mono λr z=>z
 simp[sy,fP])
def avg{t gw m}(y:t.ae.length<=1000):pI t gw m=some (dM t gw.x.ae false):=cF (by
 unfold pI;refine(nS (f:=λn=>sA n gw m) (P:=λn=>aJ gw.x.ae n==false) (λc _=>?_) y).mono λr z=>z
 simp[sA,fP])
def yx{t l b}(i:t.ae.length<=1000):yi t l b=some (dM t l b):=cF (by
 unfold yi;refine fB (λj(a:U Z)=>a=((t.ae.take j).map (·.name)).filter λn=>aJ l n==b) rfl (λj y a e k m z=>?_) λa z=>bb (by rw[z,Gq];rfl)
 subst z;obtain⟨P,d⟩:∃P:Z->At,P=λn=>aJ l n==b:=⟨_,rfl⟩
 rw[<-d];have o:(((t.ae.take j).map (·.name)).filter P).length<=1000:=by
  have:=LY P ((t.ae.take j).map (·.name));simp only[B7,JB]at this;omega
 have st:((t.ae.take (j+1)).map (·.name)).filter P=((t.ae.take j).map (·.name)).filter P++cond (P y.name) [y.name] []:=by
  rw[G6,e,HO,L8];cases h:P y.name<;>simp[List.filter,h]
 refine ei (AU.mono (P:=λx=>x= .inl (((t.ae.take (j+1)).map (·.name)).filter P)) (ct (P2 l y.name) λv f=>?_) ?_)
 .have e1:(decide (v>=0)==b)=P y.name:=by
   have:decide (v>=0)=aJ l y.name:=by
    cases g:aJ l y.name<;>simp[g]at f ⊢<;>omega
   rw[this,d]
  rw[e1];refine cZ (λc=>eT OX (bb ?_)) λc=>bb ?_
  .rw[st,c];rfl
  .rw[st,c];simp
 .rintro _ rfl;exact bb (by rw[d];exact rfl))
def kL{t}(b:t.ae.length<=1000):pG t=some (t.ae.map (·.name)):=cF (by
 unfold pG;refine fB (λj(a:U Z)=>a=(t.ae.take j).map (·.name)) rfl (λj y a z c d x=>?_) λa x=>bb (by rw[x,Gq])
 subst x;refine ei (eT Ar (bb (bb ?_)))
 show _=_
 rw[G6,z];simp)
def avr{t}:dM t [] false=t.ae.map (·.name):=by
 unfold dM;rw[Oz];intro a _;rfl
def mw{a b}:ke a b=some (a.any λn=> !aJ b n):=cF (by
 unfold ke xQ;exact ct (tY (f:=λn=>sb n b) (P:=λn=> !aJ b n) λx _=>by simp[sb,fP]) λv y=>bb y)
def my{a s}:iU a s=some (s.value.ay.any (aJ a)):=by
 have e:se s.value.ay a=some (s.value.ay.any (aJ a)):=cF (by
  unfold se xS;exact ct (tY (f:=λn=>sd n a) (P:=aJ a) λx _=>by simp[sd,fP]) λv y=>bb y)
 simp[iU,e]
def anU{a b}:tI a b=some (a.any (aJ b)):=by
 have e:sr a b=some (a.any (aJ b)):=cF (by
  unfold sr xV;exact ct (tY (f:=λn=>sm n b) (P:=aJ b) λx _=>by simp[sm,fP]) λv y=>bb y)
 simp[tI,e]
def tZ l n:AU (qq l n) λr=>decide (r>=0)=aJ l n:=(P2 l n).mono λr x=>by
 cases y:aJ l n<;>simp[y]at x ⊢<;>omega
def agX{n e b c l}(h:aJ l b=true):ri (n+1) e b c l=some true:=cF (by
 unfold ri;exact ct (tZ l b) λv x=>by rw[x,h];exact bb rfl)
def fK:Nat->J->Prop
 |0,_=>False
 |d+1,e=>(e.ah=8->e.au≠ [])/\∀k∈e.au,fK d k
def Re{b c}(hb:jf b=false):∀{d n n' e l l'},wB d e->fK d e->d<=n->d<=n'->l.length+8*d<=90000->l'.length+8*d<=90000->aJ l b=aJ l' b->
 ∃o,ri n' e b c l'=some o/\∀ok,kf n e l b ok c=some (e,ok&&o)
 |0,_,_,_,_,_,h,_,_,_,_,_,_=>h.elim
 |d+1,0,_,_,_,_,_,_,h,_,_,_,_=>absurd h B9
 |d+1,_,0,_,_,_,_,_,_,h,_,_,_=>absurd h B9
 |d+1,n+1,n'+1,e,l,l',h,hf,hn,hn',hl,hl',hs=>by
  have hk9:=h.2.2.2.2.1
  let K:Nat->At:=λi=>(ri n' (e.au.getD i e) b c (l'++nz (dU e i))).getD true
  have A:∀{i k},e.au[i]?=some k->e.au.getD i e=k:=λhx=>by simp[List.getD,hx]
  have hK:∀{i k},e.au[i]?=some k->ri n' k b c (l'++nz (dU e i))=some (K i)/\∀ok,kf n k (l++dU e i) b ok c=some (k,ok&&K i):=λ{i k}hx=>by
   have h8:=kJ h i;have hz:=oK (dU e i);have hm:=K3 hx;obtain⟨o,t,h2⟩:=Re (c:=c) hb (h.2.2.2.2.2 k hm) (hf.2 k hm) (by omega:d<=n) (by omega:d<=n') (l:=l++dU e i) (l':=l'++nz (dU e i)) Ar Ar (by rw[ij,ij,hs,<-yt hb]);have:K i=o:=by simp only[K,A hx,t,Kj]
   rw[this];exact⟨t,h2⟩
  have C:∀{j},((List.range (j+1)).all K)=(((List.range j).all K)&&K j):=λ{j}=>by rw[Lp,List.all_append];simp
  have D:∀ok,AU ((fG e.au).b λv3=>(fI (λ(L:Nat)(v7:J)=>λ(a4,a5)=>((Hg e (L:Int) l).b λv15=>(kf n v7 v15 b a5 c).b λN=>(aU (0<=(L:Int)/\(L:Int)<((v3.map J.aq).length:Int))).b λv17=>(aA a4 (L:Int)).b λv18=>il ((a4.set ((L:Int).toNat) N.1),N.2):T ((U J×At)⊕((U J×At)⊕(J×At))))) e.au (v3,ok)).j λ(Q,c12)=>(aU ((Q.map J.aq).length=(v3.map J.aq).length)).b λv19=>some ({e with au:=Q},c12)) λr=>r=(e,ok&&(List.range e.au.length).all K):=λok=>by
   refine ct (P:=λr=>r=e.au) akx λv f=>?_
   subst f;refine fB (λj(s:U J×At)=>s=(e.au,ok&&(List.range j).all K)) NP (λj y s hy hm hj u=>?_) λs u=>?_
   .subst u;dsimp only;refine ct (UA h hj B9) λv f=>?_
    subst f;refine ct (P:=λr=>r=(y,(ok&&(List.range j).all K)&&K j)) ⟨_,(hK hy).2 _,rfl⟩ λr a=>?_
    subst a;refine hC Ar (fA ⟨by omega,by omega⟩ λz _ _=>bb ?_)
    show _=_
    have:e.au.set j y=e.au:=by
     obtain⟨t,h2⟩:=LI.1 hy;rw[<-h2];exact List.set_getElem_self t
    rw[JX,this,C,NT]
   .subst u;exact hC NP (bb (by cases e;rfl))
  have X:lj l b=some (aJ l' b):=by rw[fP,hs]
  cases g:aJ l' b with
  |true=>
   refine⟨true,agX g,λok=>cF ?_⟩;have hKt:(List.range e.au.length).all K=true:=by
    rw[H0];intro i hi;have hi:=KY.1 hi;have hx:e.au[i]?=some e.au[i]:=K6 hi;have t:=(hK hx).1;have hd:∃q,n'=q+1:=by
     cases d with
     |zero=>exact((h.2.2.2.2.2 _ (Ot hi):wB 0 _)).elim
     |succ d=>exact⟨n'-1,by omega⟩
    obtain⟨q,rfl⟩:=hd;rw[agX (by rw[ij,g];rfl)]at t;exact(GZ t).symm
   unfold kf;refine ct (P:=λr=>r=(e,false,ok)) ?_ λv f=>?_
   .unfold sw;rw[X,g];have f5:∀x:J,mv x b true=some false:=λx=>by
     unfold mv;cases hk:x.ah==3<;>cases he:bg x.name b<;>simp[Y]
    cases hk:e.ah==8
    .cases ok<;>simp[Y,f5,AU]
    .have h0:=hf.1 (by simpa using hk);obtain⟨y,r,w⟩:=M5 h0;have n0:aA e.au 0=some y:=by rw[w];rfl
     cases ok<;>simp[Y,f5,AU,n0]
   .subst f;refine cZ (λc=>by cases c) λ_=>?_
    exact(D ok).mono λr a=>by rw[a,hKt]
  |false=>
   have f5:∀x:J,mv x b false=some ((x.ah==3)&&bg x.name b):=λx=>by
    unfold mv;cases hk:x.ah==3<;>cases he:bg x.name b<;>simp[Y]
   obtain⟨fl,m⟩:∃fl:At,fl=((e.ah==8)&&(((e.au.getD 0 e).ah==3)&&bg (e.au.getD 0 e).name b)):=⟨_,rfl⟩;have h8:(e.ah==8)=true->aA e.au 0=some (e.au.getD 0 e):=λhk=>by
    have h0:=hf.1 (by simpa using hk);obtain⟨y,r,w⟩:=M5 h0;rw[w];rfl
   obtain⟨va,p⟩:∃va:At,va=((e.ah==3)&&bg e.name b):=⟨_,rfl⟩;have hex:va=true->fl=false:=λf=>by
    rw[p,BR,HV]at f;rw[m];simp[f.1]
   have ref:AU (ri (n'+1) e b c l') λr=>r=(!va&&(bif fl then aJ c e.name else(List.range e.au.length).all K)):=by
    unfold ri;refine ct (tZ l' b) λv f=>?_
    rw[f,g];refine cZ (λc=>by cases c) λ_=>?_
    refine ct (P:=λr=>r=va) (cZ (λc=>bb (by rw[p,c];rfl)) λc=>bb (by rw[p,c];rfl)) λr a=>?_
    subst a;refine cZ (λc=>bb CE) λc=>?_
    rw[c];refine ct (P:=λr=>r=((e.ah==8)&&((e.au.getD 0 e).ah==3))) (cZ (λc=>ct (P:=λr=>r=e.au.getD 0 e) ⟨_,h8 c,rfl⟩ λr a=>bb (by rw[a,c];rfl)) λc=>bb CE) λr a=>?_
    subst a;refine ct (P:=λr=>r=fl) (cZ (λc=>ct (P:=λr=>r=e.au.getD 0 e) ⟨_,h8 (by rw[BR]at c;exact c.1),rfl⟩ λr a=>bb (by rw[a,m,<-NT,c];rfl)) λc=>bb (by rw[m,<-NT,c];rfl)) λr a=>?_
    subst a;refine cZ (λc=>ct (tZ _ _) λv f=>bb (by rw[f,c];rfl)) λc=>?_
    rw[c];refine fB (λj _=>(List.range j).all K=true) rfl (λj y s hy hm hj u=>?_) λs u=>bb (by rw[u];rfl)
    refine ct (T8 h hj B9) λv f=>?_
    subst f;refine ct (P:=λr=>r=K j) ⟨_,(hK hy).1,rfl⟩ λr a=>?_
    subst a;refine cZ (λc=>bb (bb ?_)) λc=>bb ?_
    .have:(List.range e.au.length).all K=false:=by
      rw[List.all_eq_false];exact⟨j,KY.2 hj,by simpa using c⟩
     rw[this];rfl
    .show(List.range (j+1)).all K=true
     rw[C,u];simpa using c
   obtain⟨o,ho,ho2⟩:=ref;refine⟨o,ho,λok=>cF ?_⟩;subst ho2;unfold kf;refine ct (P:=λr=>r=(e,fl,ok&&bif fl then aJ c e.name else !va)) ?_ λv f=>?_
   .unfold sw;rw[X,g];refine ct (P:=λr=>r=false) ⟨_,rfl,rfl⟩ λr a=>?_
    subst a;refine ct (P:=λr=>r=fl) (cZ (λc=>ct (P:=λr=>r=e.au.getD 0 e) ⟨_,h8 c,rfl⟩ λr a=>?_) λc=>bb (by rw[m,c];rfl)) λr a=>?_
    .subst a;rw[f5];exact bb (by rw[m,c];rfl)
    .subst a;refine cZ (λc=>?_) λc=>?_
     .rw[c];cases ok<;>simp[Y,AU,fP]
     .rw[c];cases ok<;>simp[Y,AU,f5,p]
   .subst f;refine cZ (λc=>bb ?_) λc=>?_
    .have c:fl=true:=c;have hv0:va=false:=by cases hq:va;rfl;rw[hex hq]at c;cases c
     rw[c,hv0];rfl
    .have c:fl=false:=c;rw[c];exact(D _).mono λr a=>by rw[a];simp[NT]
def yy{v b c}(t:jf b=false)(g:∀k∈v.au,wB 20 k/\fK 20 k)(w:v.au.length<=9):
 ∃o,xW (v.au.drop 1) b c=some o/\GR v b c=some o:=by
 let O:Nat->At:=λi=>(ri 1000000 (v.au.getD i eK) b c []).getD true
 have n:∀{i k},v.au[i]?=some k->ri 1000000 k b c []=some (O i)/\∀ok,kf 1000000 k [] b ok c=some (k,ok&&O i):=λ{i k}hx=>by
  have z:=K3 hx;obtain⟨o,p,u⟩:=Re (c:=c) t (g k z).1 (g k z).2 (by decide:20<=1000000) (by decide:20<=1000000) (l:=[]) (l':=[]) VQ VQ rfl;have e1:v.au.getD i eK=k:=by simp[List.getD,hx]
  have:O i=o:=by simp only[O,e1,p,Kj]
  rw[this];exact⟨p,u⟩
 refine⟨(List.range (v.au.length-1)).all λi=>O (i+1),cF ?_,cF ?_⟩
 .unfold xW;refine fB (λj(a:At)=>a=(List.range j).all λi=>O (i+1)) rfl (λj y a q z A x=>?_) λa x=>bb (by rw[x,KP])
  rw[L1,LL]at q;refine ct (P:=λr=>r=(y,a&&O (j+1))) ⟨_,(n q).2 a,rfl⟩ λr d=>bb ?_
  subst d x
  show _=_
  rw[Lp,List.all_append];simp
 .unfold GR;refine lm (m:=v.au.length) (λm(a:Int)=>∃j:Nat,a=((j+1:Nat):Int)/\m=v.au.length-j/\((List.range (min j (v.au.length-1))).all λi=>O (i+1))=true) B9 ⟨0,rfl,by omega,by simp⟩ ?_;rintro m _ ⟨j,rfl,rfl,x⟩;refine cZ (λe=>?_) λe=>bb (bb ?_)
  .simp only[gn,CU,B7,FW]at e;refine fA ⟨by omega,by omega⟩ λk _ s=>?_
   rw[JX]at s;refine ct (P:=λr=>r=O (j+1)) ⟨_,(n s).1,rfl⟩ λr d=>?_
   subst d;refine cZ (λf=>bb (bb ?_)) λf=>bb ?_
   .symm;rw[List.all_eq_false];exact⟨j,KY.2 B9,by simpa using f⟩
   .refine⟨v.au.length-(j+1),by omega,j+1,?_,rfl,?_⟩
    .show IntKind.i64.wrap _=_;rw[BW];omega
    .have e1:min (j+1) (v.au.length-1)=min j (v.au.length-1)+1:=by omega
     have e2:min j (v.au.length-1)=j:=by omega
     rw[e1,Lp,List.all_append,x,e2];simpa using f
  .simp only[gn,CU,B7,Ic]at e;have e1:min j (v.au.length-1)=v.au.length-1:=by omega
   rw[e1]at x;exact x.symm
def fV(t:V)(n:Z):U Z:=(t.aX.filter λr=>bg r.ai n).map (·.ar)
def sD{t n}(h:t.aX.length<=1000):tK t n=some (fV t n):=cF (by
 unfold tK;refine fB (λj(a:U Z)=>a=((t.aX.take j).filter λr=>bg r.ai n).map (·.ar)) rfl (λj y a b e f z=>?_) λa z=>bb (by rw[z,Gq];rfl)
 subst z;have g:(((t.aX.take j).filter λr=>bg r.ai n).map (·.ar)).length<=1000:=by
  have:=LY (λr:aD=>bg r.ai n) (t.aX.take j);simp only[B7,JB]at this |-;omega
 have st:((t.aX.take (j+1)).filter λr=>bg r.ai n).map (·.ar)=((t.aX.take j).filter λr=>bg r.ai n).map (·.ar)++cond (bg y.ai n) [y.ar] []:=by
  rw[G6,b,L8,HO];cases d:bg y.ai n<;>simp[List.filter,d]
 refine ei (AU.mono (P:=λx=>x= .inl (((t.aX.take (j+1)).filter λr=>bg r.ai n).map (·.ar))) (cZ (λc=>eT OX (bb ?_)) λc=>bb ?_) ?_)
 .rw[st,c];rfl
 .rw[st,c];simp
 .rintro _ rfl;exact bb rfl)
def avs{t n c}:aJ (fV t n) c=t.aX.any λr=>bg r.ar c&&bg r.ai n:=by
 unfold aJ fV;rw[List.any_map,List.any_filter];congr 1;funext r;exact Bool.and_comm _ _
def avi{t gw m}(y:t.ae.length<=1000):nO t t gw m=some (dM t (fV t gw.x.ai) true):=cF (by
 unfold nO;refine(nS (f:=λn=>sj n t gw m) (P:=λn=>aJ (fV t gw.x.ai) n==true) (λc _=>?_) y).mono λr z=>z
 have e:si t.aX c.name gw m=some (aJ (fV t gw.x.ai) c.name):=cF (by
  unfold si xT;refine ct (tY (f:=λr=>sg r c.name gw m) (P:=λr=>bg r.ar c.name&&bg r.ai gw.x.ai) λx _=>?_) λv a=>bb (by rw[a,avs])
  unfold sg;cases b:bg x.ar c.name<;>cases d:bg x.ai gw.x.ai<;>simp[Y,b,d])
 simp[sj,e])
def oN{t l c}(h:c∈t.ae.map (·.name)):aJ (dM t l true) c=aJ l c:=by
 unfold dM aJ;rw[List.any_filter];cases z:l.any λy=>bg y c
 .rw[List.any_eq_false];intro x _;cases hx:bg x c
  .simp
  .have:=fD hx;subst this;have z:(l.any λy=>bg y x)=false:=z;simp[z]
 .rw[It];exact⟨c,h,by simp[z]⟩
def aaf{t l b}:dM t (dM t l true) b=dM t l b:=by
 show List.filter _ _=List.filter _ _
 refine List.filter_congr λx hx=>?_
 rw[oN hx]
def ub{gw m w}(y:WR gw m w){n v}(a:VS w n v){p1}(b:p1.length<=20){s}(c:s.bind∈L0)(z:sE s.cond):
 ∃x,oH w n s.bind s.cond=some x/\dE 28 x/\kY gw m p1 v s=some (bif v.bK.any λj=>aJ (p1++[s.bind]) j.ai then([],15)else([{s with cond:=x}],0)):=by
 obtain⟨x,t1,t2,t3⟩:=sC (gw:=gw) (m:=m) (nm:=s.bind) a y.eJ y.ul y.uL c z.1 z.2.1 z.2.2 VQ;refine⟨x,t2,t3,?_⟩;have c1:kb gw m v (p1++[s.bind])=some (v.bK.any λj=>aJ (p1++[s.bind]) j.ai):=cF (by unfold kb;exact ct (yr _ _) λr d=>bb d);have e1:fF p1=some p1:=kK B9;have e2:ck (p1.length+1) 16=some ():=og B9;generalize (v.bK.any λj=>aJ (p1++[s.bind]) j.ai)=C at c1;cases C<;>simp[kY,e1,e2,c1,t1,Y]
def ud{v:U J}:(v.drop 1).take (v.length-1)=v.drop 1:=L6 NP
def BZ{p}[Decidable p](h:p):aU p=some ():=by unfold aU;rw[BX h]
def ava{gw m w}(y:WR gw m w)(k7:w.x.ah=7){p1}(u:p1.length<=20){s}(hs2:s.ah=2){t}(ht:iC w.gj s.ai=some (t,true))(t1:t.ae.length<=1000)(t2:t.key.length<=1000)(t3:t.aX.length<=1000)(hn:∀n∈s.value.ay,n∈t.ae.map (·.name))(hb:jf s.bind=false)(hv:∀k∈s.value.au,wB 20 k/\fK 20 k)(A:s.value.au.length<=9)(hv1:1<=s.value.au.length){e1 e2}(C:s.bind∈L0)(he:sE e1)(d:dE 30 e2)(D:∀v,cv m s.ai=some v->v.bK≠ []/\∀j∈v.bK,j.ai=w.x.ai):
 ∃r,nQ gw m p1 s {s with ah:=2,cond:=e1,value:=e2}=some r/\Je w p1 s t e1 e2=some r/\dR r:=by
 have f:=Qe ht t1 t2 t3;have g:oS w s.ai=some (decide (0<(fV t w.x.ai).length)):=by
  simp[oS,ht,k7,sD t3,Y]
 obtain⟨on,o1,o2⟩:=yy (c:=dM t (fV t w.x.ai) false) hb hv A;have K:(s.value.ay.any (aJ (dM t (fV t w.x.ai) true)))=s.value.ay.any (aJ (fV t w.x.ai)):=by
  rw[M8,It,It];exact⟨λ⟨x,hx,h⟩=>⟨x,hx,by rwa [oN (hn x hx)]at h⟩,λ⟨x,hx,h⟩=>⟨x,hx,by rwa [oN (hn x hx)]⟩⟩
 have q1:nO t t gw m=some (dM t (fV t w.x.ai) true):=by rw[avi t1,y.x]
 have q2:nP t (dM t (fV t w.x.ai) true)=some (dM t (fV t w.x.ai) false):=by rw[avf t1,aaf]
 have q3:tI s.value.ay (dM t (fV t w.x.ai) true)=some (s.value.ay.any (aJ (fV t w.x.ai))):=by rw[anU,K]
 have q4:BE s.value.ay (fV t w.x.ai)=some (s.value.ay.any (aJ (fV t w.x.ai))):=cF (Uo _ _);have q5:yi t (fV t w.x.ai) false=some (dM t (fV t w.x.ai) false):=yx t1;have q6:tK t w.x.ai=some (fV t w.x.ai):=sD t3;have q7:aU (0<=(1:Int)/\1<=(gn s.value.au)/\(gn s.value.au)<=(gn s.value.au))=some ():=BZ Ez;have q8:(s.value.au.drop (1:Int).toNat).take ((gn s.value.au).toNat-(1:Int).toNat)=s.value.au.drop 1:=by
  simp only[gn,CU,B7];exact ud
 obtain⟨ix,z1,i⟩:=tZ s.value.ay w.x.ar;have z:∀e:J,J.mk e.ah e.name e.n e.s e.ay e.binds e.au e.pos e.dG=e:=λe=>by cases e;rfl
 have r3:gu p1 []=some p1:=cF ((nY B9 NP).mono λr hr=>by rw[hr];simp);have r4:ck (p1.length+([s.bind]:U Z).length) 16=some ():=og Ar;obtain⟨iy,y1,L⟩:=tZ (p1++[s.bind]) w.x.ai;have hs:{s with ah:=2,cond:=e1,value:=e2}={s with cond:=e1,value:=e2}:=by cases s;simp_all
 have N:∀te,{s with ah:=2,cond:=te,value:=e2}={s with cond:=te,value:=e2}:=λte=>by cases s;simp_all
 have p:decide (gL (fV t w.x.ai)>0)=decide (0<(fV t w.x.ai).length):=by simp only[gL,CU,B7];simp
 generalize fV t w.x.ai=a0 at*;generalize s.value.ay.any (aJ a0)=M at*;rcases y.vs s.ai with⟨q,l⟩|⟨v,q,l,P⟩
 .have l0:decide (0<a0.length)=false:=by rw[g]at l;exact GZ l
  rw[l0]at p;refine⟨bif (M||(bg s.ai w.x.ai&&aJ s.value.ay w.x.ar)|| !on)then([],23)else([{s with cond:=e1,value:=e2}],0),?_,?_,Fv mG (uq (he.dE.le VQ) d mG)⟩
  .unfold nQ;rw[q];simp only[Option.elim,y.gj,f,Option.b,B2,q1,q2,q3,q7,q8,o1,y.x,fP,hs];cases M<;>cases on<;>cases bg s.ai w.x.ai<;>cases aJ s.value.ay w.x.ar<;>rfl
  .unfold Je;simp only[q6,q5,o2,q4,Option.b,B2,z1,i,p,z];cases M<;>cases on<;>cases bg s.ai w.x.ai<;>cases aJ s.value.ay w.x.ar<;>simp[Y,z]
 .have l0:decide (0<a0.length)=true:=by rw[g]at l;exact GZ l
  rw[l0]at p;obtain⟨te,Q,g3,X⟩:=ub y P u (s:={s with ah:=2,cond:=e1,value:=e2}) C he;obtain⟨j0,j1⟩:=D v q;have cap:(v.bK.any λj=>aJ (p1++[s.bind]) j.ai)=aJ (p1++[s.bind]) w.x.ai:=by
   obtain⟨a,r,o⟩:=M5 j0;rw[M8,It];exact⟨λ⟨j,D,h⟩=>j1 j D▸h,λh=>⟨a,by rw[o];simp,by rw[j1 a (by rw[o];simp)];exact h⟩⟩
  have X:kY gw m p1 v {s with ah:=2,cond:=e1,value:=e2}=some (bif aJ (p1++[s.bind]) w.x.ai then([],15)else([{s with cond:=te,value:=e2}],0)):=by rw[X,<-N,<-cap]
  have Q:oH w s.ai s.bind e1=some te:=Q;refine⟨bif (M||(bg s.ai w.x.ai&&aJ s.value.ay w.x.ar)|| !on)then([],23)else(bif aJ (p1++[s.bind]) w.x.ai then([],15)else([{s with cond:=te,value:=e2}],0)),?_,?_,Fv mG (Fv mG (uq (g3.le VQ) d mG))⟩
  .unfold nQ;rw[q];simp only[Option.elim,y.gj,f,Option.b,B2,q1,q2,q3,q7,q8,o1,y.x,fP,X];cases M<;>cases on<;>cases bg s.ai w.x.ai<;>cases aJ s.value.ay w.x.ar<;>rfl
  .unfold Je;simp only[q6,q5,o2,q4,Option.b,B2,z1,i,p,r3,r4,y1,L,Q];cases M<;>cases on<;>cases bg s.ai w.x.ai<;>cases aJ s.value.ay w.x.ar<;>cases aJ (p1++[s.bind]) w.x.ai<;>simp[Y,z]
def avS{v}(h:v.bK.length=1){u}(hu:u.length<=1000){o}(x:mM mh u=some o):wG v u=some [o]:=cF (by
 refine lm (λm s=>(s=_/\m=1)\/(s=([o],1)/\m=0)) VQ (.inl ⟨rfl,rfl⟩) ?_;rintro m s (⟨rfl,rfl⟩|⟨rfl,rfl⟩)
 .refine cZ (λ_=>?_) λc=>?_
  .refine ct (G3 NP Ar) λa y=>?_
   have e1:a=u:=by rw[y];simp
   subst e1;refine ct ⟨_,x,rfl⟩ λr z=>?_
   subst z;exact eT NP (bb ⟨0,by decide,.inr ⟨rfl,rfl⟩⟩)
  .simp[h]at c
 .refine cZ (λc=>?_) λ_=>bb (bb rfl)
  simp[Ks,CU,h]at c)
def Qf(k0:Z)(l:U Z)(b o:Z)(c:Z):J:=bL 8 c [cw 3 (bif bg c k0||aJ l c then b else o)]
def dv1{t}(f:t.ae.length<=1000){k0 b o l}:sx t k0 l b [o]=some (ip 6 (t.ae.map (·.name)) (t.ae.map λc=>Qf k0 l b o c.name)):=cF (by
 refine fB (λj s=>s=((t.ae.take j).map (·.name),(t.ae.take j).map λc=>Qf k0 l b o c.name)) rfl (λj c s y g i x=>?_) λs x=>bb (by rw[x,Gq])
 subst x;refine eT Ar ?_;refine ct (P:=λr=>r=Qf k0 l b o c.name) ?_ λr z=>eT Ar (bb ?_)
 .unfold xX Qf;have a:aA [o] 0=some o:=rfl;cases d:bg c.name k0<;>cases e:aJ l c.name<;>simp[AU,fP,e,a]
 .subst z
  rw[G6,y];simp)
def avb{gw m w}(d:WR gw m w){p1}(hp1:p1.length<=20){s}(hst:s.ai=w.x.ai){v}(n1:cv m s.ai=some v)(hvs:VS w s.ai v)(t1:v.ai.ae.length<=1000){k0}(kt:aA v.ai.key 0=some k0)(p:kg w=some k0){j}(hj:v.bK=[j])(hjt:j.ai=w.x.name)(i:jf s.bind=false)(hv:∀k∈s.value.au,wB 20 k/\fK 20 k)(q:s.value.au.length<=9)(hv1:1<=s.value.au.length){e1 e2}(A:s.bind∈L0)(he:sE e1)(C:dE 30 e2):
 ∃r,pJ gw m p1 s (aC.mk 2 s.ai s.bind e1 e2 0 0)=some r/\PN w p1 s v.ai e1 e2=some r/\dR r:=by
 have hul:=d.ul;have q1:pH v.ai gw m=some (dM v.ai w.x.ae true):=by rw[avh t1,d.x]
 have q2:pI v.ai gw m=some (dM v.ai w.x.ae false):=by rw[avg t1,d.x]
 have q3:∀l,tI s.value.ay l=some (s.value.ay.any (aJ l)):=λl=>anU
 have q4:∀l,BE s.value.ay l=some (s.value.ay.any (aJ l)):=λl=>cF (Uo _ _)
 have q5:∀b,yi v.ai w.x.ae b=some (dM v.ai w.x.ae b):=λb=>yx t1
 have lc:(dM v.ai w.x.ae true).length<=1000:=by
  have:=LY (λn=>aJ w.x.ae n==true) (v.ai.ae.map (·.name));simp only[B7]at this;exact KV this t1
 obtain⟨on,o1,o2⟩:=yy (c:=dM v.ai w.x.ae false) i hv q;obtain⟨z,o3,o4⟩:=yy (c:=dM v.ai w.x.ae true++[k0]) i hv q;have q7:aU (0<=(1:Int)/\1<=(gn s.value.au)/\(gn s.value.au)<=(gn s.value.au))=some ():=BZ Ez;have q8:(s.value.au.drop (1:Int).toNat).take ((gn s.value.au).toNat-(1:Int).toNat)=s.value.au.drop 1:=by
  simp only[gn,CU,B7];exact ud
 have r3:gu p1 []=some p1:=cF ((nY B9 NP).mono λr a=>by rw[a];simp);have r4:ck (p1.length+([s.bind]:U Z).length) 16=some ():=og Ar;have r5:gu w.u []=some w.u:=cF ((nY B9 NP).mono λr a=>by rw[a];simp);have r6:ck (w.u.length+([s.bind]:U Z).length) 16=some ():=og Ar;have r7:gu (dM v.ai w.x.ae true) []=some (dM v.ai w.x.ae true):=cF ((nY B9 NP).mono λr a=>by rw[a];simp);have r8:ck ((dM v.ai w.x.ae true).length+([k0]:U Z).length) 16=some ():=og Ar;have r9:fF (dM v.ai w.x.ae true)=some (dM v.ai w.x.ae true):=kK B9;obtain⟨f,f1,f2,f4,f3⟩:=he.oU;obtain⟨o,p2,p3,_⟩:=qD nh (l:=w.u++[s.bind]++f) (l':=w.u++[s.bind]++f) L0 VQ (fa (fa d.uL (by simpa using A)) f4.2) λ_=>rfl
 have d1:pp [w.u,[s.bind],f]=some (w.u++[s.bind]++f):=cF ((G3 NP Ar).mono λr a=>by rw[a];simp);have d2:gu (w.u++[s.bind]) f=some (w.u++[s.bind]++f):=cF (nY Ar B9);have d3:wG v (w.u++[s.bind]++f)=some [o]:=avS (by rw[hj];rfl) Ar p2;have d4:=dv1 (t:=v.ai) t1 (k0:=k0) (b:=s.bind) (o:=o) (l:=dM v.ai w.x.ae true);obtain⟨iy,y1,y1'⟩:=tZ (p1++[s.bind]) w.x.ai;obtain⟨iz,z1,z1'⟩:=tZ (p1++[s.bind]) w.x.name;have hh:aJ (p1++[s.bind]) w.x.ai=(aJ p1 w.x.ai||bg s.bind w.x.ai):=by rw[ij];simp[aJ]
 obtain⟨te,g1,g3,g2⟩:=ub d hvs hp1 (s:=aC.mk 2 s.ai s.bind e1 e2 0 0) A he;have g1:oH w s.ai s.bind e1=some te:=g1;have cap:(v.bK.any λj=>aJ (p1++[s.bind]) j.ai)=aJ (p1++[s.bind]) w.x.name:=by rw[hj];simp[hjt]
 have g2:kY gw m p1 v (aC.mk 2 s.ai s.bind e1 e2 0 0)=some (bif aJ (p1++[s.bind]) w.x.name then([],15)else([aC.mk 2 s.ai s.bind te e2 0 0],0)):=by rw[g2,<-cap]
 have rcd:AU ((fI (λ(i30:Nat)(y:af)=>λ(D,K)=>((kg w).b λv39=>(Y (bg y.name v39) (some true) ((qq (dM v.ai w.x.ae true) y.name).b λv43=>some (decide (v43>=0)))).bind (λa40=>(Y a40 (il s.bind) (il o):T (Z⊕((U Z×U J)⊕((U Z×U J)⊕(U aC×Int))))).j λL=>(ck (D.length+([y.name]:U Z).length) 16).b λv48=>(ck (K.length+([(bL 8 y.name [(cw 3 L)])]:U J).length) 136).b λv49=>il ((D++[y.name]),(K++[(bL 8 y.name [(cw 3 L)])]))))) v.ai.ae ([],[])).j λ(c35,c36)=>(kg w).b λv50=>(kg w).b λv51=>some ([(aC.mk 2 w.x.name s.bind (bL 4 m5 [(ip 10 [o,bk] [(bL 11 s.bind [(ip 6 c35 c36),e1]),(cw 3 w.x.ai),(bL 14 jT [(bL 8 v50 [(cw 3 o)]),(bL 8 v51 [(cw 3 s.bind)])])])]) e2 0 0)],0)) λr=>r=([(aC.mk 2 w.x.name s.bind (bL 4 m5 [(ip 10 [o,bk] [(bL 11 s.bind [(ip 6 (v.ai.ae.map (·.name)) (v.ai.ae.map λc=>Qf k0 (dM v.ai w.x.ae true) s.bind o c.name)),e1]),(cw 3 w.x.ai),(bL 14 jT [(bL 8 k0 [(cw 3 o)]),(bL 8 k0 [(cw 3 s.bind)])])])]) e2 0 0)],0):=by
  refine fB (λj(s':U Z×U J)=>s'=((v.ai.ae.take j).map (·.name),(v.ai.ae.take j).map λc=>Qf k0 (dM v.ai w.x.ae true) s.bind o c.name)) rfl (λj c s' hc hm hj hI=>?_) λs' hI=>?_
  .subst hI;dsimp only;refine ct (P:=λr=>r=k0) ⟨_,p,rfl⟩ λr a=>?_
   subst a;refine ct (P:=λb=>b=(bg c.name r||aJ (dM v.ai w.x.ae true) c.name)) (cZ (λe=>bb E0) λe=>ct (tZ _ _) λb i=>bb (by rw[i,e];rfl)) λb i=>?_
   refine ei (AU.mono (P:=λx=>x= .inl (bif b then s.bind else o)) (cZ (λe=>bb E0) λe=>bb E0) ?_);rintro _ rfl;refine eT Ar (eT Ar (bb ?_))
   show _=_
   rw[G6,hc,i];simp[Qf]
  .subst hI;exact ct (P:=λr=>r=k0) ⟨_,p,rfl⟩ λr a=>ct (P:=λr=>r=k0) ⟨_,p,rfl⟩ λr2 g=>bb (by rw[a,g,Gq])
 obtain⟨rr,N,g⟩:=rcd;subst g;obtain⟨M1,Q⟩:∃b,b=s.value.ay.any (aJ (dM v.ai w.x.ae true)):=⟨_,rfl⟩;obtain⟨M2,X⟩:∃b,b=s.value.ay.any (aJ (dM v.ai w.x.ae false)):=⟨_,rfl⟩;refine⟨bif M1 then(bif M2|| !z then([],23)else bif aJ (p1++[s.bind]) w.x.ai then([],15)else([(aC.mk 2 w.x.name s.bind (bL 4 m5 [(ip 10 [o,bk] [(bL 11 s.bind [(ip 6 (v.ai.ae.map (·.name)) (v.ai.ae.map λc=>Qf k0 (dM v.ai w.x.ae true) s.bind o c.name)),e1]),(cw 3 w.x.ai),(bL 14 jT [(bL 8 k0 [(cw 3 o)]),(bL 8 k0 [(cw 3 s.bind)])])])]) e2 0 0)],0))else(bif !on then([],23)else bif aJ (p1++[s.bind]) w.x.name then([],15)else([aC.mk 2 s.ai s.bind te e2 0 0],0)),?_,?_,?_⟩
 .unfold pJ;rw[n1];have n0:aA [o] 0=some o:=rfl;simp only[Option.elim,kt,Option.b,B2,q1,q2,q3,q7,q8,o1,o3,g2,r8,r9,fP,f1,d.eJ,d.x,d1,d3,d4,n0,<-Q,<-X,hh];cases M1
  .cases on<;>rfl
  .cases M2
   .cases z
    .rfl
    .cases aJ p1 w.x.ai<;>cases bg s.bind w.x.ai<;>rfl
   .cases z<;>rfl
 .unfold PN;simp only[q5,r3,r4,r5,r6,r7,r8,Option.b,B2,q4,o2,o4,p,g1,y1,y1',z1,z1',f2,d2,p3,<-Q,<-X];cases M1
  .cases on
   .rfl
   .cases aJ (p1++[s.bind]) w.x.name
    .simp[Y,hst,g1]
    .rfl
  .cases M2
   .cases z
    .rfl
    .cases aJ (p1++[s.bind]) w.x.ai
     .simp only[Option.b,B2,p]at N;exact N
     .rfl
   .cases z<;>rfl
 .have rd:dE 10 (ip 6 (v.ai.ae.map (·.name)) (v.ai.ae.map λc=>Qf k0 (dM v.ai w.x.ae true) s.bind o c.name)):=dx λk hk=>by
   obtain⟨c,_,rfl⟩:=Hr.1 hk;exact Jx
  refine Fv (Fv mG (Fv mG (uq (dx (dc (dx (dc (dx (dc (rd.le VQ) (dc (he.dE.le VQ) dn))) (dc Ut (dc (dx (dc Jx (dc Jx dn))) dn)))) dn)) C mG))) (Fv mG (Fv mG (uq (g3.le VQ) C mG)))
def yP(k:Int)(l:U aC)(n:Z):At:=l.any λy=>(y.ah==k)&&bg y.ai n
def avc{k l gw m}:nL k l gw m=some (yP k l gw.x.ai):=by
 have e:rS l k gw m=some (yP k l gw.x.ai):=cF (by
  unfold rS xG;refine ct (tY (f:=λy=>rR y k gw m) (P:=λy=>(y.ah==k)&&bg y.ai gw.x.ai) λx _=>?_) λv z=>bb z
  unfold rR;cases a:(x.ah==k)<;>simp[Y])
 simp[nL,e]
def anT{gw m w}(C:WR gw m w)(D:decide (0<m.length)=w.gj.an.any λt=>(oS w t.name).getD false){l s}:
 ∃b,rT gw m l s=some b/\PI w l s=some b:=by
 have p:∀n,oS w n=some ((oS w n).getD false):=λn=>by
  rcases C.vs n with⟨_,h⟩|⟨v,_,h,_⟩<;>rw[h]<;>rfl
 have K:decide ((((m.map (mE aB.aq)).length:Nat):Int)>0)=decide (0<m.length):=by simp
 refine⟨if w.x.ah=3 then(s.ah !=0)&&bg s.ai w.x.ai&&yP 0 l w.x.ai else if w.x.ah=2 then(s.ah==2)&&bg s.ai w.x.ai&&yP 0 l w.x.ai else if w.x.ah=7 then decide (0<m.length)&&yP 1 l w.x.ai else false,cF ?_,cF ?_⟩
 .unfold rT;simp only[avc,C.x,K];by_cases d:w.x.ah=3
  .cases g:yP 0 l w.x.ai<;>cases i:bg s.ai w.x.ai<;>cases o:s.ah !=0<;>simp[d,Y,AU]
  by_cases f:w.x.ah=2
  .cases g:yP 0 l w.x.ai<;>cases i:bg s.ai w.x.ai<;>cases o:s.ah==2<;>simp[f,Y,AU]
  by_cases k7:w.x.ah=7
  .cases g:yP 1 l w.x.ai<;>cases i:decide (0<m.length)<;>simp[k7,Y,AU]
  .have b3:(w.x.ah==3)=false:=by simp[d]
   have q:(w.x.ah==2)=false:=by simp[f]
   have u:(w.x.ah==7)=false:=by simp[k7]
   simp[b3,q,u,d,f,k7,Y,AU]
 .unfold PI;refine fB (λj(s:At×At)=>s=(yP 0 (l.take j) w.x.ai,yP 1 (l.take j) w.x.ai)) rfl (λj y s A D L z=>?_) λs' z=>?_
  .subst z;dsimp only;have e:∀k,yP k (l.take (j+1)) w.x.ai=(yP k (l.take j) w.x.ai||((y.ah==k)&&bg y.ai w.x.ai)):=λk=>by
    unfold yP;rw[G6,A,KW];simp
   rw[e 0,e 1];cases g:yP 0 (l.take j) w.x.ai<;>cases i:yP 1 (l.take j) w.x.ai<;>cases o:y.ah==0<;>cases h3:y.ah==1<;>cases h4:bg y.ai w.x.ai<;>simp[Y,AU]
  .subst z;dsimp only;rw[Gq];refine fB (λj(a:At)=>a=(w.gj.an.take j).any λt=>(oS w t.name).getD false) rfl (λj y a A N L z=>?_) λa z=>?_
   .subst z;refine ct (P:=λr=>r=(oS w y.name).getD false) ⟨_,p _,rfl⟩ λr Q=>?_
    refine ct (P:=λb=>b=(w.gj.an.take (j+1)).any λt=>(oS w t.name).getD false) ?_ λb X=>bb X
    have st:((w.gj.an.take (j+1)).any λt=>(oS w t.name).getD false)=(((w.gj.an.take j).any λt=>(oS w t.name).getD false)||r):=by
     rw[G6,A,KW,Q];simp
    rw[st];exact cZ (λc=>bb CE) λc=>bb CE
   .rw[Gq,<-D]at z;subst z;by_cases d:w.x.ah=3
    .cases g:yP 0 l w.x.ai<;>cases i:bg s.ai w.x.ai<;>cases o:s.ah !=0<;>simp[d,Y,AU]
    by_cases f:w.x.ah=2
    .cases g:yP 0 l w.x.ai<;>cases i:bg s.ai w.x.ai<;>cases o:s.ah==2<;>simp[f,Y,AU]
    by_cases k7:w.x.ah=7
    .cases g:yP 1 l w.x.ai<;>cases i:decide (0<m.length)<;>simp[k7,Y,AU]
    .have b3:(w.x.ah==3)=false:=by simp[d]
     have q:(w.x.ah==2)=false:=by simp[f]
     have u:(w.x.ah==7)=false:=by simp[k7]
     simp[b3,q,u,d,f,k7,Y,AU]
def Al c:nG [c]=some [c]:=by rfl
def ni c:nH [c]=some ([c],[]):=by rfl
def pU l:Gm l=some l:=rfl
def Uu(b:Z)(x:J)(ks:U J):U J:=ks.take 1++(ks.drop 1).map λk=>bL 11 b [x,k]
def apC{γ:Type}{ks b g}{e2:J}(p:e2.au=ks)(q:1<=ks.length)(D:ks.length<=9){w n}(t:tM w n b []=some g){f Q v31}(u:aA ks 0=some v31)(k:AU (f {e2 with au:=Uu b g ks}) Q):
 AU ((aV (λ(z,y)=>(Y (decide (z<(gn e2.au))) ((aA e2.au z).b λd=>(tM w n b []).b λe=>(ck (y.au.length+([(bL 11 b [e,d])]:U J).length) 136).b λv=>il ((w6 (z+1)),{y with au:=y.au++[(bL 11 b [e,d])]})) (ir (.inl y)):T ((Int×J)⊕(J⊕γ)))) 1000000 (1,{e2 with au:=[v31]})).bind (Sum.elim f some)) Q:=by
 have A:ks.take 1=[v31]:=by
  obtain⟨a,r,rfl⟩:=M5 (Jq q);have:a=v31:=GZ u;subst this;rfl
 refine lm (m:=ks.length) (λm(s:Int×J)=>∃j:Nat,s=(((j+1:Nat):Int),{e2 with au:=ks.take 1++((ks.drop 1).take j).map λk=>bL 11 b [g,k]})/\j+1<=ks.length/\m=ks.length-j) B9 ⟨0,by rw[A];rfl,by omega,rfl⟩ ?_;rintro m _ ⟨j,rfl,K,rfl⟩;dsimp only;rw[p];refine cZ (λc=>?_) λc=>bb ?_
 .simp only[gn,CU,B7,FW]at c;refine fA ⟨by omega,by omega⟩ λx _ hx=>?_
  rw[JX]at hx;refine ct (P:=λr=>r=g) ⟨_,t,rfl⟩ λr l=>?_
  subst l;refine eT Ar (bb ⟨ks.length-(j+1),by omega,j+1,?_,by omega,rfl⟩);have C:w6 (((j+1:Nat):Int)+1)=((j+1+1:Nat):Int):=by show IntKind.i64.wrap _=_;rw[BW];omega
  have o:(ks.drop 1)[j]?=some x:=by rw[L1,LL];exact hx
  rw[C,G6 (i:=j),o];simp
 .simp only[gn,CU,B7,Ic]at c;have e1:(ks.drop 1).take j=ks.drop 1:=L6 Ar;rw[e1];exact k
def afW{b x ks}(y:1<=ks.length):(Uu b x ks).length=ks.length:=by
 unfold Uu;simp;omega
def avR{γ:Type}{ks b d v}(X:1<=ks.length)(h9:ks.length<=9)(t:rf v b []=some d){f Q}(k:AU (f (Uu b d ks)) Q):
 AU ((aV (λ(z,a)=>(Y (decide (z<((((ks.drop (1:Int).toNat).take ((gn ks).toNat-(1:Int).toNat)).map J.aq).length:Int))) ((aA ks (w6 (z+1))).b λe=>(rf v b []).b λg=>(aU (0<=(w6 (z+1))/\(w6 (z+1))<(gn ks))).b λu=>(aA a (w6 (z+1))).b λw=>il ((w6 (z+1)),(a.set ((w6 (z+1)).toNat) (bL 11 b [g,e])))) (ir (.inl a)):T ((Int×U J)⊕(U J⊕γ)))) 1000000 (0,ks)).bind (Sum.elim f some)) Q:=by
 let S:Nat->U J:=λj=>ks.take 1++((ks.drop 1).take j).map (λk=>bL 11 b [d,k])++ks.drop (j+1)
 have sl:∀j,j+1<=ks.length->(S j).length=ks.length:=λj p=>by simp[S];omega
 refine lm (m:=ks.length) (λm(s:Int×U J)=>∃j:Nat,s=((j:Int),S j)/\j+1<=ks.length/\m=ks.length-j) B9 ⟨0,by show(_,_)=(_,_);congr 1;simp only[S,List.take_zero,Lb,Lm];exact(NY 1 ks).symm,by omega,rfl⟩ ?_;rintro m _ ⟨j,rfl,p,rfl⟩;dsimp only;have A:((((ks.drop (1:Int).toNat).take ((gn ks).toNat-(1:Int).toNat)).map J.aq).length:Int)=((ks.length-1:Nat):Int):=by
  simp only[gn,CU,B7,JB,KP];have:(1:Int).toNat=1:=rfl;rw[this];omega
 rw[A];have C:w6 ((j:Int)+1)=((j+1:Nat):Int):=by show IntKind.i64.wrap _=_;rw[BW];omega
 refine cZ (λc=>?_) λc=>bb ?_
 .simp only[FW]at c;rw[C];refine fA ⟨by omega,by omega⟩ λx _ hx=>?_
  rw[JX]at hx;refine ct (P:=λr=>r=d) ⟨_,t,rfl⟩ λr l=>?_
  subst l;have:=sl j p;refine hC Ez (fA ⟨by omega,by omega⟩ λy _ _=>bb ⟨ks.length-(j+1),by omega,j+1,?_,by omega,rfl⟩);have n:(ks.drop 1)[j]?=some x:=by rw[L1,LL];exact hx
  have D:ks.drop (j+1)=x::ks.drop (j+1+1):=by
   obtain⟨K,o⟩:=LI.1 hx;rw[NW K,o]
  have q:(ks.take 1++((ks.drop 1).take j).map (λk=>bL 11 b [r,k])).length=j+1:=by simp;omega
  show(_,_)=(_,_)
  congr 1;simp only[S];rw[JX,D,List.set_append_right _ _ (by rw[q];exact Hq _),q,Nat.sub_self,agH,G6 (i:=j),n];simp
 .simp only[Ic]at c;have e1:S j=Uu b d ks:=by
   have L:(ks.drop 1).take j=ks.drop 1:=L6 (by simp only[KP];omega);have N:ks.drop (j+1)=[]:=Lo B9;simp only[S,Uu,L,N,Lm]
  show AU (f (S j)) Q
  rw[e1];exact k
structure US(s:aC)(t:V)(c:ByteArray):Prop where
 kd:s.ah=2
 nm:s.value.ay=[c]
 cl:c∈t.ae.map (·.name)
 k7:s.value.ah=7
 v0:∃v,aA s.value.au 0=some v/\v.ah=3/\v.name=s.bind
 bd:jf s.bind=false
 ks:∀k∈s.value.au,wB 20 k/\fK 20 k
 k1:1<=s.value.au.length
 k9:s.value.au.length<=9
def qW{l c}(h:c∈l):aJ l c=true:=It.2 ⟨c,h,gO c⟩
def pV{w t s c}(h:US s t c)(g:t.ae.length<=1000):PM w t s=some true:=cF (by
 obtain⟨v,e,i,k⟩:=h.v0;unfold PM;refine cZ (λc=>by rw[h.k7]at c;cases c) λ_=>?_
 refine ct (P:=λr=>r=v) ⟨_,e,rfl⟩ λr x=>?_
 subst x;refine cZ (λc=>by rw[i]at c;cases c) λ_=>?_
 refine ct (P:=λf=>f=r) ⟨_,e,rfl⟩ λf x=>?_
 subst x;refine cZ (λc=>by rw[k,gO]at c;cases c) λ_=>?_
 rw[h.nm];refine fB (λj _=>True) trivial (λj y a n l m o=>?_) λ_ _=>bb rfl
 have z:j=0:=by simpa using m
 subst z;have b:y=c:=by simpa using l
 subst b;refine hC NP (ct (tZ _ _) λv d=>?_);rw[d];refine cZ (λc=>by simp[aJ]at c) λ_=>?_
 refine ct (P:=λr=>r=t.ae.map (·.name)) ⟨_,by rw[yx g,avr],rfl⟩ λr x=>?_
 subst x;refine ct (P2 _ _) λv d=>?_
 rw[d,qW h.cl];exact bb trivial)
def sF{l c}(h:c∈l):([c].any λn=> !aJ l n)=false:=by simp[qW h]
def ue{k c}:([c].any (aJ k))=k.any (aJ [c]):=by
 simp only[List.any_cons,List.any_nil,Bool.or_false,aJ];congr 1;funext x;show bg x c=(bg c x||false);rw[Bool.or_false,lM]
def acX{gw m w}(z:WR gw m w)(k1:w.x.ah=1\/w.x.ah=6){y}(X:y.length<=20){s t}(i:iC w.gj s.ai=some (t,true))(t1:t.ae.length<=1000)(t2:t.key.length<=1000)(t3:t.aX.length<=1000){v}(n1:cv m s.ai=some v)(a:VS w s.ai v)(hj:v.bK=[])(d:s.ai=w.x.ai)(j:∀x∈y,x∈L0)(e:s.bind∈L0){e1 e2}(o:sE e1)(g:sE e2):
 ∃r,fj gw m y s e1 e2=some r/\oI w y s e1 e2=some r/\dR r:=by
 have p:=z.ul;have C:=Qe i t1 t2 t3;obtain⟨f,f1,f2,f4,f3⟩:=g.oU;obtain⟨q,q1,q2,_⟩:=qD qC (l:=w.u++y++[s.bind]++f) (l':=w.u++y++[s.bind]++f) L0 VQ (fa (fa (fa z.uL j) (by simpa using e)) f4.2) λ_=>rfl
 obtain⟨te,g1,K,g3⟩:=sC (gw:=gw) (m:=m) (nm:=s.bind) a z.eJ p z.uL e o.1 o.2.1 o.2.2 VQ;obtain⟨ro,r1,L,r3⟩:=a.np s.bind [] (by rw[hj];rfl);obtain⟨u,u',hu,D,uc,u1,u2,u3⟩:=z.fT B9;obtain⟨N,P⟩:=tX (m:=m) (q:=q) z.x hu D uc u1 u2 u3 z.hd z.h6;have Q:=yw (n:=w.x.ai) (q:=q) (t:=u) (A:=u.ae.map (·.name)) z.hD;generalize ip 6 (u.ae.map (·.name)) (u.ae.map λc=>pS w.x w.x.ai q c.name)=fe at N P Q;have d1:pp [w.u,y,[s.bind],f]=some (w.u++y++[s.bind]++f):=cF ((G3 NP Ar).mono λr hr=>by rw[hr];simp);have d2:gu w.u y=some (w.u++y):=cF (nY B9 B9);have d3:ck ((w.u++y).length+([s.bind]:U Z).length) 16=some ():=og Ar;have d4:gu (w.u++y++[s.bind]) f=some (w.u++y++[s.bind]++f):=cF (nY Ar B9);have e:((Y (w.x.ah==1) (some true) (some (w.x.ah==6))):T At)=some true:=by rcases k1 with k|k<;>simp[Y,k]
 refine⟨([(aC.mk 2 s.ai s.bind te (bL 11 s.bind [ro,(bL 11 q [e2,fe])]) 0 0)],0),?_,?_,uq (g3.le VQ) (dx (dc (r3.dE.le VQ) (dc (dx (dc (g.dE.le VQ) (dc (Q.le VQ) dn))) dn))) mG⟩
 .unfold fj;rw[n1];simp only[Option.elim,z.gj,C,Option.b,B2,z.x,e,f1,z.eJ,d1,q1,g1,r1,N];rfl
 .unfold oI;rw[d]at i K L;simp only[d,i,Option.b,B2,e,d2,d3,f2,d4,q2,K,L,P];rfl
def acW{gw m w}(f:WR gw m w)(z:w.x.ah=5){g s t c}(h:US s t c)(i:iC w.gj s.ai=some (t,true))(t1:t.ae.length<=1000)(t2:t.key.length<=1000)(t3:t.aX.length<=1000)(k:cv m s.ai=none){e1 e2}(l:dE 30 e1)(a:dE 30 e2):
 ∃r,fj gw m g s e1 e2=some r/\oI w g s e1 e2=some r/\dR r:=by
 have d:=Qe i t1 t2 t3;obtain⟨v,n,o,p⟩:=h.v0;have j:((Y (w.x.ah==1) (some true) (some (w.x.ah==6))))=some false:=by simp[z]
 have q:ke [c] (t.ae.map (·.name))=some false:=by rw[mw,sF h.cl]
 have u:iU [w.x.ar] s=some (bg c w.x.ar):=by
  rw[my,h.nm];simp[aJ,lM]
 obtain⟨A,C,e⟩:=tZ [c] w.x.ar;have e:decide (A>=0)=bg c w.x.ar:=by rw[e];simp[aJ]
 have D:=pV (w:=w) h t1;have b5:(w.x.ah !=5)=false:=by simp[z]
 have y:(w.x.ah==5)=true:=by simp[z]
 have k7:(s.value.ah !=7)=false:=by rw[h.k7];rfl
 have K:(v.ah !=3)=false:=by rw[o];rfl
 have L:(!bg v.name s.bind)=false:=by rw[p,gO];rfl
 have kl:(gL [c]!=gL [c])=false:=by simp
 have hs:{s with ah:=2,cond:=e1,value:=e2}={s with cond:=e1,value:=e2}:=by have:=h.kd;simp_all
 refine⟨bif bg c w.x.ar then([],23)else([{s with cond:=e1,value:=e2}],0),?_,?_,Fv mG (uq l a mG)⟩
 .unfold fj;rw[k];simp only[f.gj,d,B2,f.x,j,kL t1,h.nm,n,k7,K,L,kl,q,u,b5,y,hs];cases bg c w.x.ar<;>rfl
 .unfold oI;simp[i,B2,j,D,b5,y,h.nm,C,e];cases bg c w.x.ar<;>rfl
def acV{gw m w}(a:WR gw m w)(k7:w.x.ah=7){e}(f:e.length<=20){s t c}(h:US s t c)(g:iC w.gj s.ai=some (t,true))(t1:t.ae.length<=1000)(t2:t.key.length<=1000)(t3:t.aX.length<=1000)(N:∀v,cv m s.ai=some v->v.bK≠ []/\∀j∈v.bK,j.ai=w.x.ai){e1 e2}(i:s.bind∈L0)(P:sE e1)(k:dE 30 e2):
 ∃r,fj gw m e s e1 e2=some r/\oI w e s e1 e2=some r/\dR r:=by
 have d:=Qe g t1 t2 t3;obtain⟨r,p,Q,X⟩:=ava a k7 f h.kd g t1 t2 t3 (by rw[h.nm];intro n q;simp at q;subst q;exact h.cl) h.bd h.ks h.k9 h.k1 (e2:=e2) i P k N;obtain⟨v,u,v2,v3⟩:=h.v0;have l:((Y (w.x.ah==1) (some true) (some (w.x.ah==6))):T At)=some false:=by simp[Y,k7]
 have A:ke [c] (t.ae.map (·.name))=some false:=by rw[mw,sF h.cl]
 have C:iU t.key s=some (t.key.any (aJ [c])):=by rw[my,h.nm,ue]
 have q3:BE t.key [c]=some (t.key.any (aJ [c])):=cF (Uo _ _);have pe:=pV (w:=w) h t1;have b5:(w.x.ah !=5)=true:=by simp[k7]
 have z:(w.x.ah==5)=false:=by simp[k7]
 have b2:(w.x.ah==2)=false:=by simp[k7]
 have b4:(w.x.ah==4)=false:=by simp[k7]
 have o:(w.x.ah==7)=true:=by simp[k7]
 have D:(s.value.ah !=7)=false:=by rw[h.k7];rfl
 have K:(v.ah !=3)=false:=by rw[v2];rfl
 have L:(!bg v.name s.bind)=false:=by rw[v3,gO];rfl
 have kl:(gL [c]!=gL [c])=false:=by simp
 refine⟨bif t.key.any (aJ [c])then([],23)else r,?_,?_,Fv mG X⟩
 .unfold fj;cases hf:cv m s.ai with
  |none=>
   simp only[Option.elim,a.gj,d,Option.b,B2,a.x,l,kL t1,pU,h.nm,Al,ni,u,D,K,L,kl,A,C,b5,z,o,p];cases t.key.any (aJ [c])<;>rfl
  |some y=>
   simp only[Option.elim,a.gj,d,Option.b,B2,a.x,l,kL t1,pU,h.nm,Al,ni,u,D,K,L,kl,A,C,b5,z,o,p];cases t.key.any (aJ [c])<;>rfl
 .unfold oI;simp only[g,Option.b,B2,l,pe,b5,z,b2,b4,o,h.nm,q3,Q];cases t.key.any (aJ [c])<;>rfl
def acP{gw m w}(e:WR gw m w)(z:w.x.ah=3){f}(g:f.length<=20){s c y}(h:US s y.ai c)(p:cv m s.ai=some y)(a:VS w s.ai y)(i:s.ai=w.x.ai)(t1:y.ai.ae.length<=1000)(t2:y.ai.key.length<=1000)(t3:y.ai.aX.length<=1000){k0}(A:aA y.ai.key 0=some k0)(C:kg w=some k0){j}(D:y.bK=[j])(k:j.ai=w.x.name){e1 e2}(l:s.bind∈L0)(K:sE e1)(n:dE 30 e2):
 ∃r,fj gw m f s e1 e2=some r/\oI w f s e1 e2=some r/\dR r:=by
 have q:=a.Zk;have o:=Qe q t1 t2 t3;obtain⟨r,L,N,P⟩:=avb e g i p a t1 A C D k h.bd h.ks h.k9 h.k1 (e2:=e2) l K n;obtain⟨v,Q,X,v3⟩:=h.v0;have t:((Y (w.x.ah==1) (some true) (some (w.x.ah==6))):T At)=some false:=by simp[Y,z]
 have q1:ke [c] (y.ai.ae.map (·.name))=some false:=by rw[mw,sF h.cl]
 have q2:iU y.ai.key s=some (y.ai.key.any (aJ [c])):=by rw[my,h.nm,ue]
 have q3:BE y.ai.key [c]=some (y.ai.key.any (aJ [c])):=cF (Uo _ _);have pe:=pV (w:=w) h t1;have b5:(w.x.ah !=5)=true:=by simp[z]
 have d:(w.x.ah==5)=false:=by simp[z]
 have b2:(w.x.ah==2)=false:=by simp[z]
 have b4:(w.x.ah==4)=false:=by simp[z]
 have u:(w.x.ah==7)=false:=by simp[z]
 have b3:(w.x.ah==3)=true:=by simp[z]
 have s7:(s.value.ah !=7)=false:=by rw[h.k7];rfl
 have k3:(v.ah !=3)=false:=by rw[X];rfl
 have kn:(!bg v.name s.bind)=false:=by rw[v3,gO];rfl
 have kl:(gL [c]!=gL [c])=false:=by simp
 refine⟨bif y.ai.key.any (aJ [c])then([],23)else r,?_,?_,Fv mG P⟩
 .unfold fj;rw[p];simp only[Option.elim,e.gj,o,Option.b,B2,e.x,t,kL t1,pU,h.nm,Al,ni,Q,s7,k3,kn,kl,q1,q2,b5,d,u,b3,L];cases y.ai.key.any (aJ [c])<;>rfl
 .unfold oI;simp only[q,Option.b,B2,t,pe,b5,d,b2,b4,u,h.nm,q3,N];cases y.ai.key.any (aJ [c])<;>rfl
def abz{gw m w}(f:WR gw m w)(e:w.x.ah=2){l}(C:l.length<=20){s c y}(h:US s y.ai c)(D:cv m s.ai=some y)(z:VS w s.ai y)(K:y.bK=[])(t1:y.ai.ae.length<=1000)(t2:y.ai.key.length<=1000)(t3:y.ai.aX.length<=1000){e1 e2}(i:s.bind∈L0)(n:sE e1)(j:1<=e2.au.length)(t:e2.au.length<=9)(d:dE 20 e2):
 ∃r,fj gw m l s e1 e2=some r/\oI w l s e1 e2=some r/\dR r:=by
 have u:=z.Zk;have o:=Qe u t1 t2 t3;obtain⟨L,N,P,Q⟩:=sC (gw:=gw) (m:=m) (nm:=s.bind) z f.eJ f.ul f.uL i n.1 n.2.1 n.2.2 VQ;obtain⟨X,r1,r2,r3⟩:=z.np s.bind [] (by rw[K];rfl);have p:=z.bV;obtain⟨v,v1,v2,v3⟩:=h.v0;have i:((Y (w.x.ah==1) (some true) (some (w.x.ah==6))):T At)=some false:=by simp[Y,e]
 have q1:ke [c] (y.ai.ae.map (·.name))=some false:=by rw[mw,sF h.cl]
 have q2:iU y.ai.key s=some (y.ai.key.any (aJ [c])):=by rw[my,h.nm,ue]
 have q3:BE y.ai.key [c]=some (y.ai.key.any (aJ [c])):=cF (Uo _ _);have pe:=pV (w:=w) h t1;have b5:(w.x.ah !=5)=true:=by simp[e]
 have g:(w.x.ah==5)=false:=by simp[e]
 have b2:(w.x.ah==2)=true:=by simp[e]
 have b4:(w.x.ah==4)=false:=by simp[e]
 have A:(w.x.ah==7)=false:=by simp[e]
 have b3:(w.x.ah==3)=false:=by simp[e]
 have s7:(s.value.ah !=7)=false:=by rw[h.k7];rfl
 have k3:(v.ah !=3)=false:=by rw[v2];rfl
 have kn:(!bg v.name s.bind)=false:=by rw[v3,gO];rfl
 have kl:(gL [c]!=gL [c])=false:=by simp
 have fk:fG e2.au=some e2.au:=cF akx;have fc:aU (0<=(1:Int)/\1<=(gn e2.au)/\(gn e2.au)<=(gn e2.au))=some ():=BZ Ez;obtain⟨x0,x1⟩:∃x,aA e2.au 0=some x:=by
  obtain⟨a,r,q⟩:=M5 (Jq j);rw[q];exact⟨a,rfl⟩
 refine⟨bif y.ai.key.any (aJ [c])then([],23)else([(aC.mk 2 y.bV s.bind L {e2 with au:=Uu s.bind X e2.au} 0 0)],0),?_,?_,Fv mG (uq (Q.le VQ) ?_ mG)⟩
 .unfold fj;rw[D];simp only[Option.elim,f.gj,o,Option.b,B2,f.x,i,kL t1,pU,h.nm,Al,ni,v1,s7,k3,kn,kl,q1,q2,b5,g,A,b3,N,fk,fc];cases y.ai.key.any (aJ [c])
  .exact cF (avR (ks:=e2.au) (v:=y) j t r1 (hC (by simp[afW j]) (bb rfl)))
  .rfl
 .unfold oI;simp only[u,Option.b,B2,i,pe,b5,g,b2,b4,A,h.nm,q3,p,P,x1];cases y.ai.key.any (aJ [c])
  .exact cF (apC rfl j t r2 x1 (bb rfl))
  .rfl
 .refine(show dE 21 _ from dx λk hk=>?_).le VQ;have d:∀k∈e2.au,dE 19 k:=d;rcases Hy.1 hk with hk|hk
  .exact(d k (LA hk)).le VQ
  .obtain⟨x,hx,rfl⟩:=Hr.1 hk;exact dx (dc (r3.dE.le VQ) (dc (d x (LP hx)) dn))
structure SH(w:aL)(s:aC)(t:V):Prop where
 tb:iC w.gj s.ai=some (t,true)
 t1:t.ae.length<=1000
 t2:t.key.length<=1000
 t3:t.aX.length<=1000
 cB:wB 12 s.cond
 cK:vK 12 s.cond
 cN:vN 12 s.cond
 vB:wB 12 s.value
 vk:vK 12 s.value
 vn:vN 12 s.value
 bl:s.bind∈L0
 up:s.ah≠0->s.ah≠1->∃c,US s t c
structure WK(m:List (ByteArray×aB))(w:aL):Prop where
 pl:∀n v,cv m n=some v->v.plain=(w.x.ah==0)
 hx:∀n v,cv m n=some v->w.x.ah≠7->n=w.x.ai
 j0:∀n v,cv m n=some v->w.x.ah≠3->w.x.ah≠7->v.bK=[]
 j3:∀n v,cv m n=some v->w.x.ah=3->∃j,v.bK=[j]/\j.ai=w.x.name
 j7:∀n v,cv m n=some v->w.x.ah=7->v.bK≠ []/\∀j∈v.bK,j.ai=w.x.ai
 n5:w.x.ah=5->m=[]
 e0:w.x.ah≠5->w.x.ah≠7->∃v,cv m w.x.ai=some v
 ks:w.x.ah∈([0,1,2,3,5,6,7]:List Int)
def avu{gw m w}(e:WR gw m w)(g:WK m w)(k0:w.x.ah≠0){n}(b:n.length<=20)(q:∀x∈n,x∈L0){s t}(hs:SH w s t)(s0:s.ah≠0)(Q:s.ah≠1)(ch:¬w.x.ah=5->¬w.x.ah=7->s.ai=w.x.ai){e1 e2}(k:sE e1)(l:sE e2)(L:e2.au.length=s.value.au.length):
 ∃r,fj gw m n s e1 e2=some r/\oI w n s e1 e2=some r/\dR r:=by
 obtain⟨c,i⟩:=hs.up s0 Q;have N:dE 20 e2:=l.dE;have f:dE 30 e2:=N.le VQ;have u:dE 30 e1:=k.dE.le VQ;by_cases o:w.x.ah=5
 .exact acW e o i hs.tb hs.t1 hs.t2 hs.t3 (by rw[g.n5 o];rfl) u f
 by_cases k7:w.x.ah=7
 .exact acV e k7 b i hs.tb hs.t1 hs.t2 hs.t3 (λv A=>g.j7 _ v A k7) hs.bl k f
 have d:=ch o k7;obtain⟨y,a⟩:=g.e0 o k7;rw[<-d]at a;have z:VS w s.ai y:=by
  rcases e.vs s.ai with⟨C,_⟩|⟨v,C,_,A⟩
  .rw[C]at a;cases a
  .rw[C]at a;cases a;exact A
 have X:y.ai=t:=by have:=z.Zk.symm.trans hs.tb;simpa using this
 subst X;by_cases D:w.x.ah=3
 .obtain⟨j,p,K⟩:=g.j3 _ y a D;obtain⟨kk,g1,P⟩:=e.key;have kt:aA y.ai.key 0=some kk:=by
   have:=P;unfold kg at this;rw[<-d,z.Zk]at this;simpa using this
  exact acP e D b i a z d hs.t1 hs.t2 hs.t3 kt P p K hs.bl k f
 have p:=g.j0 _ y a D k7;have:=g.ks;simp only[BV,G9,G8]at this;by_cases k2:w.x.ah=2
 .exact abz e k2 b i a z p hs.t1 hs.t2 hs.t3 hs.bl k (by rw[L];exact i.k1) (by rw[L];exact i.k9) N
 .exact acX e B9 b hs.tb hs.t1 hs.t2 hs.t3 a z p d q hs.bl k l
def aby{gw m w}(hv:VR gw m w)(hw:WR gw m w)(hk:WK m w){p1}(hp1:p1.length<=20)(hp0:∀x∈p1,x∈L0){s t}(hs:SH w s t):
 ∃r,gB gw m p1 s=some r/\pN w p1 s=some r/\dR r:=by
 have o:fF p1=some p1:=kK B9;have p:gu p1 []=some p1:=cF ((nY B9 NP).mono λr hr=>by rw[hr];simp);have u:ck (p1.length+([s.bind]:U Z).length) 16=some ():=og Ar;have sv:sE s.value:=⟨hs.vB.le VQ,hs.vk.le VQ,hs.vn.le VQ⟩;have v30:dE 30 s.value:=sv.dE.le VQ;have c30:dE 30 s.cond:=hs.cB.dE.le VQ;have q30:∀{e:J},sE e->dE 30 e:=λh=>h.dE.le VQ
 obtain⟨ca,ce,c1,Q,c3⟩:=Nk hv hs.cB hs.cK hs.cN (b:=p1++[s.bind]) Ar;have c4:ce=0->sE ca:=λh=>⟨(c3 h).1,(c3 h).2.1,(c3 h).2.2.1⟩
 have hx:=hw.x;obtain⟨A,C,hf2⟩:∃b,oS w s.ai=some b/\((cv m s.ai=none/\b=false)\/∃v,cv m s.ai=some v/\b=true/\VS w s.ai v):=by
  rcases hw.vs s.ai with⟨n1,n2⟩|⟨v,n1,n2,h⟩
  .exact⟨_,n2,.inl ⟨n1,rfl⟩⟩
  .exact⟨_,n2,.inr ⟨v,n1,rfl,h⟩⟩
 have bs:∀v,cv m s.ai=some v->v.plain=(w.x.ah==0)/\I8 w s.ai=some v.bV:=λv h=>⟨hk.pl _ v h,by
  rcases hf2 with⟨y,_⟩|⟨v',y,_,hvs⟩
  .rw[y]at h;cases h
  .rw[y]at h;cases h;exact hvs.bV⟩
 obtain⟨K,D⟩:∃b,bg s.ai w.x.ai=b:=⟨_,rfl⟩;obtain⟨L,f⟩:∃b,(w.x.ah==5)=b:=⟨_,rfl⟩;obtain⟨X,g⟩:∃b,(w.x.ah==7)=b:=⟨_,rfl⟩;obtain⟨e0,d⟩:∃b,(w.x.ah==0)=b:=⟨_,rfl⟩;have hk3:(s.ah=0/\(s.ah !=0)=false/\(s.ah !=1)=true/\(s.ah==0)=true/\(s.ah==1)=false)\/(s.ah=1/\(s.ah !=0)=true/\(s.ah !=1)=false/\(s.ah==0)=false/\(s.ah==1)=true)\/(s.ah≠0/\s.ah≠1/\(s.ah !=0)=true/\(s.ah !=1)=true/\(s.ah==0)=false/\(s.ah==1)=false):=by
  by_cases a:s.ah=0
  .simp[a]
  .by_cases b:s.ah=1
   .simp[b]
   .simp[a,b]
 have ch:(e0|| !(A||(K&&(L||X))))=false->e0=false/\w.x.ah≠0/\(A||(K&&(L||X)))=true/\(¬w.x.ah=5->¬w.x.ah=7->s.ai=w.x.ai):=λhA=>by
  simp only[Bool.or_eq_false_iff,Bool.not_eq_false']at hA;obtain⟨rfl,hA⟩:=hA;refine⟨rfl,by simpa using d,hA,λa b=>?_⟩;rcases hf2 with⟨_,rfl⟩|⟨v,y,_,_⟩
  .simp[<-f,<-g,a,b]at hA
  .exact hk.hx _ v y b
 have nm:(e0|| !(A||(K&&(L||X))))=true->∃n:Z,(∀v,cv m s.ai=some v->v.plain=true/\v.bV=n)/\(A=false->n=s.ai)/\(A=true->n=w.x.name/\e0=true)/\(e0=true->L=false/\X=false):=λhA=>by
  have q:e0=true->L=false/\X=false:=λh=>by
   rw[h]at d;have k0:w.x.ah=0:=by simpa using d
   rw[<-f,<-g,k0];exact⟨rfl,rfl⟩
  rcases hf2 with⟨y,rfl⟩|⟨v,y,rfl,hvs⟩
  .exact⟨s.ai,λv hv=>(by rw[y]at hv;cases hv),λ_=>rfl,λh=>(by cases h),q⟩
  .have e1:e0=true:=by simpa using hA
   refine⟨w.x.name,λv' hv=>?_,λh=>(by cases h),λ_=>⟨rfl,e1⟩,q⟩;have b:=(bs v' hv).2;unfold I8 at b;rw[d,e1]at b;exact⟨by rw[(bs v' hv).1,d,e1],(GZ b).symm⟩
 rcases hk3 with⟨a0,b0,i,k,l⟩|⟨a0,b0,i,k,l⟩|⟨a0,a1,b0,i,k,l⟩
 .obtain⟨va,ve,N,P,u3⟩:=Nk hv hs.vB hs.vk hs.vn (b:=p1) B9;by_cases z:ve=0
  .subst z;have hva:sE va:=⟨(u3 rfl).1,(u3 rfl).2.1,(u3 rfl).2.2.1⟩;cases hA:e0|| !(A||(K&&(L||X)))
   .obtain⟨rfl,k0,hA,ch⟩:=ch hA;obtain⟨r,r1,r2,r3⟩:=avo hw k0 hp1 hp0 sv hva c30;refine⟨r,?_,?_,r3⟩
    .unfold gB;rcases hf2 with⟨y,rfl⟩|⟨v,y,rfl,_⟩
     .revert hA;cases K<;>cases L<;>cases X<;>intro hA<;>first|(simp at hA;done)|(simp only[o,p,u,Option.b,Option.j,B2,FM,G1,G5,HX,iX,hx,D,f,g,d,C,Option.elim,GY,GU,H9,cN,Y,il,ir,b0,i,k,l,Hn,N,P,y,r1];done)
     .obtain⟨g1,g2⟩:=bs v y;cases K<;>cases L<;>simp only[o,p,u,Option.b,Option.j,B2,FM,G1,G5,HX,iX,hx,D,f,g,d,C,Option.elim,GY,GU,H9,cN,Y,il,ir,b0,i,k,l,Hn,N,P,y,g1,r1]
    .unfold pN;revert hA;cases A<;>cases K<;>cases L<;>cases X<;>intro hA<;>first|(simp at hA;done)|(simp only[o,p,u,Option.b,Option.j,B2,FM,G1,G5,HX,iX,hx,D,f,g,d,C,Option.elim,GY,GU,H9,cN,Y,il,ir,b0,i,k,l,Hn,N,P,r2];done)
   .obtain⟨n,n1,n2,n3,n4⟩:=nm hA;refine⟨([{s with ai:=n,cond:=s.cond,value:=va}],0),?_,?_,uq c30 (q30 hva) mG⟩
    .unfold gB;rcases hf2 with⟨y,rfl⟩|⟨v,y,rfl,_⟩
     .obtain rfl:=n2 rfl;cases e0<;>cases K<;>cases L<;>cases X<;>first|(simp at hA;done)|(simp at n4;done)|(simp only[o,p,u,Option.b,Option.j,B2,FM,G1,G5,HX,iX,hx,D,f,g,d,C,Option.elim,GY,GU,H9,cN,Y,il,ir,b0,i,k,l,Hn,N,P,y];done)
     .obtain⟨g1,g2⟩:=n1 v y;obtain⟨_,rfl⟩:=n3 rfl;obtain⟨rfl,rfl⟩:=n4 rfl;cases K<;>simp only[o,p,u,Option.b,Option.j,B2,FM,G1,G5,HX,iX,hx,D,f,g,d,C,Option.elim,GY,GU,H9,cN,Y,il,ir,b0,i,k,l,Hn,N,P,y,g1,g2]
    .unfold pN;cases hh:A
     .obtain rfl:=n2 hh;subst hh;cases e0<;>cases K<;>cases L<;>cases X<;>first|(simp at hA;done)|(simp at n4;done)|(simp only[o,p,u,Option.b,Option.j,B2,FM,G1,G5,HX,iX,hx,D,f,g,d,C,Option.elim,GY,GU,H9,cN,Y,il,ir,b0,i,k,l,Hn,N,P];done)
     .obtain⟨rfl,rfl⟩:=n3 hh;subst hh;obtain⟨rfl,rfl⟩:=n4 rfl;cases K<;>simp only[o,p,u,Option.b,Option.j,B2,FM,G1,G5,HX,iX,hx,D,f,g,d,C,Option.elim,GY,GU,H9,cN,Y,il,ir,b0,i,k,l,Hn,N,P]
  .have z0:(ve !=0)=true:=by simpa using z
   have z1:(ve==0)=false:=by simpa using z
   refine⟨([],ve),?_,?_,mG⟩
   .unfold gB;simp only[o,p,u,Option.b,Option.j,B2,FM,G1,G5,HX,iX,hx,D,f,g,d,C,Option.elim,GY,GU,H9,cN,Y,il,ir,b0,i,k,l,Hn,N,P,z0]
   .unfold pN;simp only[o,p,u,Option.b,Option.j,B2,FM,G1,G5,HX,iX,hx,D,f,g,d,C,Option.elim,GY,GU,H9,cN,Y,il,ir,b0,i,k,l,Hn,N,P,z0,z1]
 .by_cases z:ce=0
  .subst z;have hca:=c4 rfl;cases hA:e0|| !(A||(K&&(L||X)))
   .obtain⟨rfl,k0,hA,ch⟩:=ch hA;obtain⟨r,r1,r2,r3⟩:=avl hw hp1 (s:=s) hs.bl hca v30;refine⟨r,?_,?_,r3⟩
    .unfold gB;rcases hf2 with⟨y,rfl⟩|⟨v,y,rfl,_⟩
     .revert hA;cases K<;>cases L<;>cases X<;>intro hA<;>first|(simp at hA;done)|(simp only[o,p,u,Option.b,Option.j,B2,FM,G1,G5,HX,iX,hx,D,f,g,d,C,Option.elim,GY,GU,H9,cN,Y,il,ir,b0,i,k,l,Hn,c1,Q,y,r1];done)
     .obtain⟨g1,g2⟩:=bs v y;cases K<;>cases L<;>simp only[o,p,u,Option.b,Option.j,B2,FM,G1,G5,HX,iX,hx,D,f,g,d,C,Option.elim,GY,GU,H9,cN,Y,il,ir,b0,i,k,l,Hn,c1,Q,y,g1,r1]
    .unfold pN;revert hA;cases A<;>cases K<;>cases L<;>cases X<;>intro hA<;>first|(simp at hA;done)|(simp only[o,p,u,Option.b,Option.j,B2,FM,G1,G5,HX,iX,hx,D,f,g,d,C,Option.elim,GY,GU,H9,cN,Y,il,ir,b0,i,k,l,Hn,c1,Q,r2];done)
   .obtain⟨n,n1,n2,n3,n4⟩:=nm hA;refine⟨([{s with ai:=n,cond:=ca,value:=s.value}],0),?_,?_,uq (q30 hca) v30 mG⟩
    .unfold gB;rcases hf2 with⟨y,rfl⟩|⟨v,y,rfl,_⟩
     .obtain rfl:=n2 rfl;cases e0<;>cases K<;>cases L<;>cases X<;>first|(simp at hA;done)|(simp at n4;done)|(simp only[o,p,u,Option.b,Option.j,B2,FM,G1,G5,HX,iX,hx,D,f,g,d,C,Option.elim,GY,GU,H9,cN,Y,il,ir,b0,i,k,l,Hn,c1,Q,y];done)
     .obtain⟨g1,g2⟩:=n1 v y;obtain⟨_,rfl⟩:=n3 rfl;obtain⟨rfl,rfl⟩:=n4 rfl;cases K<;>simp only[o,p,u,Option.b,Option.j,B2,FM,G1,G5,HX,iX,hx,D,f,g,d,C,Option.elim,GY,GU,H9,cN,Y,il,ir,b0,i,k,l,Hn,c1,Q,y,g1,g2]
    .unfold pN;cases hh:A
     .obtain rfl:=n2 hh;subst hh;cases e0<;>cases K<;>cases L<;>cases X<;>first|(simp at hA;done)|(simp at n4;done)|(simp only[o,p,u,Option.b,Option.j,B2,FM,G1,G5,HX,iX,hx,D,f,g,d,C,Option.elim,GY,GU,H9,cN,Y,il,ir,b0,i,k,l,Hn,c1,Q];done)
     .obtain⟨rfl,rfl⟩:=n3 hh;subst hh;obtain⟨rfl,rfl⟩:=n4 rfl;cases K<;>simp only[o,p,u,Option.b,Option.j,B2,FM,G1,G5,HX,iX,hx,D,f,g,d,C,Option.elim,GY,GU,H9,cN,Y,il,ir,b0,i,k,l,Hn,c1,Q]
  .have z0:(ce !=0)=true:=by simpa using z
   have z1:(ce==0)=false:=by simpa using z
   refine⟨([],ce),?_,?_,mG⟩
   .unfold gB;simp only[o,p,u,Option.b,Option.j,B2,FM,G1,G5,HX,iX,hx,D,f,g,d,C,Option.elim,GY,GU,H9,cN,Y,il,ir,b0,i,k,l,Hn,c1,Q,z0]
   .unfold pN;simp only[o,p,u,Option.b,Option.j,B2,FM,G1,G5,HX,iX,hx,D,f,g,d,C,Option.elim,GY,GU,H9,cN,Y,il,ir,b0,i,k,l,Hn,c1,Q,z0,z1]
 .obtain⟨va,ve,N,P,u3⟩:=Nk hv hs.vB hs.vk hs.vn (b:=p1++[s.bind]) Ar;by_cases z:ce=0
  .subst z;have hca:=c4 rfl;by_cases z:ve=0
   .subst z;have hva:sE va:=⟨(u3 rfl).1,(u3 rfl).2.1,(u3 rfl).2.2.1⟩;have hvl:va.au.length=s.value.au.length:=(u3 rfl).2.2.2 (by obtain⟨c,hc⟩:=hs.up a0 a1;rw[hc.k7];decide);cases hA:e0|| !(A||(K&&(L||X)))
    .obtain⟨rfl,k0,hA,ch⟩:=ch hA;obtain⟨r,r1,r2,r3⟩:=avu hw hk k0 hp1 hp0 hs a0 a1 ch hca hva hvl;refine⟨r,?_,?_,r3⟩
     .unfold gB;rcases hf2 with⟨y,rfl⟩|⟨v,y,rfl,_⟩
      .revert hA;cases K<;>cases L<;>cases X<;>intro hA<;>first|(simp at hA;done)|(simp only[o,p,u,Option.b,Option.j,B2,FM,G1,G5,HX,iX,hx,D,f,g,d,C,Option.elim,GY,GU,H9,cN,Y,il,ir,b0,i,k,l,Hn,c1,Q,N,P,y,r1];done)
      .obtain⟨g1,g2⟩:=bs v y;cases K<;>cases L<;>simp only[o,p,u,Option.b,Option.j,B2,FM,G1,G5,HX,iX,hx,D,f,g,d,C,Option.elim,GY,GU,H9,cN,Y,il,ir,b0,i,k,l,Hn,c1,Q,N,P,y,g1,r1]
     .unfold pN;revert hA;cases A<;>cases K<;>cases L<;>cases X<;>intro hA<;>first|(simp at hA;done)|(simp only[o,p,u,Option.b,Option.j,B2,FM,G1,G5,HX,iX,hx,D,f,g,d,C,Option.elim,GY,GU,H9,cN,Y,il,ir,b0,i,k,l,Hn,c1,Q,N,P,r2];done)
    .obtain⟨n,n1,n2,n3,n4⟩:=nm hA;refine⟨([{s with ai:=n,cond:=ca,value:=va}],0),?_,?_,uq (q30 hca) (q30 hva) mG⟩
     .unfold gB;rcases hf2 with⟨y,rfl⟩|⟨v,y,rfl,_⟩
      .obtain rfl:=n2 rfl;cases e0<;>cases K<;>cases L<;>cases X<;>first|(simp at hA;done)|(simp at n4;done)|(simp only[o,p,u,Option.b,Option.j,B2,FM,G1,G5,HX,iX,hx,D,f,g,d,C,Option.elim,GY,GU,H9,cN,Y,il,ir,b0,i,k,l,Hn,c1,Q,N,P,y];done)
      .obtain⟨g1,g2⟩:=n1 v y;obtain⟨_,rfl⟩:=n3 rfl;obtain⟨rfl,rfl⟩:=n4 rfl;cases K<;>simp only[o,p,u,Option.b,Option.j,B2,FM,G1,G5,HX,iX,hx,D,f,g,d,C,Option.elim,GY,GU,H9,cN,Y,il,ir,b0,i,k,l,Hn,c1,Q,N,P,y,g1,g2]
     .unfold pN;cases hh:A
      .obtain rfl:=n2 hh;subst hh;cases e0<;>cases K<;>cases L<;>cases X<;>first|(simp at hA;done)|(simp at n4;done)|(simp only[o,p,u,Option.b,Option.j,B2,FM,G1,G5,HX,iX,hx,D,f,g,d,C,Option.elim,GY,GU,H9,cN,Y,il,ir,b0,i,k,l,Hn,c1,Q,N,P];done)
      .obtain⟨rfl,rfl⟩:=n3 hh;subst hh;obtain⟨rfl,rfl⟩:=n4 rfl;cases K<;>simp only[o,p,u,Option.b,Option.j,B2,FM,G1,G5,HX,iX,hx,D,f,g,d,C,Option.elim,GY,GU,H9,cN,Y,il,ir,b0,i,k,l,Hn,c1,Q,N,P]
   .have z0:(ve !=0)=true:=by simpa using z
    have z1:(ve==0)=false:=by simpa using z
    refine⟨([],ve),?_,?_,mG⟩
    .unfold gB;simp only[o,p,u,Option.b,Option.j,B2,FM,G1,G5,HX,iX,hx,D,f,g,d,C,Option.elim,GY,GU,H9,cN,Y,il,ir,b0,i,k,l,Hn,c1,Q,N,P,z0]
    .unfold pN;simp only[o,p,u,Option.b,Option.j,B2,FM,G1,G5,HX,iX,hx,D,f,g,d,C,Option.elim,GY,GU,H9,cN,Y,il,ir,b0,i,k,l,Hn,c1,Q,N,P,z0,z1]
  .have z0:(ce !=0)=true:=by simpa using z
   have z1:(ce==0)=false:=by simpa using z
   refine⟨([],ce),?_,?_,mG⟩
   .unfold gB;simp only[o,p,u,Option.b,Option.j,B2,FM,G1,G5,HX,iX,hx,D,f,g,d,C,Option.elim,GY,GU,H9,cN,Y,il,ir,b0,i,k,l,Hn,c1,Q,N,P,z0]
   .unfold pN;simp only[o,p,u,Option.b,Option.j,B2,FM,G1,G5,HX,iX,hx,D,f,g,d,C,Option.elim,GY,GU,H9,cN,Y,il,ir,b0,i,k,l,Hn,c1,Q,N,P,z0,z1]
def uf{z b c ρ:Type}{f g:Nat->b->z->T (z⊕(c⊕ρ))}{p}:∀{xs i s},(∀j x s,x∈xs->f j x s=g j x s)->bo f p i xs s=bo g p i xs s
 | [],_,_,_=>rfl
 |x::xs,i,s,h=>by
  unfold bo;rw[h i x s NP];congr 1;funext a;cases a with
  |inl e=>exact uf λj y s d=>h j y s (by simp[d])
  |inr q=>rfl
def dL(l:U aC):Prop:=∀s∈l,dE 30 s.cond/\dE 30 s.value
def avQ{gw m w}(v:VR gw m w)(c:WR gw m w)(A:WK m w)(u:decide (0<m.length)=w.gj.an.any λt=>(oS w t.name).getD false){y}(d:y.length<=20)(f:∀x∈y,x∈L0){l}(L:l.length<=1000)(hs:∀s∈l,∃t,SH w s t):
 ∃r,pL gw m y l=some r/\BH w y l=some r/\dL r.1:=by
 have st:∀s∈l,∃r,gB gw m y s=some r/\pN w y s=some r/\dR r:=λs h=>by
  obtain⟨t,z⟩:=hs s h;exact aby v c A d f z
 have e:pL gw m y l=BH w y l:=by
  refine JV (λo=>Option.bind o _) (uf λj x s hx=>?_);obtain⟨r,C,g,_⟩:=st x hx;obtain⟨b,D,i⟩:=anT c u (l:=(l.drop (0:Int).toNat).take ((j:Int).toNat-(0:Int).toNat)) (s:=x);simp only[C,g,D,i]
 have q:AU (BH w y l) λr=>dL r.1:=by
  refine fB (λj a=>a.length<=2*j/\dL a) ⟨by simp,λs h=>by simp at h⟩ (λj x a hx k N n=>?_) λa n=>bb n.2
  refine hC ⟨by decide,by omega,by simp;omega⟩ ?_;obtain⟨b,_,i⟩:=anT c u;rw[i];obtain⟨r,_,g,p⟩:=st x k;refine cZ (λ_=>bb (bb λs h=>by simp at h)) λ_=>?_
  rw[g];refine cZ (λ_=>bb (bb λs h=>by simp at h)) λ_=>eT (by have:=p.1;omega) (bb ⟨by have:=p.1;simp;omega,λs h=>?_⟩)
  rcases Hy.1 h with h|h
  .exact n.2 s h
  .exact p.2 s h
 obtain⟨r,z,K⟩:=q;exact⟨r,e.trans z,z,K⟩
def ae0{l}(h:dL l):AU (PO l l) λr=>r=true:=by
 refine cZ (λc=>by simp at c) λ_=>?_
 refine fB (λ_ _=>True) trivial (λj x s hx z f _=>?_) λ_ _=>bb rfl
 have n:aA l j=some x:=by
  obtain⟨y,e,e2,_⟩:=qu (xs:=l) (i:=j) B9 B9;rw[JX,hx]at e2;rw[e,<-e2]
 have a:=cF (O0 (h x z).1 (by decide:30<=1000000));have d:=cF (O0 (h x z).2 (by decide:30<=1000000));simp[n,a,d];exact bb trivial
def lN{f:Z->T J}{g:Z->J}{cs}(q:cs.length<=1000)(e:∀c∈cs,f c.name=some (g c.name)):
 (fI (λ t(y:af)=>λ(a,d)=>((ck (a.length+([y.name]:U Z).length) 16).b λi=>(f y.name).b λx=>(ck (d.length+([x]:U J).length) 136).b λk=>il ((a++[y.name]),(d++[x])))) cs ([],[])).j (λ(l,m)=>some (ip 6 l m))=some (ip 6 (cs.map (·.name)) (cs.map λc=>g c.name)):=cF (by
 refine fB (λj s=>s=((cs.take j).map (·.name),(cs.take j).map λc=>g c.name)) rfl (λj c s n o u z=>?_) λs z=>bb (by rw[z,Gq])
 subst z;refine eT Ar (ct ⟨_,e c o,rfl⟩ λr p=>eT Ar (bb ?_));subst p
 rw[G6,n];simp)
def gx(x:GStep)(k0:Z)(cs:U Z)(nm:Z)(l:U Z)(c:Z):J:=
 if x.ah=1/\bg c x.ar=true then bL 8 x.name [cw 3 nm]
 else if x.ah=3/\aJ x.ae c=true then bL 8 c [cw 3 (l.getD 0 bk)]
 else if x.ah=6/\bg c x.ar=true then J.mk 13 bk 0 bk x.ae [bk,bk] [(bL 8 c [(cw 3 nm)]),(cw 2 bk),(U5 2)] 0 0
 else if x.ah=7/\aJ cs c=true then bL 8 k0 [cw 3 (l.getD 0 bk)]
 else bL 8 c [cw 3 nm]
def ant{x k0 nm c cs l}(h6:x.ah=6->x.ae.length<=8):wB 3 (gx x k0 cs nm l c):=by
 have f:∀a b:Z,wB 3 (bL 8 a [cw 3 b]):=λa b=>by simp[wB]
 unfold gx;split
 .exact f _ _
 .split
  .exact f _ _
  .split
   .rename_i h;have:=h6 h.1;simp[wB,this]
   .split<;>exact f _ _
def ug{x:Type}{k n}{v:x}:∀{m},cv (jr m k v) n=cond (bg n k) (some v) (cv m n)
 | []=>rfl
 |p::r=>by
  show cv (cond (bg k p.1) _ _) n=cond _ _ (cond (bg n p.1) _ _)
  cases h:bg k p.1
  .show cond (bg n p.1) _ _=_
   rw[ug];cases y:bg n p.1
   .rfl
   .cases z:bg n k
    .rfl
    .rw[fD z]at y;rw[y]at h;cases h
  .have:=fD h;subst this
   show cond (bg n p.1) _ _=_
   cases bg n p.1<;>rfl
structure SQ(s:aj):Prop where
 hd:∀t∈s.an,iC s t.name=some (t,true)
 c1:∀t∈s.an,t.ae.length<=5/\t.key.length<=100/\t.aX.length<=1
 k0:∀t∈s.an,∃k0,aA t.key 0=some k0
 ne:∀t∈s.an,jf t.name=false
def pW{s n t}(h:iC s n=some (t,true)):t∈s.an/\t.name=n:=by
 have:AU (iC s n) λr=>r.2=true->r.1∈s.an/\r.1.name=n:=by
  refine fB (λ_ _=>True) trivial (λj y a z x b d=>cZ (λc=>bb (bb λ_=>⟨x,fD c⟩)) λ_=>bb trivial) λ_ _=>bb λh=>by cases h
 obtain⟨r,e,q⟩:=this;rw[h]at e;cases e;exact q rfl
def B3(x:GStep)(k0:Z)(t:V):U bT:=if x.ah=3 then[⟨x.name,k0,k0⟩]else if x.ah=7 then(fV t x.ai).map λc=>⟨x.ai,x.ar,c⟩else[]
def Rf(x:GStep)(gw:ax)(k0:Z)(t:V):kM:=if x.ah=1 then .rc gw else if x.ah=3 then .sp gw else if x.ah=6 then .su gw else if x.ah=7 then .rk (fV t x.ai) k0 else .d
def Uv(x:GStep)(n:Z):Z:=if x.ah=0 then x.name else if x.ah=7 then n else x.ai
structure VD(s:aj)(x:GStep)(gw:ax)(k0 n:ByteArray)(v:aB):Prop where
 tb:iC s n=some (v.ai,true)
 bs:v.bV=Uv x n
 pl:v.plain=(x.ah==0)
 js:v.bK=B3 x k0 v.ai
 gt:v.get=Rf x gw k0 v.ai
 nx:x.ah≠7->n=x.ai
 n7:x.ah=7->fV v.ai x.ai≠ []
def aha{t n}:(fV t n).length<=t.aX.length:=by
 unfold fV;rw[B7];exact LY _ _
def ak1{s x gw m}(o1:gw.gj=s)(x1:gw.x=x)(hs:SQ s){i}(l:i∈s.an)(hx:x.ai=i.name){k0}(p:aA i.key 0=some k0)(h:Zi gw x=some m)(C:x.ah∈([0,1,2,3,4,5,6,7]:U Int)):(∀n v,cv m n=some v->VD s x gw k0 n v)/\(x.ah=5->m=[])/\(x.ah≠5->x.ah≠7->∃v,cv m x.ai=some v)/\x.ah≠4:=by
 have o:∀t∈s.an,wX gw.gj t.name=some (t,true):=λt D=>by
  have:=hs.c1 t D;rw[o1];exact Qe (hs.hd t D) B9 B9 B9
 have f0:=o i l;rw[<-hx]at f0;have mP:=hs.hd i l;rw[<-hx]at mP;have key:∀a,kV gw a x.ai=some k0:=λa=>by simp[kV,f0,p]
 have JG:∀{v:aB},m=[(x.ai,v)]->VD s x gw k0 x.ai v->x.ah≠7->x.ah≠5->x.ah≠4->(∀n v,cv m n=some v->VD s x gw k0 n v)/\(x.ah=5->m=[])/\(x.ah≠5->x.ah≠7->∃v,cv m x.ai=some v)/\x.ah≠4:=λ{v}b d h7 L N=>by
  subst b;refine⟨λn v' g=>?_,λk=>absurd k L,λ_ _=>⟨v,by show cond (bg x.ai x.ai) _ _=_;rw[gO];rfl⟩,N⟩;have g:cond (bg n x.ai) (some v) none=some v':=g;cases f:bg n x.ai
  .rw[f]at g;cases g
  .rw[f]at g;cases g;rw[fD f];exact d
 unfold Zi at h;simp only[BV,G9,G8]at C;rcases C with k|k|k|k|k|k|k|k
 all_goals rw[k]at h
 .simp[mj,nE,x1,f0,jr]at h;exact JG h.symm ⟨mP,by simp[Uv,k],by simp[k],by simp[B3,k],by simp[Rf,k],λ_=>rfl,λq=>by omega⟩ B9 B9 B9
 .simp[ml,wZ,x1,f0,jr]at h;exact JG h.symm ⟨mP,by simp[Uv,k],by simp[k],by simp[B3,k],by simp[Rf,k],λ_=>rfl,λq=>by omega⟩ B9 B9 B9
 .simp[mm,nE,x1,f0,jr]at h;exact JG h.symm ⟨mP,by simp[Uv,k],by simp[k],by simp[B3,k],by simp[Rf,k],λ_=>rfl,λq=>by omega⟩ B9 B9 B9
 .simp[mn,w5,x1,key,f0,jr]at h;exact JG h.symm ⟨mP,by simp[Uv,k],by simp[k],by simp[B3,k],by simp[Rf,k],λ_=>rfl,λq=>by omega⟩ B9 B9 B9
 .cases h
 .cases h;exact⟨λn v h=>(by cases h),λ_=>rfl,λq=>absurd k q,by omega⟩
 .simp[mo,w8,x1,f0,jr]at h;exact JG h.symm ⟨mP,by simp[Uv,k],by simp[k],by simp[B3,k],by simp[Rf,k],λ_=>rfl,λq=>by omega⟩ B9 B9 B9
 .have h:kW gw []=some m:=h;refine⟨?_,λq=>by omega,λ_ q=>absurd k q,by omega⟩;have q:AU (kW gw []) λm=>∀n v,cv m n=some v->VD s x gw k0 n v:=by
   unfold kW;refine fB (λ_ a=>∀n v,cv a n=some v->VD s x gw k0 n v) (λn v h=>by cases h) (λj t a K b Q z=>?_) λa z=>bb z
   rw[o1]at b;have tc:=hs.c1 t b;refine ei (AU.mono (P:=λr=>∃u,r= .inl u/\∀n v,cv u n=some v->VD s x gw k0 n v) ?_ ?_)
   .refine fB (λj(s:U bT×U Z)=>s=(((t.aX.take j).filter λr=>bg r.ai x.ai).map λr=>⟨x.ai,x.ar,r.ar⟩,((t.aX.take j).filter λr=>bg r.ai x.ai).map (·.ar))) rfl (λj y c K b Q z=>?_) λc z=>?_
    .subst z;have X:=LY (λr:aD=>bg r.ai x.ai) (t.aX.take j);simp only[JB]at X;have st:(t.aX.take (j+1)).filter (λr=>bg r.ai x.ai)=(t.aX.take j).filter (λr=>bg r.ai x.ai)++cond (bg y.ai x.ai) [y] []:=by
      rw[G6,K,L8];cases hh:bg y.ai x.ai<;>simp[List.filter,hh]
     dsimp only;rw[x1];refine ei (AU.mono (P:=λr=>r= .inl (((t.aX.take (j+1)).filter λr=>bg r.ai x.ai).map λr=>bT.mk x.ai x.ar r.ar,((t.aX.take (j+1)).filter λr=>bg r.ai x.ai).map (·.ar))) (cZ (λc=>eT Ar (eT Ar (bb ?_))) λc=>bb ?_) ?_)
     .rw[st,c];simp
     .rw[st,c];simp
     .rintro _ rfl;exact bb rfl
    .rw[Gq]at z;subst z;have e1:((t.aX.filter λr=>bg r.ai x.ai).map λr=>bT.mk x.ai x.ar r.ar)=(fV t x.ai).map λc=>bT.mk x.ai x.ar c:=by unfold fV;rw[JD];rfl
     dsimp only;rw[e1];refine cZ (λc=>bb ⟨_,rfl,z⟩) λc=>?_
     have w:fV t x.ai≠ []:=λq=>by rw[q]at c;simp at c
     rw[x1,key];refine ct (P:=λr=>r=jr a t.name (aB.mk t t.name false _ (.rk (fV t x.ai) k0))) ⟨_,by unfold w9;rw[o t b];rfl,rfl⟩ λr A=>bb ⟨_,rfl,λn v d=>?_⟩
     rw[A,ug]at d;cases f:bg n t.name
     .rw[f]at d;exact z n v d
     .rw[f]at d;cases d;have:=fD f;subst this;exact⟨hs.hd t b,by simp[Uv,k],by simp[k],by simp[B3,k],by simp[Rf,k],λq=>absurd k q,λ_=>w⟩
   .rintro _ ⟨u,rfl,ha⟩;exact bb ha
  obtain⟨r,e,A⟩:=q;rw[h]at e;cases e;exact A
def Zp x c:Bj [x] c=some (bif bg c x then 0 else -1)/\qq [x] c=some (bif bg c x then 0 else -1):=by
 constructor
 .unfold Bj;cases h:bg c x<;>simp[bo,Y,h]
 .unfold qq;cases h:bg c x<;>rw[lM]at h<;>simp[bo,Y,h]
def Zq c0 c:aJ [c0] c=bg c c0:=by simp[aJ,lM]
def Uw{x:Type}{l}(h:l.length=1)(z:x):∃o,l=[o]/\l.getD 0 z=o/\aA l 0=some o:=by
 match l,h with
 | [o],_=>exact⟨o,rfl,rfl,rfl⟩
def alk{s x gw w k0 n v}(x1:gw.x=x)(o2:w.gj=s)(x2:w.x=x)(hs:SQ s)(K:VD s x gw k0 n v)(kr:kg w=some k0)(h6:x.ah=6->x.ae.length<=8)nm l(u:l.length=v.bK.length):
 ∃e,rf v nm l=some e/\tM w n nm l=some e/\wB 4 e:=by
 obtain⟨tm,_⟩:=pW K.tb;have L:=hs.c1 _ tm;have r1:(fV v.ai x.ai).length<=1:=KV aha L.2.2;obtain⟨t,b,p,js,g⟩:=v;obtain⟨tb,bs,pl,N,P,nx,n7⟩:=K;simp only at tb bs pl N P n7 u L r1 tm;subst N P
 let a0:=gx x k0 (fV t x.ai) nm l
 have A:∀c,lj x.ae c=some (aJ x.ae c):=λc=>cF (Ra _ _)
 have Q:x.ah=3->∃o,l=[o]/\l.getD 0 bk=o/\aA l 0=some o:=λk=>Uw (by rw[u];simp[B3,k]) _
 have X:x.ah=7->(∃o,l=[o]/\l.getD 0 bk=o/\aA l 0=some o)/\∃y,fV t x.ai=[y]:=λk=>by
  have h0:(fV t x.ai).length=1:=by
   have:=KS.2 (n7 k);omega
  obtain⟨y,a,_⟩:=Uw h0 bk;exact⟨Uw (by rw[u];simp[B3,k,h0]) _,y,a⟩
 have C:∀c∈t.ae,PK w n nm l c.name=some (a0 c.name):=λc _=>by
  unfold PK;rw[o2,tb,x2];simp only[Option.b,B2];by_cases k7:x.ah=7
  .obtain⟨⟨o,rfl,e2,e3⟩,y,a⟩:=X k7;have e0:tK t x.ai=some [y]:=by rw[sD B9,a]
   cases h1:bg c.name y<;>cases h2:bg n x.ai<;>cases z:bg c.name x.ar<;>simp[a0,gx,k7,Y,a,e0,Zp,Zq,h1,e2,e3,kr]
  .have j:=nx k7;by_cases k1:x.ah=1
   .cases z:bg c.name x.ar<;>simp[a0,gx,k1,Y,j,z]
   by_cases m:x.ah=3
   .obtain⟨o,rfl,e2,e3⟩:=Q m;obtain⟨i,z1,D⟩:=tZ x.ae c.name;have D:decide (0<=i)=aJ x.ae c.name:=D;cases z:bg c.name x.ar<;>cases h4:aJ x.ae c.name<;>simp[a0,gx,m,Y,j,z,h4,z1,D,e3]
   by_cases q:x.ah=6
   .have e0:gu x.ae []=some x.ae:=cF ((nY (by have:=h6 q;omega) NP).mono λr hr=>by rw[hr];simp);cases z:bg c.name x.ar<;>simp[a0,gx,q,Y,j,z,e0]
   .have b1:(x.ah==1)=false:=by simp[k1]
    have b3:(x.ah==3)=false:=by simp[m]
    have b6:(x.ah==6)=false:=by simp[q]
    have b7:(x.ah==7)=false:=by simp[k7]
    cases z:bg c.name x.ar<;>simp[a0,gx,k1,m,q,k7,b1,b3,b6,b7,Y,j,z]
 refine⟨ip 6 (t.ae.map (·.name)) (t.ae.map λc=>a0 c.name),?_,?_,?_⟩
 .have d:t.ae.length<=1000:=by omega
  unfold rf Rf;split<;>rename_i hq
  all_goals
   simp only[aB.mk.injEq]at hq;obtain⟨rfl,rfl,rfl,rfl,hq⟩:=hq
  .have k:x.ah≠1/\x.ah≠3/\x.ah≠6/\x.ah≠7:=by
    refine⟨λk=>?_,λk=>?_,λk=>?_,λk=>?_⟩<;>simp[k]at hq
   unfold wI wH;rw[lN (f:=λc=>rC c t b p _ nm _) (g:=a0) d λc _=>by simp[rC,a0,gx,k]];rfl
  .rename_i g';have k:x.ah=1/\g'=gw:=by
    by_cases k1:x.ah=1
    .simp[k1]at hq;exact⟨k1,hq.symm⟩
    .simp only[k1,JU]at hq;repeat' split at hq
     all_goals cases hq
   obtain⟨k,rfl⟩:=k;unfold wL wK;rw[lN (f:=λc=>rD c t b p _ _ nm _) (g:=a0) d λc _=>by cases h:bg c.name x.ar<;>simp[rD,wJ,x1,a0,gx,k,h,Y]];rfl
  .rename_i g';have k:x.ah=3/\g'=gw:=by
    by_cases k1:x.ah=3
    .simp[k1]at hq;exact⟨k1,hq.symm⟩
    .simp only[k1,JU]at hq;repeat' split at hq
     all_goals cases hq
   obtain⟨k,rfl⟩:=k;obtain⟨o,rfl,e2,e3⟩:=Q k;unfold wO wN;rw[lN (f:=λc=>rE c t b p _ _ nm _) (g:=a0) d λc _=>by cases h:aJ x.ae c.name<;>simp[rE,wM,x1,A,a0,gx,k,h,Y,e3]];rfl
  .rename_i g';have k:x.ah=6/\g'=gw:=by
    by_cases k1:x.ah=6
    .simp[k1]at hq;exact⟨k1,hq.symm⟩
    .simp only[k1,JU]at hq;repeat' split at hq
     all_goals cases hq
   obtain⟨k,rfl⟩:=k;have e0:qm x.ae=some x.ae:=cF (by unfold qm;exact eT (by have:=h6 k;simp;omega) (bb NP));unfold wR wQ;rw[lN (f:=λc=>rF c t b p _ _ nm _) (g:=a0) d λc _=>by cases h:bg c.name x.ar<;>simp[rF,wP,x1,e0,a0,gx,k,h,Y]];rfl
  .rename_i cs' k';have k:x.ah=7/\cs'=fV t x.ai/\k'=k0:=by
    by_cases k1:x.ah=7
    .simp[k1]at hq;exact⟨k1,hq.1.symm,hq.2.symm⟩
    .simp only[k1,JU]at hq;repeat' split at hq
     all_goals cases hq
   obtain⟨k,rfl,rfl⟩:=k;obtain⟨⟨o,rfl,e2,e3⟩,y,a⟩:=X k;unfold wU wT;rw[lN (f:=λc=>rG c t b p _ _ _ nm _) (g:=a0) d λc _=>by cases h:bg c.name y<;>simp[rG,wS,x1,a,Zp,Zq,a0,gx,k,h,Y,e3]];rfl
 .unfold tM;rw[o2,tb];exact lN (g:=a0) (show t.ae.length<=1000 by omega) C
 .have gk:=λc:af=>ant (x:=x) (k0:=k0) (nm:=nm) (c:=c.name) (cs:=fV t x.ai) (l:=l) h6
  refine⟨nofun,nofun,by simp;omega,by simp,by simp;omega,λk hk=>?_⟩;obtain⟨c,_,rfl⟩:=Hr.1 hk;exact gk c
def ahK{s x gw m w}(hs:SQ s)(D:s.an.length<=8){o}(a:o∈s.an)(hx:x.ai=o.name)(K:x.ah∈([0,1,2,3,4,5,6,7]:U Int))(hd:x.ah=2->Gw x.default=some ((jN 1000000 x.default).getD eK)/\jN 1000000 x.default=some ((jN 1000000 x.default).getD eK))(hD:x.ah=2->dE 4 ((jN 1000000 x.default).getD eK))(A:VR gw m w)(P:RW s x gw m w):
 WR gw m w/\WK m w/\decide (0<m.length)=w.gj.an.any λt=>(oS w t.name).getD false:=by
 obtain⟨o1,o2,x1,x2,us,ul,h25,nt,nn,h6,uL⟩:=P;obtain⟨k0,g⟩:=hs.k0 o a;obtain⟨f,Q,L,X⟩:=ak1 o1 x1 hs a hx g h25 K;have mP:iC w.gj x.ai=some (o,true):=by rw[o2,hx];exact hs.hd o a
 have N:kg w=some k0:=by simp[kg,x2,mP,g]
 have vs:∀n v,cv m n=some v->oS w n=some true/\VS w n v:=λn v h=>by
  have d:=f n v h;rcases A n with⟨y,_⟩|⟨v',e,js,b,y,q,_,_,_,q1,q2,q3,q4,q5,_⟩
  .rw[y]at h;cases h
  .rw[y]at h;cases h;refine⟨q,by rw[o2];exact d.tb,by rw[q1,q4],by rw[q2,q3],?_,⟨k0,N,λi j z=>?_⟩,λnm l D=>alk x1 o2 x2 hs d N (λk=>(h6 k).2) nm l D⟩
   .obtain⟨tm,_⟩:=pW d.tb;have:=KV (aha (n:=x.ai)) (hs.c1 _ tm).2.2;rw[d.js];unfold B3;split
    .simp
    .split
     .simpa using this
     .simp
   rw[d.js]at z;unfold B3 at z;rw[x2];by_cases k7:x.ah=7
   .rw[BY B9,BX k7,K9]at z;obtain⟨c,hc,rfl⟩:=LU.1 z;obtain⟨tm,_⟩:=pW d.tb;rw[BX k7];exact⟨rfl,_,sD (by have:=(hs.c1 _ tm).2.2;omega),hc⟩
   .rw[BY k7];by_cases u:x.ah=3
    .rw[BX u]at z;have:j=⟨x.name,k0,k0⟩:=by
      have:=K3 z;simpa using this
     subst this;exact⟨rfl,rfl⟩
    .rw[BY u,BY k7]at z;simp at z
 refine⟨⟨by rw[x1,x2],by rw[o1,o2],us,by omega,uL,λn=>?_,λk=>?_,?_,?_,?_,?_,by rw[x2];exact X,?_,?_⟩,⟨λn v h=>by rw[x2];exact(f n v h).pl,λn v h k=>?_,λn v h u k7=>?_,λn v h k=>?_,λn v h k=>?_,?_,?_,?_⟩,?_⟩
 .rcases A n with⟨y,q⟩|⟨v,_,_,_,y,_⟩
  .exact .inl ⟨y,q⟩
  .exact .inr ⟨v,y,vs n v y⟩
 .rw[x2]at k |-;obtain⟨v,h⟩:=L B9 B9;exact⟨v,h,(vs _ v h).2,by rw[(f _ v h).js];simp[B3,k]⟩
 .rw[x2];exact hd
 .rw[x2];exact hD
 .rw[x2];exact λk=>(h6 k).1
 .rw[x2];exact nt
 .have:=hs.c1 _ a;rw[x2];exact⟨o,mP,⟨by omega,by omega,by omega⟩,k0,g⟩
 .rw[x2];exact nn
 .rw[x2]at k |-;exact(f n v h).nx k
 .rw[x2]at u k7;rw[(f n v h).js];simp[B3,u,k7]
 .rw[x2]at k |-;rw[(f n v h).js];exact⟨⟨x.name,k0,k0⟩,by simp[B3,k],rfl⟩
 .rw[x2]at k |-;have d:=f n v h;have e:v.bK=(fV v.ai x.ai).map λc=>⟨x.ai,x.ar,c⟩:=by rw[d.js];simp[B3,k]
  rw[e];exact⟨by simpa using d.n7 k,λj z=>by obtain⟨c,_,rfl⟩:=Hr.1 z;rfl⟩
 .rw[x2];exact Q
 .rw[x2];exact L
 .rw[x2];simp only[BV,G9,G8]at K |-;omega
 .have C:∀n,(oS w n).getD false=(cv m n).isSome:=λn=>by
   rcases A n with⟨y,q⟩|⟨v,_,_,_,y,q,_⟩<;>rw[y,q]<;>rfl
  simp only[C];cases m with
  |nil=>simp[cv]
  |cons p r=>
   have h:cv (p::r) p.1=some p.2:=by show cond (bg p.1 p.1) _ _=_;rw[gO];rfl
   obtain⟨tm,tn⟩:=pW (f _ _ h).tb;rw[o2];have:(s.an.any λt=>(cv (p::r) t.name).isSome)=true:=It.2 ⟨_,tm,by rw[tn,h];rfl⟩;rw[this];simp
section
def yE:Nat->J->Prop
 |0,_=>False
 |d+1,e=>((e.ah=10->e.au.length=e.ay.length+1)/\(e.ah=13->e.au.length<=e.binds.length+1)/\e.ay.length<=8/\e.binds.length<=8/\e.au.length<=9/\(e.ah=3->e.au=[]/\e.name∈L0)/\(e.ah=8->e.au≠ []))/\∀k∈e.au,yE d k
def yE.all:∀{d e},yE d e->wB d e/\vK d e/\vN d e/\fK d e
 |0,_,h=>h.elim
 |d+1,e,⟨⟨y,z,a,b,c,h6,f⟩,x⟩=>⟨⟨y,z,a,b,c,λk q=>(x k q).all.1⟩,⟨λq=>(h6 q).1,λk q=>(x k q).all.2.1⟩,⟨λq=>(h6 q).2,λk q=>(x k q).all.2.2.1⟩,⟨f,λk q=>(x k q).all.2.2.2⟩⟩
theorem yE.mono:∀{d e},yE d e->yE (d+1) e
 |0,_,h=>h.elim
 |d+1,_,h=>⟨h.1,λx hx=>(h.2 x hx).mono⟩
def yE.le{d x e}(h:yE d e)(l:d<=x):yE x e:=by
 induction l with
 |refl=>exact h
 |step _ y=>exact y.mono
def Zs{n}(h:eZ n):n∈L0:=Kh _ h
def dY.yE:{d:Nat}->{e:J}->dY d e->yE d e
 |0,_,h=>h.elim
 |d+1,e,⟨h,k⟩=>⟨⟨λe=>h.2.2.2.2.2.2.2.2.2.2.2.2.1 e,λe=>by have:=h.2.2.2.2.2.2.2.2.2.2.2.2.2.2.2.1 e;omega,h.2.2.2.1,h.2.2.2.2.1,h.2.2.2.2.2.1,λq=>⟨h.2.2.2.2.2.2.2.2.2.2.2.2.2.2.2.2.2.2 q,Zs h.2.1⟩,λq=>by
  have:=h.2.2.2.2.2.2.2.2.2.2.2.1 q;intro y;rw[y]at this;cases this⟩,λx hx=>(k x hx).yE⟩
section
variable {d:Nat}
def yM{k n s v p q ns bs ks}(h:k≠10/\k≠13/\k≠3)(y:k=8->ks≠ [])(z:ns.length<=8)(a:bs.length<=8)(lk:ks.length<=9)(b:∀x∈ks,yE d x):yE (d+1) (J.mk k n v s ns bs ks p q):=⟨⟨λe=>absurd e h.1,λe=>absurd e h.2.1,z,a,lk,λe=>absurd e h.2.2,y⟩,b⟩
def yn:∀x∈([]:U J),yE d x:=λ_ h=>by simp at h
def yc{a l}(h:yE d a)(t:∀x∈l,yE d x):∀x∈a::l,yE d x:=λk hk=>by
 rcases BV.1 hk with rfl|hk
 .exact h
 .exact t k hk
def yL{k n s v}(h:k≠10/\k≠13/\k≠3/\k≠8:=by decide):yE (d+1) (J.mk k n v s [] [] [] 0 0):=yM ⟨h.1,h.2.1,h.2.2.1⟩ (λe=>absurd e h.2.2.2) NP NP NP yn
def yK{k n s v a l}(y:l.length<=8)(z:∀x∈a::l,yE d x)(h:k≠10/\k≠13/\k≠3:=by decide):yE (d+1) (J.mk k n v s [] [] (a::l) 0 0):=yM h (λ_=>by simp) NP NP Ee z
def yV{n}(h:aJ L0 n=true):yE (d+1) (J.mk 3 n 0 ⟨#[]⟩ [] [] [] 0 0):=⟨⟨nofun,nofun,by simp,by simp,by simp,λ_=>⟨rfl,iY h⟩,nofun⟩,yn⟩
def yF{c n}(h:aJ L0 n=true):yE (d+2) (J.mk 8 c 0 ⟨#[]⟩ [] [] [J.mk 3 n 0 ⟨#[]⟩ [] [] [] 0 0] 0 0):=yK NP (yc (yV h) yn)
end
def Zt:∀{d n v},vD d v->d<=n->AU (jN n v) (yE (d+1))
 |0,_,_,h,_=>h.elim
 |d+1,0,_,_,h=>absurd h B9
 |d+1,n+1,v,h,g=>by
  have z:=h.2.1;refine fB (λj a=>a.length<=j/\∀x∈a,yE _ x) ⟨by simp,yn⟩ (λj x a _ b i c=>ct (Zt (h.2.2 x b) B9) λe f=>eT (by have:=h.1;simp;omega) (bb ⟨by simp;omega,bY c.2 f⟩)) λa⟨k,y⟩=>?_
  have l:=h.1;refine cZ (λ_=>cZ (λ_=>bb (yK NP (yc yL (yc yL yn)))) λ_=>bb yL) λ_=>cZ (λ_=>bb yL) λ_=>cZ (λ_=>bb yL) λ_=>cZ (λ_=>bb (yM VQ nofun NP NP B9 y)) λ_=>cZ (λ_=>bb (yM VQ nofun z NP B9 y)) λ_=>cZ (λ_=>bb (yM VQ nofun NP NP B9 y)) λ_=>bb yL
def Nl{q:DP}(hq:q.ok){ts t k}(h:P1 t):AU (Vf ⟨q.aT,ts⟩ t k) (yE 3):=by
 refine ct (P:=λ_=>True) (cZ (λ_=>hC VQ (bb trivial)) λ_=>bb trivial) λa _=>cZ (λ_=>bb (yV rfl)) λ_=>?_
 exact hC VQ (ct (aeQ hq h (Y8 _)) λv x=>ct (Zt x VQ) λe y=>bb y)
def Fy{q t}(h:t∈(bU q).an):aJ L0 t.name=true:=by
 rcases eh h with rfl|rfl|⟨rfl,_⟩<;>rfl
def T87{q}(hq:q.ok){t k}(y:t∈(bU q).an)(x:0<=k/\k<=1000000):AU (MU (bU q) t k) (yE 12):=by
 have j:=iJ y;have sl:=kI q;have lp:(0:Int)<((t.ae.map af.aq).length:Int):=by simp;omega
 refine hC VQ (hC B9 (fA ?_ λc z _=>?_))
 .have:=BP (Js x (n:=4) VQ).1 lp;simpa using this
 refine hC VQ (fA ?_ λw _ _=>?_)
 .have:=BP x.1 (n:=4) VQ;simpa using this
 refine hC VQ (ct (Nl hq (qy hq y z)) λl e=>hC VQ (hC VQ (cZ (λ_=>bb yL) λ_=>hC VQ (hC VQ (cZ (λ_=>bb (yK NP (yc (yF rfl) (yc (e.le VQ) yn)))) λ_=>?_)))));have lt:(0:Int)<(((bU q).an.map V.aq).length:Int):=by simp;omega
 refine hC VQ (hC B9 (fA ?_ λu hu _=>?_))
 .have:=BP (Js x (n:=4096) VQ).1 lt;simpa using this
 have m:=iJ hu;have f:(0:Int)<((u.ae.map af.aq).length:Int):=by simp;omega
 refine hC VQ (hC B9 (fA ?_ λd hd _=>?_))
 .have:=BP (Js x (n:=8192) VQ).1 f;simpa using this
 refine ct (P:=λ_=>True) (cZ (λ_=>bb trivial) λ_=>bb trivial) λa _=>?_
 refine ei (AU.mono (P:=λr=>∃a b:J,r= .inl [a,b]/\yE 8 a/\yE 8 b) (cZ (λ_=>fA NP λ_ _ _=>bb ⟨_,_,rfl,yF rfl,yF rfl⟩) λ_=>bb ⟨_,_,rfl,yF rfl,yF rfl⟩) ?_);rintro _ ⟨a,b,rfl,g,i⟩;simp only[G5];refine hC rfl (hC VQ (hC VQ (bb ?_)));refine yK NP (yc (yK NP (yc ?_ yn)) (yc yL yn));exact⟨⟨λ_=>rfl,nofun,by simp,by simp,by simp,nofun,nofun⟩,yc (yV rfl) (yc (yV (Fy hu)) (yc (yK NP (yc g (yc i yn))) yn))⟩
def Rg(ts:U V)(s:aC):Prop:=(0<=s.ah/\s.ah<=2)/\s.bind∈L0/\yE 12 s.cond/\yE 12 s.value/\Uc ts s
def T37{q}(hq:q.ok){a b}(g:0<=a/\a<=100000)(s:0<=b/\b<=100000):AU (Me (bU q) a b) (Rg (bU q).an):=by
 unfold Me;have sl:=kI q;have lt:(0:Int)<(((bU q).an.map V.aq).length:Int):=by simp;omega
 have o:=BP (Js (a:=a) (n:=8) ⟨g.1,by omega⟩ VQ).1 (n:=3) VQ;refine hC B9 (fA (by have:=BP g.1 lt;simpa using this) λt f _=>hC VQ (hC VQ (cZ (λz=>?_) λz=>?_)))
 .have u:=iJ f;refine fB (λj(e:J)=>(e.ah=6/\e.binds=[])/\e.ay.length<=j/\e.au.length<=j/\∀x∈e.au,yE 3 x) ⟨⟨rfl,rfl⟩,by simp,by simp,yn⟩ (λj c e _ i hj p=>?_) λe⟨⟨e1,e2⟩,e3,e4,w⟩=>bb ?_
  .have A:IntKind.i64.wrap ((j:Int)+1)=(j:Int)+1:=by rw[BW];omega
   refine eT Ar (hC (by rw[A];omega) (ct (Nl hq (qy hq f i)) λv C=>eT Ar (bb ?_)));exact⟨p.1,by simp;omega,by simp;omega,bY p.2.2.2 C⟩
  .refine⟨⟨o.1,by dsimp only;omega⟩,iY Uz,yL,(show yE 4 e from⟨⟨by rw[e1];nofun,by rw[e1];nofun,by omega,by rw[e2];simp,by omega,by rw[e1];nofun,by rw[e1];nofun⟩,w⟩).le VQ,t,f,rfl,λk=>absurd EB k⟩
 .have u:=iJ f;have lp:(0:Int)<((t.ae.map af.aq).length:Int):=by simp;omega
  refine hC VQ (ct (T87 hq f (by have:=Js (a:=a) (n:=24) B9 VQ;have h2:a.tdiv 24<=a:=Oo _ g.1;have h3:0<=a.tdiv 24:=Int.tdiv_nonneg g.1 VQ;rw[BW,BW];omega)) λD l=>?_);refine ei (AU.mono (P:=λr=>∃e:J,r= .inl e/\yE 12 e/\((IntKind.i64.wrap _).tmod 3=2->∃c y,c∈t.ae.map (·.name)/\e.ah=7/\e.ay=[c]/\e.au=[J.mk 3 ⟨#[114]⟩ 0 ⟨#[]⟩ [] [] [] 0 0,y])) (cZ (λ_=>?_) λk=>bb ⟨_,rfl,yL,λK=>by rw[K]at k;cases k⟩) ?_)
  .refine hC B9 (fA (by have:=BP s.1 lp;simpa using this) λc i _=>hC VQ (ct (Nl hq (qy hq f i)) λL m=>hC VQ (hC VQ ?_)));refine ct (P:=λ_=>True) (cZ (λ_=>bb trivial) λ_=>bb trivial) λa _=>?_
   refine ei (AU.mono (P:=λr=>∃y:J,r= .inl [J.mk 3 ⟨#[114]⟩ 0 ⟨#[]⟩ [] [] [] 0 0,y]/\yE 4 y) (cZ (λ_=>fA NP λ_ _ _=>bb ⟨_,rfl,yK NP (yc (yF rfl) (yc (yV rfl) yn))⟩) λ_=>bb ⟨_,rfl,m.mono⟩) ?_);rintro _ ⟨y,rfl,N⟩;simp only[G5];exact hC rfl (bb ⟨_,rfl,(yM (d:=4) VQ (λe=>absurd e VQ) NP NP NP (yc (yV rfl) (yc N yn))).le VQ,λ_=>⟨c.name,y,Lt i,rfl,rfl,rfl⟩⟩)
  .rintro _ ⟨e,rfl,ge,Q⟩;refine bb ⟨⟨o.1,by dsimp only;omega⟩,iY Uz,l,ge,t,f,rfl,λX h1=>⟨.inl (show 0<(⟨#[114]⟩:Z).size by decide),Q (by dsimp only at X h1;omega)⟩⟩
def T15{q}(hq:q.ok){l}(t:∀x∈l,qv x):AU (Mh (bU q) l) λr=>r.cx.length<=4/\∀d∈r.cx,d.fL.length<=3/\∀s∈d.fL,Rg (bU q).an s:=by
 refine lm (λk s=>0<=s.1/\s.1<=4/\k=4-s.1.toNat/\s.2.length=s.1.toNat/\∀d∈s.2,d.fL.length<=3/\∀s∈d.fL,Rg (bU q).an s) (m:=4) VQ ⟨by simp,by simp,by simp,rfl,by simp⟩ ?_;rintro k ⟨i,ds⟩ ⟨o,u,rfl,w,b⟩;dsimp only at o u w b |-;refine ct (P:=λr=>r=true->i<4) (cZ (λe=>bb λ_=>by simpa using e) λ_=>bb NP) λa6 h6=>cZ (λe=>?_) λ_=>bb (bb ⟨by dsimp only;omega,b⟩)
 have h4:=h6 e;have y:IntKind.i64.wrap (i+1)=i+1:=by rw[BW];omega
 refine ct (UD ⟨o,by omega⟩) λA C=>kp (by have:(⟨#[112]⟩:Z).size=1:=rfl;omega) ?_
 refine ei (AU.mono (P:=λr=>∃c:U aC,r= .inl c/\c.length<=3/\∀s∈c,Rg (bU q).an s) (AU.aV (λk s=>0<=s.1/\s.1<=3/\k=3-s.1.toNat/\s.2.length=s.1.toNat/\∀x∈s.2,Rg (bU q).an x) (m:=3) VQ ⟨by simp,by simp,by simp,rfl,by simp⟩ ?_) ?_)
 .rintro k ⟨j,ss⟩ ⟨D,K,rfl,L,g⟩;dsimp only at D K L g |-;have N:∀{i n:Int}{p:Type}{f:Int->T p}{Q:p->Prop},0<n->(∀v:Int,0<=v->v<n->AU _ Q)->AU ((tJ l i n).bind f) Q:=λX k=>ct (Ny t X) λv z=>k v z.1 z.2
  refine N VQ λv17 a0 a1=>cZ (λe=>?_) λ_=>bb ⟨_,rfl,by omega,g⟩
  simp at e;have a:IntKind.i64.wrap (j+1)=j+1:=by rw[BW];omega
  refine N VQ λv19 b0 b1=>N VQ λv20 c0 c1=>ct (T37 hq ⟨b0,by omega⟩ ⟨c0,by omega⟩) λv21 z=>eT Ar (bb ⟨_,?_,?_,?_,rfl,?_,bY g z⟩)
  .omega
  .omega
  .omega
  .simp;omega
 .rintro _ ⟨c,rfl,hc,hs⟩;refine eT Ar (bb ⟨_,?_,?_,?_,rfl,?_,bY b ⟨hc,hs⟩⟩)
  .omega
  .omega
  .omega
  .simp;omega
end
end Go.Ab

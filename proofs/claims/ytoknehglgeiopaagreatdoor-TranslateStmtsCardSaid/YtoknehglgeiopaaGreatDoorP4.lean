/- Plain laws. -/
import Derived.Test.YtoknehglgeiopaaGreatDoorP3
set_option linter.all false
set_option maxRecDepth 1000000
set_option maxHeartbeats 20000000
open Go Go.RowKit Go.Proofs
namespace Go.Ab
def anP{q}(hq:q.ok):SQ (bU q):=by
 refine⟨λt h=>?_,λt h=>?_,λt h=>?_,λt h=>?_⟩
 .rcases eh h with rfl|rfl|⟨rfl,x⟩
  .clear h hq;obtain⟨a,cj,sh,k,c,bh,bR,done,dj⟩:=q;cases dj<;>rfl
  .clear h hq;obtain⟨a,cj,sh,k,c,bh,bR,done,dj⟩:=q;cases dj<;>rfl
  .clear h hq;obtain⟨a,cj,sh,k,c,bh,bR,done,dj⟩:=q;cases x;rfl
 .have c:=iJ h;exact⟨c.2.1,by rcases eh h with rfl|rfl|⟨rfl,_⟩<;>simp[DP.ig,DP.cy,jP],c.2.2⟩
 .rcases eh h with rfl|rfl|⟨rfl,_⟩<;>exact⟨_,rfl⟩
 .rcases eh h with rfl|rfl|⟨rfl,_⟩<;>rfl
def yz:∀v∈lL,Gw v=some ((jN 1000000 v).getD eK)/\jN 1000000 v=some ((jN 1000000 v).getD eK)/\dE 4 ((jN 1000000 v).getD eK):=by
 intro v h;simp only[lL,BV,G9,G8]at h;rcases h with rfl|rfl|rfl|rfl<;>exact⟨by kernel_rfl,by kernel_rfl,λ_ h=>by cases h⟩
def stepT{ts}(b:∀t∈ts,aJ L0 t.name=true){t x}(h:mF ts t x):x.ai=t.name/\x.ah∈([0,1,2,3,4,5,6,7]:U Int)/\(x.ah=2->x.default∈lL)/\aJ L0 x.name=true:=by
 have w:∀n∈ef,aJ L0 n=true:=by decide
 cases h with
 |plain a y c=>
  simp only[BV,G9,G8]at c;rcases c with rfl|rfl|rfl|rfl<;>exact⟨rfl,by simp,nofun,w _ y⟩
 |add y d=>exact⟨rfl,by simp,λ_=>d,w _ y⟩
 |split a y z=>exact⟨rfl,by simp,nofun,w _ y⟩
 |BM a y z=>exact⟨rfl,by simp,nofun,w _ y⟩
 |y7 a hu=>exact⟨rfl,by simp,nofun,b _ hu⟩
 |sum a z=>exact⟨rfl,by simp,nofun,rfl⟩
theorem Uc.mono{ts x s}(h:Uc ts s)(k:∀t∈ts,t∈x):Uc x s:=by
 obtain⟨t,y,z,c⟩:=h;refine⟨t,k t y,z,λa b=>?_⟩;obtain⟨d,f⟩:=c a b;exact⟨d.imp id λ⟨u,hu,e⟩=>⟨u,k u hu,e⟩,f⟩
def T98{l k}(h:l.length<2 ^ 62)(c:∀x∈l,qv x)(f:∀x∈k,qv x):AU (F4 l k) λr=>∃q,q.ok/\r.2=bU q/\∀m∈r.1,m.cx.length<=20/\∀d∈m.cx,d.fL.length<=3/\∀s∈d.fL,Rg (bU q).an s:=by
 unfold F4;refine ct (T13 h c) λg⟨b,q,j,bd,y⟩=>ct (T14 y) λn e2=>?_
 subst e2;refine ct (T15 y.ok f) λo i=>?_
 have z:g.length=3:=by have:=JV List.length y.GX;simpa using this
 refine eT (by simp[z]) (bb ⟨q,y.ok,rfl,λm hm=>?_⟩);rcases Hy.1 hm with hm|hm
 .have:=y.BL m hm;refine⟨this.1,λd hd=>⟨(this.2 d hd).sl,λs hs=>?_⟩⟩;have w:=(this.2 d hd).fL s hs;refine⟨w.ah,Zs w.bind,w.cond.yE,w.value.yE,((this.2 d hd).so s hs).mono λt a=>?_⟩;cases e:q.dj<;>simp[DP.an,bU,e]at a |-
  .exact a.symm
  .rcases a with rfl|rfl|rfl<;>simp
 .simp only[M6]at hm;subst hm;exact⟨by omega,i.2⟩
def ae2{q}(hq:q.ok){w}(p:w.gj=bU q){s}(h:Rg (bU q).an s):∃t,SH w s t:=by
 obtain⟨x,r,v,z,t,o,a,hu⟩:=h;have sq:=anP hq;have c1:=sq.c1 t o;have b:=v.all;have f:=z.all;refine⟨t,by rw[p,a];exact sq.hd t o,by omega,by omega,by omega,b.1,b.2.1,b.2.2.1,f.1,f.2.1,f.2.2.1,r,λk0 k1=>?_⟩;obtain⟨g,c,y,A,C,D,i⟩:=hu k0 k1;refine⟨c,by omega,D,A,C,⟨_,by rw[i];rfl,rfl,rfl⟩,?_,λk x=>?_,by rw[i];simp,by rw[i];simp⟩
 .rcases g with h|⟨u,hu,e⟩
  .cases K:jf s.bind
   .rfl
   .rw[fD K]at h;cases h
  .rw[e];exact sq.ne u hu
 .have:=(z.2 k x).all;exact⟨this.1.le VQ,by
   have:∀{d j:Nat}{e:J},fK d e->d<=j->fK j e:=by
    intro d j e h l
    induction l with
    |refl=>exact h
    |step _ n=>
     have m:∀{d:Nat}{e:J},fK d e->fK (d+1) e:=by
      intro d;induction d with
      |zero=>intro e h;exact h.elim
      |succ d n=>intro e h;exact⟨h.1,λk x=>n (h.2 k x)⟩
     exact m n
   exact this (z.2 k x).all.2.2.2 VQ⟩
def avV{q}(hq:q.ok){t}(a:t∈(bU q).an){x}(hx:mF (bU q).an t x)(b:AB (bU q) x){p}(hp:p.length<=20)(c:∀y∈p,y∈L0){l}(j:l.length<=1000)(hs:∀s∈l,Rg (bU q).an s):
 ∃r,U9 (bU q) x p l=some r/\Jf (bU q) x p l=some r/\dL r.1:=by
 rcases b with⟨k,w,k0,d,e⟩|⟨gw,m,w,d,e,g,i⟩
 .have z:(k !=0)=true:=by simpa using k0
  refine⟨([],k),?_,?_,λs h=>by cases h⟩
  .simp[U9,d,z,Y]
  .simp[Jf,e,z,Y]
 .obtain⟨n,o,f,L⟩:=stepT (λt a=>Fy a) hx;have sl:=kI q;obtain⟨u,v,A⟩:=ahK (anP hq) B9 a n o (λk=>⟨(yz _ (f k)).1,(yz _ (f k)).2.1⟩) (λk=>(yz _ (f k)).2.2) g i;obtain⟨r,C,D,K⟩:=avQ g u v A hp c j λs h=>ae2 hq i.o2 (hs s h)
  refine⟨r,?_,?_,K⟩
  .simp[U9,d,C,Y]
  .simp[Jf,e,D,Y]
def agt(HA:∀q,q.ok->∀t∈(bU q).an,∀x,mF (bU q).an t x->AB (bU q) x){l m k qL}(h:l.length<2 ^ 62)(hl:∀x∈l,qv x)(hm:∀x∈m,qv x)(hk:∀x∈k,qv x):
 PP l m k qL=some true:=by
 refine cF ?_;unfold PP;refine ct (T98 h hl hm) λv1⟨p,hp,e2,hb⟩=>?_
 rw[e2];refine ct (T97 hp hk) λx⟨t,z,hx⟩=>?_
 have f:=HA p hp t z x hx;have N:∀{i n:Int},0<=i->i<=n->n<=1000->w6 (i+1)=i+1:=λh1 h2 h3=>by show IntKind.i64.wrap _=_;rw[BW];omega
 refine fB (λ_ _=>True) trivial (λj e a hj g hlt _=>?_) λ_ _=>ct (P:=λr=>r=true) ⟨true,T12,rfl⟩ λv o=>bb o
 obtain⟨atL,hd⟩:=hb e g;refine lm (λc(i:Int)=>0<=i/\i<=e.cx.length/\c=e.cx.length-i.toNat) (m:=e.cx.length) B9 ⟨by simp,by simp,by simp⟩ ?_;rintro c i ⟨Q,g2,rfl⟩;refine cZ (λc=>?_) λc=>bb (bb trivial)
 simp only[ahX,CU,B7,FW]at c;rw[N Q g2 B9];refine fA ⟨Q,c⟩ λd w _=>ct (T75 (kI p).2 (Y8 _)) λb⟨hb6,A⟩=>?_
 obtain⟨C,hs⟩:=hd d w;have D:∀y∈b,y∈L0:=λy hy=>by
  have:=A y hy;rcases Hy.1 this with h|h
  .simp only[BV,G9,G8]at h;rcases h with rfl|rfl|rfl
   .exact iY rfl
   .exact iY (stepT (λt z=>Fy z) hx).2.2.2
   .exact iY rfl
  .obtain⟨u,hu,rfl⟩:=Hr.1 h;exact iY (Fy hu)
 refine lm (λc(i:Int)=>0<=i/\i<=d.fL.length+1/\c=d.fL.length+1-i.toNat) (m:=d.fL.length+1) B9 ⟨by simp,by omega,by simp⟩ ?_;rintro c i' ⟨f1,f2,rfl⟩;refine cZ (λK=>?_) λK=>bb (bb ⟨_,?_,?_,?_,rfl⟩)
 .simp only[If,CU,B7,FW]at K;rw[N f1 K B9];refine ei (AU.mono (P:=λr=>∃part:U aC,r= .inl part/\part.length<=3/\∀s∈part,s∈d.fL) (cZ (λX=>?_) λX=>bb ⟨_,rfl,C,λ_ h=>h⟩) ?_)
  .simp only[If,CU,B7,FW]at X;refine hC (by simp only[If,CU,B7];omega) (bb ⟨_,rfl,?_,λs h=>LP (LA h)⟩);simp only[JB,KP];omega
  rintro _ ⟨part,rfl,hp3,L⟩;simp only[G5];obtain⟨r,r1,r2,r3⟩:=avV hp z hx f (p:=b) B9 D (l:=part) B9 λs h=>hs s (L s h)
  rw[r1,r2];simp only[B2];refine ct (P:=λr=>r=false) (cZ (λc=>by simp at c) λ_=>ct (ae0 r3) λv o=>bb (by rw[o];rfl)) λa ha=>?_
  subst ha;exact cZ (λc=>by cases c) λ_=>bb ⟨d.fL.length+1-(i'+1).toNat,by omega,by omega,by omega,rfl⟩
 all_goals omega
end Go.Ab

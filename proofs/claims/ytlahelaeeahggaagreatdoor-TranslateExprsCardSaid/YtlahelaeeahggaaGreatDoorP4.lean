/- Plain laws. -/
import Derived.Test.YtlahelaeeahggaaGreatDoorP3
set_option linter.all false
open Go Go.RowKit Go.Proofs
namespace Go.Ab
section
set_option maxRecDepth 1000000
set_option linter.unusedVariables false
def vK(l:amx ar):amx ar×amx amw×amx amw:=(l,l.map (·.name),l.flatMap λs=>s.bG.map (·.name))
def TT{σ:Type}(x y:σ)(i:Nat):σ:=match i with
 |0=>x
 |_+1=>y
def T32{r:ay×amx aK}{q:DP}{ad bd:amx bh}(h:sQ r q ad bd):T (TD r.2) λs=>s=q.aN:=by
 rw[h.BD];have m1:=h.BG;have hbl:=h.bl;have hbd:∀d∈bd,d.aj=2:=λd hd=>(h.cj d hd).2
 have hok:=h.ok;clear h;unfold TD;obtain⟨a,bV,sh,k,c,aV,bK,done,cL⟩:=q;have ha:a=0\/a=1\/a=2:=by have:=hok.a;dsimp only at this;omega
 have hsh:sh=none\/sh=some 0\/sh=some 1:=by
  have:=hok.sh;dsimp only at this;cases sh with
  |none=>exact .inl rfl
  |some b=>
   have:=this b rfl;right;have:b=0\/b=1:=by omega
   rcases this with rfl|rfl
   ·exact .inl rfl
   ·exact .inr rfl
 clear hok;have e3:∃n nm ct,vK ((DP.aN ⟨a,bV,sh,k,c,aV,bK,done,cL⟩).drop 1)=(n,nm,ct)/\n.length<=1:=⟨_,_,_,rfl,by rcases hsh with rfl|rfl|rfl<;>simp[DP.aN]⟩;refine T.dg (λj s=>match j with
  |0=>s=([],[],[])
  |1=>s=([],[],[])
  |2=>s=vK ((DP.aN ⟨a,bV,sh,k,c,aV,bK,done,cL⟩).drop 1)
  |_=>s.1=DP.aN ⟨a,bV,sh,k,c,aV,bK,done,cL⟩) rfl (λj m s hj hm hlt hI=>?_) λs hI=>?_
 ·match j,hj,hI with
  |0,hj,hI=>
   simp only[anU,amT]at hj;subst hj hI;refine T.bind (T.mono (P:=λr=>r= .inl ([],[],[])) (T.aP (λk(s:amx ar×amx amw×amx amw×Int)=>0<=s.2.2.2/\s.2.2.2<=ad.length/\k=ad.length - s.2.2.2.toNat/\s.1=[]/\s.2.1=[]/\s.2.2.1=[]) (m:=ad.length) (by omega) ⟨by simp,by simp,by simp,rfl,rfl,rfl⟩ ?_) ?_)
   ·rintro k ⟨s1,s2,s3,i⟩ ⟨g1,g2,rfl,rfl,rfl,rfl⟩;dsimp only at g1 g2 |-;refine T.bif (λe=>?_) λ_=>T.some rfl
    simp only[amJ,amS]at e;have ew:IntKind.i64.wrap (i+1)=i+1:=by rw[amG];omega
    refine T.bind (T.eA ⟨g1,e⟩ λd hd _=>?_);have hk:(d.aj !=(0:Int))=true:=by have:=m1.2 d hd;simp;omega
    rw[hk];refine T.some (T.some ⟨_,?_,?_,?_,rfl,rfl,rfl,rfl⟩)<;>(try simp only[ew])<;>omega
   ·rintro _ rfl;exact T.some rfl
  |1,hj,hI=>
   simp only[aoe,anU,amT]at hj;subst hj hI;refine T.bind (T.mono (P:=λr=>r= .inl (vK ((DP.aN ⟨a,bV,sh,k,c,aV,bK,done,cL⟩).drop 1))) ?_ ?_)
   ·rcases hsh with rfl|hsh
    ·refine T.aP (λk(s:amx ar×amx amw×amx amw×Int)=>0<=s.2.2.2/\s.2.2.2<=bd.length/\k=bd.length - s.2.2.2.toNat/\s.1=[]/\s.2.1=[]/\s.2.2.1=[]) (m:=bd.length) (by omega) ⟨by simp,by simp,by simp,rfl,rfl,rfl⟩ ?_;rintro k ⟨s1,s2,s3,i⟩ ⟨g1,g2,rfl,rfl,rfl,rfl⟩;dsimp only at g1 g2 |-;refine T.bif (λe=>?_) λ_=>T.some rfl
     simp only[amJ,amS]at e;have e:i<bd.length:=by simpa[DP.aN]using e
     have ew:IntKind.i64.wrap (i+1)=i+1:=by rw[amG];omega
     refine T.bind (T.eA ⟨g1,by simpa[DP.aN]using e⟩ λd hd _=>?_);have hd:d∈bd:=by simpa[DP.aN]using hd
     have hk:(d.aj !=(0:Int))=true:=by have:=hbd d hd;simp;omega
     rw[hk];refine T.some (T.some ⟨_,?_,?_,?_,rfl,rfl,rfl,rfl⟩)<;>(try simp only[ew])<;>omega
    ·have hb:∃b,sh=some b/\(b=0\/b=1):=by rcases hsh with rfl|rfl;exact⟨_,rfl,.inl rfl⟩;exact⟨_,rfl,.inr rfl⟩
     obtain⟨b,rfl,hb⟩:=hb;refine T.aP (λk(s:amx ar×amx amw×amx amw×Int)=>0<=s.2.2.2/\s.2.2.2<=bd.length+1/\k=bd.length+1 - s.2.2.2.toNat/\(s.1,s.2.1,s.2.2.1)=TT ([],[],[]) (vK ((DP.aN ⟨a,bV,some b,k,c,aV,bK,done,cL⟩).drop 1)) s.2.2.2.toNat) (m:=bd.length+1) (by omega) ⟨by simp,by simp;omega,by simp,rfl⟩ ?_;rintro k ⟨s1,s2,s3,i⟩ ⟨g1,g2,rfl,g4⟩;dsimp only at g1 g2 g4 |-;refine T.bif (λe=>?_) λe=>T.some ?_
     ·have e:i<bd.length+1:=by simpa[DP.aN]using e
      have ew:IntKind.i64.wrap (i+1)=i+1:=by rw[amG];omega
      by_cases i0:i=0
      ·subst i0;simp only[Int.toNat_zero,TT,ank]at g4;obtain⟨rfl,rfl,rfl⟩:=g4;refine T.bind (T.mono (P:=λr=>r= .inl (vK ((DP.aN ⟨a,bV,some b,k,c,aV,bK,done,cL⟩).drop 1))) ⟨_,by rcases hb with rfl|rfl<;>kernel_rfl,rfl⟩ ?_);rintro _ rfl;refine T.some ⟨_,?_,?_,?_,rfl,rfl⟩<;>(try simp only[ew])<;>omega
      ·have ht:i.toNat=(i.toNat - 1)+1:=by omega
       rw[ht]at g4;simp only[TT,vK,ank]at g4;obtain⟨rfl,rfl,rfl⟩:=g4;refine T.bind (T.eA ⟨g1,by simpa[DP.aN]using e⟩ λd _ hd=>?_);have hd:d∈bd:=by
        rw[ht]at hd;simp only[DP.aN,List.drop_succ_cons,List.drop_zero,amV,aoO,anO,anP,aoe]at hd;exact anL hd
       have hk:(d.aj !=(0:Int))=true:=by have:=hbd d hd;simp;omega
       rw[hk];refine T.some (T.some ⟨_,?_,?_,?_,rfl,?_⟩)
       ·simp only[ew];omega
       ·simp only[ew];omega
       ·simp only[ew];omega
       ·simp only[ew];have:(i+1).toNat=i.toNat+1:=by omega
        rw[this];rfl
     ·have e:¬i<bd.length+1:=by simpa[DP.aN]using e
      have ht:i.toNat=(i.toNat - 1)+1:=by omega
      rw[ht]at g4;simp only[TT,vK,ank]at g4;obtain⟨rfl,rfl,rfl⟩:=g4;rfl
   ·rintro _ rfl;exact T.some rfl
  |2,hj,hI=>
   simp only[aoe,anU,amT]at hj;subst hj hI;refine T.bind (T.mono (P:=λr=>r= .inl (DP.aN ⟨a,bV,sh,k,c,aV,bK,done,cL⟩,((DP.aN ⟨a,bV,sh,k,c,aV,bK,done,cL⟩).drop 1).map (·.name)++[gk],(((DP.aN ⟨a,bV,sh,k,c,aV,bK,done,cL⟩).drop 1).flatMap λs=>s.bG.map (·.name))++(DP.bG ⟨a,bV,sh,k,c,aV,bK,done,cL⟩).map (·.name))) ⟨_,?_,rfl⟩ ?_)
   ·clear e3 hbd m1;rcases ha with rfl|rfl|rfl<;>rcases hsh with rfl|rfl|rfl<;>cases bV<;>cases cL<;>kernel_rfl
   ·rintro _ rfl;exact T.some rfl
  |j+3,hj,hI=>simp at hj
 ·exact T.some hI
end
section
set_option maxRecDepth 1000000
set_option linter.unusedVariables false
def pi:amw:=⟨#[116,97,103]⟩
def T14{r:ay×amx aK}{q:DP}{ad bd:amx bh}(h:sQ r q ad bd):T (TH r.2) λs=>s=(bW q,[]):=by
 have TF:=T32 h;have okp:=BF h.ok r.2;have oki:=JV h;have okt:=NH h;have m1:=h.BG;have m2:=h.NG;unfold TH;refine T.step TF λss e=>?_
 subst e;have hm:=h.BD;clear TF h;generalize hms:r.2=ms at*
 suffices hh:∀l:amx aK,l=ms->T ((bg _ _ 0 l ([],[],[])).bind _) _ from hh ms rfl
 intro l hl;rw[hm]at hl;subst hl;refine T.dg (λj(s:amx ce×amx amw×amx ac)=>match j with
  |0=>s=([],[],[])
  |1=>s=([],[],[])
  |2=>s=([],[],[])
  |_=>s.1=[]/\s.2.2=(bW q).am) rfl (λj m s hj hm hlt hI=>?_) λs hI=>?_
 ·match j,hj,hI with
  |0,hj,hI=>
   simp only[anU,amT]at hj;subst hj hI;refine T.bind (T.mono (P:=λr=>r= .inl ([],[],[])) (T.aP (λk(s:amx ce×amx amw×Int×amx ac)=>0<=s.2.2.1/\s.2.2.1<=ad.length/\k=ad.length - s.2.2.1.toNat/\s.1=[]/\s.2.1=[]/\s.2.2.2=[]) (m:=ad.length) (by omega) ⟨by simp,by simp,by simp,rfl,rfl,rfl⟩ ?_) ?_)
   ·rintro k ⟨s1,s2,i,s3⟩ ⟨g1,g2,rfl,rfl,rfl,rfl⟩;dsimp only at g1 g2 |-;refine T.bif (λe=>?_) λ_=>T.some rfl
    simp only[amJ,amS]at e;have ew:IntKind.i64.wrap (i+1)=i+1:=by rw[amG];omega
    refine T.bind (T.eA ⟨g1,e⟩ λd hd _=>?_);have hk:(d.aj !=(1:Int))=true:=by have:=m1.2 d hd;simp;omega
    rw[hk];refine T.some (T.some ⟨_,?_,?_,?_,rfl,rfl,rfl,rfl⟩)<;>(try simp only[ew])<;>omega
   ·rintro _ rfl;exact T.some rfl
  |1,hj,hI=>
   simp only[aoe,anU,amT]at hj;subst hj hI;generalize hd2:(q.aN.drop 1).map fW++bd=ds at*;refine T.bind (T.mono (P:=λr=>r= .inl ([],[],[])) (T.aP (λk(s:amx ce×amx amw×Int×amx ac)=>0<=s.2.2.1/\s.2.2.1<=ds.length/\k=ds.length - s.2.2.1.toNat/\s.1=[]/\s.2.1=[]/\s.2.2.2=[]) (m:=ds.length) (by omega) ⟨by simp,by simp,by simp,rfl,rfl,rfl⟩ ?_) ?_)
   ·rintro k ⟨s1,s2,i,s3⟩ ⟨g1,g2,rfl,rfl,rfl,rfl⟩;dsimp only at g1 g2 |-;refine T.bif (λe=>?_) λ_=>T.some rfl
    simp only[amJ,amS]at e;have ew:IntKind.i64.wrap (i+1)=i+1:=by rw[amG];omega
    refine T.bind (T.eA ⟨g1,e⟩ λd hd _=>?_);have hk:(d.aj !=(1:Int))=true:=by have:=m2.2 d hd;simp;omega
    rw[hk];refine T.some (T.some ⟨_,?_,?_,?_,rfl,rfl,rfl,rfl⟩)<;>(try simp only[ew])<;>omega
   ·rintro _ rfl;exact T.some rfl
  |2,hj,hI=>
   simp only[aoe,anU,amT]at hj;subst hj hI;generalize q.aN=ss at*
   let n:Nat:=3+cond q.cL 1 0
   let st:Nat->amx ce×amx amw×amx ac:=λi=>match i with
    |0=>([],[],[])
    |1=>([],[],[])
    |2=>([],[cT],[q.cf])
    |3=>([],[cT,fO],[q.gl,q.cf])
    |_=>([],[cT,fO,pi],[q.gl,q.cf,iw])
   refine T.bind (T.mono (P:=λr=>r= .inl (st n)) (T.aP (λk(s:amx ce×amx amw×Int×amx ac)=>0<=s.2.2.1/\s.2.2.1<=n/\k=n - s.2.2.1.toNat/\(s.1,s.2.1,s.2.2.2)=st s.2.2.1.toNat) (m:=n) (by cases e:q.cL<;>simp[n,e]) ⟨by simp,by simp,by simp,rfl⟩ ?_) ?_)
   ·rintro k ⟨s1,s2,i,s3⟩ ⟨g1,g2,rfl,g4⟩;dsimp only at g1 g2 g4 |-;have hlen:(fW ⟨gk,q.bG⟩::q.am.map gK).length=n:=by cases e:q.cL<;>simp[n,e,DP.am]
    refine T.bif (λe=>?_) λe=>?_
    ·simp only[amJ,amS]at e;have e:i<n:=by rw[<-hlen];exact e
     have hn4:n<=4:=by cases e:q.cL<;>simp[n,e]
     have ew:IntKind.i64.wrap (i+1)=i+1:=by rw[amG];omega
     have hi:i=0\/i=1\/i=2\/i=3:=by omega
     refine T.bind (T.eA ⟨g1,by rw[hlen];exact e⟩ λd hd hdi=>?_);rcases hi with rfl|rfl|rfl|rfl
     ·simp only[Int.toNat_zero,anU,amT]at hdi;simp only[Int.toNat_zero,st,ank]at g4;obtain⟨rfl,rfl,rfl⟩:=g4;subst hdi;refine T.some (T.some ⟨_,?_,?_,?_,rfl,rfl⟩)<;>(try simp only[ew])<;>omega
     ·have hdi:gK q.cf=d:=by simpa[DP.am]using hdi
      simp only[Int.toNat_one,st,ank]at g4;obtain⟨rfl,rfl,rfl⟩:=g4;subst hdi;refine T.step (P:=λr=>r=false) ⟨_,by kernel_rfl,rfl⟩ λa ha=>?_
      subst ha;refine T.bif (λh=>by cases h) λ_=>T.ck (am4 rfl) (T.step (Yh okp) λv hv=>?_)
      subst hv;refine T.mono (P:=λr=>r= .inl (st 2)) ⟨_,by kernel_rfl,rfl⟩ ?_;rintro _ rfl;refine T.some ⟨_,?_,?_,?_,rfl,rfl⟩<;>(try simp only[ew])<;>omega
     ·have hdi:gK q.gl=d:=by simpa[DP.am]using hdi
      have g4:(s1,s2,s3)=([],[cT],[q.cf]):=g4;simp only[ank]at g4;obtain⟨rfl,rfl,rfl⟩:=g4;subst hdi;refine T.step (P:=λr=>r=false) ⟨_,by kernel_rfl,rfl⟩ λa ha=>?_
      subst ha;refine T.bif (λh=>by cases h) λ_=>T.ck (am4 rfl) (T.step (Yh oki) λv hv=>?_)
      subst hv;refine T.mono (P:=λr=>r= .inl (st 3)) ⟨_,by kernel_rfl,rfl⟩ ?_;rintro _ rfl;refine T.some ⟨_,?_,?_,?_,rfl,rfl⟩<;>(try simp only[ew])<;>omega
     ·have ac5:q.cL=true:=by cases et:q.cL with
       |true=>rfl
       |false=>simp[n,et]at e
      have hdi:gK iw=d:=by simpa[DP.am,ac5]using hdi
      have g4:(s1,s2,s3)=([],[cT,fO],[q.gl,q.cf]):=g4;simp only[ank]at g4;obtain⟨rfl,rfl,rfl⟩:=g4;subst hdi;refine T.step (P:=λr=>r=false) ⟨_,by kernel_rfl,rfl⟩ λa ha=>?_
      subst ha;refine T.bif (λh=>by cases h) λ_=>T.ck (am4 rfl) (T.step (Yh okt) λv hv=>?_)
      subst hv;refine T.mono (P:=λr=>r= .inl (st 4)) ⟨_,by kernel_rfl,rfl⟩ ?_;rintro _ rfl;refine T.some ⟨_,?_,?_,?_,rfl,rfl⟩<;>(try simp only[ew])<;>omega
    ·simp only[amJ,anh]at e;have e:¬i<n:=by rw[<-hlen];exact e
     have:i.toNat=n:=by omega
     rw[this]at g4;simp only[<-g4];exact T.some rfl
   ·rintro _ rfl;refine T.some ?_;cases et:q.cL<;>simp[st,n,et,bW]
  |j+3,hj,hI=>simp at hj
 ·obtain⟨s1,s2,s3⟩:=s;obtain⟨rfl,h3⟩:=hI;dsimp only at h3;subst h3;dsimp only;clear okp oki okt m1 m2 hm;obtain⟨a,bV,sh,k,c,aV,bK,done,cL⟩:=q;refine T.bind (T.mono (P:=λr=>r= .inl (bW ⟨a,bV,sh,k,c,aV,bK,done,cL⟩).am) ⟨_,by cases cL<;>kernel_rfl,rfl⟩ ?_);rintro _ rfl;exact T.some rfl
end
section
set_option maxRecDepth 1000000
set_option linter.unusedVariables false
def JW(t:ai):Prop:=(0<=t.aj/\t.aj<=2)\/t=ai.mk 3 gk 0 [] []
def m8{q:DP}(hq:q.ok){t:ac}(h:t∈(bW q).am){c:ae}(hc:c∈t.af):JW c.bx:=by
 have hk:=hq.k;rcases fd h with rfl|rfl|⟨rfl,_⟩
 ·cases e:q.done<;>simp[DP.gl,DP.nD,e]at hc
  ·rcases hc with rfl|rfl|rfl<;>(left;dsimp only;omega)
  ·rcases hc with rfl|rfl|rfl|rfl<;>(left;dsimp only;omega)
 ·cases e:q.aV<;>cases e2:q.bK<;>simp[DP.cf,DP.gd,e,e2]at hc
  ·rcases hc with rfl|rfl|rfl<;>(left;dsimp only;omega)
  ·rcases hc with rfl|rfl|rfl|rfl<;>(left;dsimp only;omega)
  ·rcases hc with rfl|rfl|rfl|rfl
   ·left;dsimp only;omega
   ·left;dsimp only;omega
   ·left;dsimp only;omega
   ·right;rfl
  ·rcases hc with rfl|rfl|rfl|rfl|rfl
   ·left;dsimp only;omega
   ·left;dsimp only;omega
   ·left;dsimp only;omega
   ·right;rfl
   ·left;dsimp only;omega
 ·simp[iw]at hc;rcases hc with rfl|rfl<;>(left;dsimp only;omega)
def vD:Nat->aA->Prop
 |0,_=>False
 |d+1,v=>v.aG.length<=1/\∀k∈v.aG,vD d k
def KL{s:ah}{t:ai}{n:Nat}{k:Int}(h:0<=t.aj/\t.aj<=2)(hk:0<=k):T (vE (n+1) s t k) (vD 1):=by
 have z:∀{a b:Int}{x:amw},vD 1 (aA.mk a b x [] []):=by intro a b x;exact⟨by simp,by simp⟩
 unfold vE;refine T.bif (λ_=>T.aS (by decide) (T.some z)) λe0=>T.bif (λ_=>T.aS (by decide) (T.eA ⟨an1 _ hk,?_⟩ λ_ _ _=>T.some z)) λe1=>T.bif (λ_=>T.aS (by decide) (T.some z)) λe2=>?_
 ·have:=an2 k (b:=5) (by decide);simpa using this
 ·simp only[anl,ne_eq]at e0 e1 e2;omega
def Yi{q:DP}(hq:q.ok){ts:amx ac}{t:ai}{n:Nat}{k:Int}(h:JW t)(hk:0<=k/\k<=1000000):T (vE (n+2) ⟨q.aN,ts⟩ t k) (vD 2):=by
 rcases h with h|rfl
 ·refine(KL h hk.1).mono λv hv=>⟨hv.1,λx hx=>(hv.2 x hx).elim⟩
 ·unfold vE;refine T.bif (λe=>by cases e) λ_=>T.bif (λe=>by cases e) λ_=>T.bif (λe=>by cases e) λ_=>?_
  have ha:=hq.a;have key:∀c∈q.bG,0<=c.arg.aj/\c.arg.aj<=2:=by
   intro c hc;cases hb:q.bV<;>simp[DP.bG,hb]at hc
   ·rcases hc with rfl|rfl<;>(dsimp only;omega)
   ·rcases hc with rfl|rfl|rfl<;>(dsimp only;omega)
  have hl:2<=q.bG.length:=by cases hb:q.bV<;>simp[DP.bG,hb]
  refine T.dg (λj _=>j=0) rfl (λj s _ hj hm _ hI=>?_) λ_ hI=>by simp[DP.aN]at hI
  subst hI;have hs:s=⟨gk,q.bG⟩:=by simpa[DP.aN]using hj.symm
  subst hs;refine T.bif (λ_=>?_) λe=>by simp at e
  refine T.bif (λ_=>?_) λe=>by simp only[amJ,anh]at e;omega
  have lp:(0:Int)<((q.bG.map aB.ak).length:Int):=by simp only[amJ];omega
  refine T.aS (show((q.bG.map aB.ak).length:Int)≠0 by omega) (T.eA ⟨an1 _ hk.1,by have:=an2 k lp;simp only[amJ]at this |-;exact this⟩ λc hc _=>?_);refine T.bind (T.mono (P:=λr=>∃l,r= .inl l/\l.length<=1/\∀x∈l,vD 1 x) (T.bif (λ_=>T.aS (by decide) ?_) λ_=>T.some ⟨[],rfl,by simp,by simp⟩) ?_)
  ·have:0<=k.tdiv 7:=Int.tdiv_nonneg hk.1 (by decide);have h7:k.tdiv 7<=k:=ao5 _ hk.1;exact T.step (KL (key c hc) (by rw[amG];omega)) λv hv=>T.some ⟨[v],rfl,by simp,by simpa using hv⟩
  ·rintro _ ⟨l,rfl,h1,h2⟩;exact T.some (T.some ⟨h1,h2⟩)
def Sr:{d n:Nat}->{v:aA}->vD d v->d<=n->T (DA n v) λ_=>True
 |0,_,_,h,_=>h.elim
 |d+1,0,_,_,h=>absurd h (by omega)
 |d+1,n+1,v,h,hn=>by
  unfold DA;refine T.dg (λj(a:amx aa)=>a.length<=j) (by simp) (λj x a _ hm hj hI=>T.step (Sr (h.2 x hm) (by omega)) λe _=>T.ck (by have:=h.1;simp;omega) (T.some (by simp;omega))) λa _=>?_
  refine T.bif (λ_=>T.bif (λ_=>T.some trivial) λ_=>T.some trivial) λ_=>?_
  repeat' first|exact T.some trivial|refine T.bif (λ_=>?_) λ_=>?_
def Yj{q:DP}(hq:q.ok){ts:amx ac}{t:ai}{k:Int}(h:JW t)(hk:kj k):T (JJ ⟨q.aN,ts⟩ t k) (vD 2):=by
 unfold JJ;exact T.step (TM hk (by decide)) λv hv=>T.step (Yi hq (n:=999998) h ⟨hv.1,by omega⟩) λv hv=>T.some hv
def Yk{q:DP}(hq:q.ok){ts:amx ac}{t:ai}{k:Int}(h:JW t):T (Om ⟨q.aN,ts⟩ t k) λ_=>True:=by
 unfold Om;refine T.step (P:=λ_=>True) (T.bif (λ_=>T.aS (by decide) (T.some trivial)) λ_=>T.some trivial) λa _=>T.bif (λ_=>T.some trivial) λ_=>?_
 exact T.aS (by decide) (T.step (Yj hq h (Sm _)) λv hv=>T.step (Sr hv (by decide)) λ_ _=>T.some trivial)
def BH{a n:Int}(h:0<=a)(hn:0<n):0<=a.tmod n/\a.tmod n<n:=⟨an1 _ h,an2 _ hn⟩
def JX{a n:Int}(h:0<=a/\a<=1000000)(hn:0<n):0<=IntKind.i64.wrap (a.tdiv n)/\IntKind.i64.wrap (a.tdiv n)<=1000000:=by
 have h1:0<=a.tdiv n:=Int.tdiv_nonneg h.1 (by omega);have h2:a.tdiv n<=a:=ao5 _ h.1;rw[amG];omega
def T87{q:DP}(hq:q.ok){t:ac}{k:Int}(ht:t∈(bW q).am)(hk:0<=k/\k<=1000000):T (TJ (bW q) t k) λ_=>True:=by
 unfold TJ;have tc:=gS ht;have sl:=jy q;have lp:(0:Int)<((t.af.map ae.ak).length:Int):=by simp only[amJ];omega
 refine T.aS (by decide) (T.aS (by omega) (T.eA ?_ λc hc _=>?_))
 ·have:=BH (JX hk (n:=4) (by decide)).1 lp;simpa using this
 refine T.aS (by decide) (T.eA ?_ λw _ _=>?_)
 ·have:=BH hk.1 (n:=4) (by decide);simpa using this
 refine T.aS (by decide) (T.step (Yk hq (m8 hq ht hc)) λv7 _=>T.aS (by decide) (T.aS (by decide) (T.bif (λ_=>T.some trivial) λ_=>T.aS (by decide) (T.aS (by decide) (T.bif (λ_=>T.some trivial) λ_=>?_)))));have lt:(0:Int)<(((bW q).am.map ac.ak).length:Int):=by simp only[amJ];omega
 refine T.aS (by decide) (T.aS (by omega) (T.eA ?_ λu hu _=>?_))
 ·have:=BH (JX hk (n:=4096) (by decide)).1 lt;simpa using this
 have uc:=gS hu;have lu:(0:Int)<((u.af.map ae.ak).length:Int):=by simp only[amJ];omega
 refine T.aS (by decide) (T.aS (by omega) (T.eA ?_ λd hd _=>?_))
 ·have:=BH (JX hk (n:=8192) (by decide)).1 lu;simpa using this
 refine T.step (P:=λ_=>True) (T.bif (λ_=>T.some trivial) λ_=>T.some trivial) λa _=>?_
 refine T.bind (T.mono (P:=λr=>∃l:amx aa,r= .inl l/\l.length=2) (T.bif (λ_=>T.eA (by simp) λ_ _ _=>T.some ⟨_,rfl,by simp⟩) λ_=>T.some ⟨_,rfl,rfl⟩) ?_);rintro _ ⟨l,rfl,hl⟩;exact T.aS (by simpa using hl) (T.aS (by decide) (T.aS (by decide) (T.some trivial)))
def T37{q:DP}(hq:q.ok){a b:Int}(ha:0<=a/\a<=100000)(hb:0<=b/\b<=100000):T (TK (bW q) a b) λ_=>True:=by
 unfold TK;have sl:=jy q;have lt:(0:Int)<(((bW q).am.map ac.ak).length:Int):=by simp only[amJ];omega
 refine T.aS (by omega) (T.eA (by have:=BH ha.1 lt;simpa using this) λt ht _=>T.aS (by decide) (T.aS (by decide) (T.bif (λ_=>?_) λ_=>?_)))
 ·have tc:=gS ht;refine T.dg (λj(e:aa)=>e.aF.length<=j/\e.aG.length<=j) ⟨by simp,by simp⟩ (λj c e _ hc hj hI=>?_) λe _=>T.some trivial
  have ew:IntKind.i64.wrap ((j:Int)+1)=(j:Int)+1:=by rw[amG];omega
  refine T.ck (by simp;omega) (T.aS (by rw[ew];omega) (T.step (Yk hq (m8 hq ht hc)) λv _=>T.ck (by simp;omega) (T.some ?_)));simp only[anb,amO,amA,amB];omega
 ·have tc:=gS ht;have lp:(0:Int)<((t.af.map ae.ak).length:Int):=by simp only[amJ];omega
  refine T.aS (by decide) (T.step (T87 hq ht (by have:=JX (a:=a) (n:=24) (by omega) (by decide);have h2:a.tdiv 24<=a:=ao5 _ ha.1;have h3:0<=a.tdiv 24:=Int.tdiv_nonneg ha.1 (by decide);rw[amG,amG];omega)) λv20 _=>?_);refine T.bind (T.mono (P:=λr=>∃e,r= .inl e) (T.bif (λ_=>?_) λ_=>T.some ⟨_,rfl⟩) ?_)
  ·refine T.aS (by omega) (T.eA (by have:=BH hb.1 lp;simpa using this) λc hc _=>T.aS (by decide) (T.step (Yk hq (m8 hq ht hc)) λv28 _=>T.aS (by decide) (T.aS (by decide) ?_)));refine T.step (P:=λ_=>True) (T.bif (λ_=>T.some trivial) λ_=>T.some trivial) λa _=>?_
   refine T.bind (T.mono (P:=λr=>∃l:amx aa,r= .inl l/\l.length=2) (T.bif (λ_=>T.eA (by simp) λ_ _ _=>T.some ⟨_,rfl,by simp⟩) λ_=>T.some ⟨_,rfl,rfl⟩) ?_);rintro _ ⟨l,rfl,hl⟩;exact T.aS (by simpa using hl) (T.some ⟨_,rfl⟩)
  ·rintro _ ⟨e,rfl⟩;exact T.some trivial
def T15{q:DP}(hq:q.ok){l:amx Int}(hl:∀x∈l,kj x):T (TL (bW q) l) λr=>r.cb.length<=4/\∀d∈r.cb,d.body=D8 0 0:=by
 unfold TL;have sl:=jy q;refine T.ju (λk(s:Int×amx bh)=>0<=s.1/\s.1<=4/\k=4 - s.1.toNat/\s.2.length=s.1.toNat/\∀d∈s.2,d.body=D8 0 0) (m:=4) (by decide) ⟨by simp,by simp,by simp,rfl,by simp⟩ ?_;rintro k ⟨i,ds⟩ ⟨g1,g2,rfl,g4,g5⟩;dsimp only at g1 g2 g4 g5 |-;refine T.step (P:=λr=>r=true->i<4) (T.bif (λe=>T.some λ_=>by simpa using e) λ_=>T.some (by simp)) λa6 h6=>T.bif (λe=>?_) λ_=>T.some (T.some ⟨by dsimp only;omega,g5⟩)
 have h4:=h6 e;have ew:IntKind.i64.wrap (i+1)=i+1:=by rw[amG];omega
 refine T.step (ZO (n:=i) ⟨g1,by omega⟩) λv10 h10=>T.dj (by have:(⟨#[112]⟩:amw).size=1:=rfl;omega) ?_
 refine T.bind (T.mono (P:=λr=>∃c,r= .inl c) (T.aP (λk(s:Int×amx bO)=>0<=s.1/\s.1<=3/\k=3 - s.1.toNat/\s.2.length=s.1.toNat) (m:=3) (by decide) ⟨by simp,by simp,by simp,rfl⟩ ?_) ?_)
 ·rintro k ⟨j,ss⟩ ⟨f1,f2,rfl,f4⟩;dsimp only at f1 f2 f4 |-;have N:∀{i n:Int}{β:Type}{f:Int->amy β}{Q:β->Prop},0<n->(∀v:Int,0<=v->v<n->T (f v) Q)->T ((om l i n).bind f) Q:=λhn k=>T.step (TN hl hn) λv hv=>k v hv.1 hv.2
  refine N (by decide) λv17 a0 a1=>T.bif (λe=>?_) λ_=>T.some ⟨_,rfl⟩
  simp only[amS]at e;have ej:IntKind.i64.wrap (j+1)=j+1:=by rw[amG];omega
  refine N (by decide) λv19 b0 b1=>N (by decide) λv20 c0 c1=>T.step (T37 hq ⟨b0,by omega⟩ ⟨c0,by omega⟩) λv21 _=>T.ck (by simp;omega) (T.some ⟨_,?_,?_,?_,rfl,?_⟩)
  ·simp only[ej];omega
  ·simp only[ej];omega
  ·simp only[ej];omega
  ·simp only[ej,amO,amA,amB];omega
 ·rintro _ ⟨c,rfl⟩;refine T.ck (by simp;omega) (T.some ⟨_,?_,?_,?_,rfl,?_,?_⟩)
  ·simp only[ew];omega
  ·simp only[ew];omega
  ·simp only[ew];omega
  ·simp only[ew,amO,amA,amB];omega
  ·intro d hd;rcases amZ.1 hd with hd|hd
   ·exact g5 d hd
   ·simp only[aov]at hd;subst hd;rfl
end
section
set_option maxRecDepth 1000000
set_option linter.unusedVariables false
def BI(l:amx amw)(n:amw):(l.any λy=>bZ n y)=db l n:=by
 unfold db;congr 1;funext y;exact uj _ _
def Yl(l:amx amw)(n:amw):T (Da l n) λr=>decide (r>=0)=db l n:=by
 unfold Da;refine T.dg (λj _=>db (l.take j) n=false) (by simp[db]) (λj y s hy hm hj hI=>?_) λs hI=>T.some (by rw[anz]at hI;rw[hI];rfl)
 refine T.bif (λh=>T.some ?_) λh=>T.some ?_
 ·refine T.some ?_;have:db l n=true:=by rw[<-BI];exact anx.2 ⟨y,hm,h⟩
  rw[this];simp
 ·have e:l.take (j+1)=l.take j++[y]:=by rw[anA,hy];rfl
  show db (l.take (j+1)) n=false
  rw[e];unfold db at hI |-;rw[aog,hI];rw[uj]at h;simp[h]
def Ym(l:amx amw)(n:amw):T (nB l n) λr=>r=db l n:=by
 unfold nB;exact T.step (Yl l n) λv hv=>T.some hv
def ZU(l:amx amw)(n:amw):T (Mj l n) λr=>decide (r<0)= !db l n:=by
 unfold Mj;refine T.dg (λj _=>db (l.take j) n=false) (by simp[db]) (λj y s hy hm hj hI=>?_) λs hI=>T.some (by rw[anz]at hI;rw[hI];rfl)
 refine T.bif (λh=>T.some ?_) λh=>T.some ?_
 ·refine T.some ?_;have:db l n=true:=anx.2 ⟨y,hm,h⟩;rw[this];simp
 ·have e:l.take (j+1)=l.take j++[y]:=by rw[anA,hy];rfl
  show db (l.take (j+1)) n=false
  rw[e];unfold db at hI |-;rw[aog,hI];simp[h]
def T71(a b:amx amw):T (Tc a b) λr=>r=a.any λx=>db b x:=by
 unfold Tc;refine T.dg (λj _=>((a.take j).any λx=>db b x)=false) (by simp) (λj y s hy hm hj hI=>?_) λs hI=>T.some (by rw[<-hI,anz])
 refine T.step (ZU b y) λv hv=>?_
 have hv2:decide (v>=0)=db b y:=by
  cases h:db b y<;>rw[h]at hv<;>simp only[aor,Bool.not_false,amS,anh]at hv
  ·simp;omega
  ·simp;omega
 refine T.bif (λh=>T.some ?_) λh=>T.some ?_
 ·rw[hv2]at h;exact T.some (anx.2 ⟨y,hm,h⟩).symm
 ·have e:a.take (j+1)=a.take j++[y]:=by rw[anA,hy];rfl
  show((a.take (j+1)).any λx=>db b x)=false
  rw[e,aog,hI];rw[hv2]at h;simp[h]
def JY(l:amx cm)(b:amx amw):T (oh l b) λr=>r=l.any λj=>db b j.aD:=by
 unfold oh sg;refine T.step (P:=λr=>decide (r>=0)=l.any λj=>db b j.aD) ?_ λv hv=>T.some hv
 refine T.dg (λj _=>((l.take j).any λx=>db b x.aD)=false) (by simp) (λj y s hy hm hj hI=>?_) λs hI=>T.some (by rw[anz]at hI;rw[hI];rfl)
 have:T (og y b) λr=>r=db b y.aD:=by unfold og;exact T.step (Ym _ _) λv hv=>T.some hv
 refine T.step this λv hv=>?_
 subst hv;refine T.bif (λh=>T.some ?_) λh=>T.some ?_
 ·refine T.some ?_;rw[anx.2 ⟨y,hm,h⟩];simp
 ·have e:l.take (j+1)=l.take j++[y]:=by rw[anA,hy];rfl
  show((l.take (j+1)).any λx=>db b x.aD)=false
  rw[e,aog,hI];simp[h]
def gx(e:aa)(i:Nat):amx amw:=if e.aj=11 then(if i=1 then[e.name]else[])else if e.aj=13 then(if i=0 then[]else(e.binds[i - 1]?).toList)else if e.aj=10 then(if i=0 then e.aF else e.aF.take (i - 1))else[]
def sG(x:amw):amz:=bZ x (⟨#[]⟩:amw)
def nz(l:amx amw):amx amw:=l.filter λx=> !sG x
def pj{d:Nat}{e:aa}(h:wB (d+1) e)(i:Nat):(gx e i).length<=8:=by
 have h3:=h.2.2.1;unfold gx
 repeat' split
 ·simp
 ·simp
 ·simp
 ·have:=Option.length_toList_le (o:=e.binds[i - 1]?);omega
 ·exact h3
 ·simp only[ant];omega
 ·simp
def ib(i k:Nat):((i:Int)==(k:Int))=decide (i=k):=by
 by_cases h:i=k
 ·simp[h]
 ·simp[h];omega
def ZV(i:Nat):((i:Int)==1)=decide (i=1):=ib i 1
def Yn(i:Nat):((i:Int)==0)=decide (i=0):=ib i 0
def T63{d:Nat}{e:aa}{i:Nat}{b:amx amw}(h:wB (d+1) e)(hi:i<e.aG.length)(hb:b.length<=100000):T (D4 e i b) λr=>r=b++gx e i:=by
 unfold D4;have h8:=pj h i;have hk:=h.2.2.2.2.1;refine T.step (P:=λr=>r=b) (by unfold nY;exact T.ck (by simp;omega) (T.some rfl)) λv hv=>?_
 subst hv;refine T.bind (T.mono (P:=λr=>r= .inl (v++gx e i)) ?_ ?_)
 ·refine T.step (P:=λr=>r=decide (e.aj=11/\i=1)) (T.bif (λc=>T.some ?_) λc=>T.some ?_) λa ha=>?_
  ·simp only[am7]at c;rw[ZV];simp[c]
  ·simp only[anl,ne_eq]at c;simp[c]
  ·subst ha;refine T.bif (λc=>?_) λc=>?_
   ·simp only[amS]at c;exact T.ck (by simp;omega) (T.some (by simp[gx,c.1,c.2]))
   ·simp only[anh]at c;refine T.step (P:=λr=>r=decide (e.aj=13/\0<i)) (T.bif (λc=>T.some ?_) λc=>T.some ?_) λa ha=>?_
    ·simp only[am7]at c;simp[c]
    ·simp only[anl,ne_eq]at c;simp[c]
    ·subst ha;refine T.bif (λc2=>?_) λc2=>?_
     ·simp only[amS]at c2;have hbl:=h.2.1 c2.1;have ew:IntKind.i64.wrap ((i:Int) - 1)=((i - 1:Nat):Int):=by rw[amG];omega
      rw[ew];refine T.eA ⟨by omega,by omega⟩ λx _ hx=>T.ck (by simp;omega) (T.some ?_)
      have:e.binds[i - 1]?=some x:=by simpa using hx
      simp[gx,c2.1,this];omega
     ·simp only[anh]at c2;refine T.step (P:=λr=>r=decide (e.aj=10/\i=0)) (T.bif (λc=>T.some ?_) λc=>T.some ?_) λa ha=>?_
      ·simp only[am7]at c;rw[Yn];simp[c]
      ·simp only[anl,ne_eq]at c;simp[c]
      ·subst ha;have hn:=h.2.2.1;refine T.bif (λc3=>?_) λc3=>?_
       ·simp only[amS]at c3;exact T.ck (by omega) (T.some (by simp[gx,c3.1,c3.2]))
       ·simp only[anh]at c3;refine T.bif (λc4=>?_) λc4=>T.some ?_
        ·simp only[am7]at c4;have aiR:=h.1 c4;have i0:i≠0:=λhz=>c3 ⟨c4,hz⟩
         have ew:IntKind.i64.wrap ((i:Int) - 1)=((i - 1:Nat):Int):=by rw[amG];omega
         rw[ew];have et:(e.aF.drop (0:Int).toNat).take (((i - 1:Nat):Int).toNat - (0:Int).toNat)=e.aF.take (i - 1):=by simp
         rw[et];refine T.aS (by simp;omega) (T.ck (by simp;omega) (T.some ?_));simp[gx,c4,i0]
        ·simp only[anl,ne_eq]at c4;have:gx e i=[]:=by
          unfold gx;by_cases k1:e.aj=11
          ·have:i≠1:=λq=>c ⟨k1,q⟩
           simp[k1,this]
          ·by_cases k2:e.aj=13
           ·have:i=0:=by apply anI;intro q;exact c2 ⟨k2,by omega⟩
            simp[k2,this]
           ·simp[k1,k2,c4]
         rw[this];simp
 ·rintro _ rfl;exact T.some rfl
end
section
set_option maxRecDepth 1000000
set_option linter.unusedVariables false
def vL(a b:amx amw):nz (a++b)=nz a++nz b:=by unfold nz;exact List.filter_append ..
def ZW(x:amw):nz [x]=cond (sG x) [] [x]:=by
 unfold nz;cases h:sG x<;>simp[List.filter,h]
def NI{p:amx aJ}{v:aJ}(h:p.length<=1000):T (Ba p v) λr=>r.map (·.name)=p.map (·.name)++nz [v.name]:=by
 unfold Ba;refine T.ck (by simp;omega) ?_;refine T.bind (T.mono (P:=λr=>∃l:amx aJ,r= .inl l/\l.map (·.name)=p.map (·.name)++nz [v.name]) (T.bif (λc=>T.ck (by simp;omega) (T.some ⟨_,rfl,?_⟩)) λc=>T.some ⟨_,rfl,?_⟩) ?_)
 ·have c:(!sG v.name)=true:=c;rw[ZW];simp only[anT]at c;simp[c]
 ·have c:(!sG v.name)=false:=c;rw[ZW];simp only[Bool.not_eq_false']at c;simp[c]
 ·rintro _ ⟨l,rfl,hl⟩;exact T.some hl
def vM(l:amx amw):(nz l).length<=l.length:=List.length_filter_le _ _
def Yo{d:Nat}{e:aa}{i:Nat}{w:dU}(h:wB (d+1) e)(hi:i<e.aG.length):T (CZ w e i []) λr=>r.map (·.name)=nz (gx e i):=by
 unfold CZ;have hk:=h.2.2.2.2.1;have s1:∀{n:amw}{k:Int}{β:Type}{f:aJ->amy β}{Q:β->Prop},(∀s:aJ,s.name=n->T (f s) Q)->T ((CY w n k).bind f) Q:=λk=>k _ rfl
 refine T.step (P:=λr=>r=decide (e.aj=11/\i=1)) (T.bif (λc=>T.some ?_) λc=>T.some ?_) λa ha=>?_
 ·simp only[am7]at c;rw[ZV];simp[c]
 ·simp only[anl,ne_eq]at c;simp[c]
 ·subst ha;refine T.bif (λc=>?_) λc=>?_
  ·simp only[amS]at c;refine s1 λs hs=>T.step (NI (by simp)) λv hv=>T.some ?_
   rw[hv,hs];simp[gx,c.1,c.2]
  ·simp only[anh]at c;refine T.step (P:=λr=>r=decide (e.aj=13/\0<i)) (T.bif (λc=>T.some ?_) λc=>T.some ?_) λa ha=>?_
   ·simp only[am7]at c;simp[c]
   ·simp only[anl,ne_eq]at c;simp[c]
   ·subst ha;refine T.bif (λc2=>?_) λc2=>?_
    ·simp only[amS]at c2;have hbl:=h.2.1 c2.1;have ew:IntKind.i64.wrap ((i:Int) - 1)=((i - 1:Nat):Int):=by rw[amG];omega
     rw[ew];refine T.eA ⟨by omega,by omega⟩ λx _ hx=>T.eA ⟨by omega,by omega⟩ λy _ _=>s1 λs hs=>T.step (NI (by simp)) λv hv=>T.some ?_
     have:e.binds[i - 1]?=some x:=by simpa using hx
     rw[hv,hs];have i0:i≠0:=by omega
     simp[gx,c2.1,this,i0]
    ·simp only[anh]at c2;have hn:=h.2.2.1;refine T.bind (T.mono (P:=λr=>∃l:amx aJ,r= .inl l/\l.map (·.name)=nz (gx e i)) (T.bif (λc3=>?_) λc3=>T.some ⟨[],rfl,?_⟩) ?_)
     ·simp only[am7]at c3;have aiR:=h.1 c3
      let m:Nat:=if i=0 then e.aF.length else i - 1
      have hm:m<=e.aF.length:=by simp only[m];split<;>omega
      refine T.ju (λk(s:amx aJ×Int)=>0<=s.2/\s.2<=m/\k=m - s.2.toNat/\s.1.map (·.name)=nz (e.aF.take s.2.toNat)) (m:=m) (by omega) ⟨by simp,by simp,by simp,by simp[nz]⟩ ?_;rintro k ⟨l,j⟩ ⟨g1,g2,rfl,g4⟩;dsimp only at g1 g2 g4 |-;have hl:l.length<=100:=by
       have:(l.map (·.name)).length=(nz (e.aF.take j.toNat)).length:=by rw[g4]
       have h2:=vM (e.aF.take j.toNat);simp only[amJ,ant]at this h2;omega
      have ew:IntKind.i64.wrap (j+1)=j+1:=by rw[amG];omega
      refine T.step (P:=λr=>r=decide (j<m)) (T.bif (λc=>T.bif (λc4=>T.some ?_) λc4=>T.some ?_) λc=>T.some ?_) λa ha=>?_
      ·simp only[amJ,amS]at c;rw[Yn,amS]at c4;have:j<m:=by simp only[m,c4,am0];exact c
       simp[this]
      ·rw[Yn,anh]at c4;have e1:IntKind.i64.wrap ((i:Int) - 1)=((i - 1:Nat):Int):=by rw[amG];omega
       rw[e1];simp only[m,c4,anj]
      ·simp only[amJ,anh]at c;have:¬j<m:=by omega
       simp[this]
      ·subst ha;refine T.bif (λc=>?_) λc=>T.some (T.some ⟨_,rfl,?_⟩)
       ·simp only[amS]at c;refine T.eA ⟨g1,by omega⟩ λx _ hx=>?_
        rw[ew];refine T.eA ⟨by omega,by omega⟩ λy _ _=>s1 λs hs=>T.step (NI (by omega)) λv hv=>T.some ⟨_,?_,?_,?_,rfl,?_⟩
        ·dsimp only;omega
        ·dsimp only;omega
        ·dsimp only;omega
        ·dsimp only;have:(j+1).toNat=j.toNat+1:=by omega
         rw[hv,hs,g4,this,anA,hx,vL];rfl
       ·simp only[anh]at c;have:j.toNat=m:=by omega
        rw[g4,this];simp only[gx,c3,m];split
        ·simp
        ·simp
     ·simp only[anl,ne_eq]at c3;have:gx e i=[]:=by
       unfold gx;by_cases k1:e.aj=11
       ·have:i≠1:=λq=>c ⟨k1,q⟩
        simp[k1,this]
       ·by_cases k2:e.aj=13
        ·have:i=0:=by apply anI;intro q;exact c2 ⟨k2,by omega⟩
         simp[k2,this]
        ·simp[k1,k2,c3]
      rw[this];rfl
     ·rintro _ ⟨l,rfl,hl⟩;exact T.some hl
def T75{d:Nat}{e:aa}{i:Nat}{b:amx amw}(h:wB (d+1) e)(hi:i<e.aG.length)(hb:b.length<=100000):T (Ft e i b) λr=>r=b++nz (gx e i):=by
 unfold Ft;refine T.step (Yo h hi) λl hl=>?_
 have h8:=pj h i;have hz:=vM (gx e i);have ll:l.length=(nz (gx e i)).length:=by rw[<-hl];simp
 refine T.step (P:=λr=>r=b) (by unfold Be;exact T.ck (by simp;omega) (T.ck (by simp;omega) (T.some (by simp)))) λv hv=>?_
 subst hv;refine T.dg (λj a=>a=v++(l.take j).map (·.name)) (by simp) (λj y a hy hm hj hI=>T.ck (by rw[hI];simp;omega) (T.some ?_)) λa hI=>T.some ?_
 ·show a++[y.name]=_
  rw[hI,anA,hy];simp
 ·rw[hI,anz,hl]
end
section
set_option maxRecDepth 1000000
set_option linter.unusedVariables false
def Ss(l:amx amw):nz (nz l)=nz l:=by unfold nz;simp
def vN{a b:amw}(h:(bZ a b)=true):sG a=sG b:=by
 unfold sG bZ;rw[eq_of_beq h]
def Am{l:amx amw}{n:amw}(h:sG n=false):db l n=db (nz l) n:=by
 induction l with
 |nil=>rfl
 |cons x l ih=>
  have e1:db (x::l) n=((bZ x n)||db l n):=rfl;have e2:nz (x::l)=cond (sG x) (nz l) (x::nz l):=by unfold nz;cases hx:sG x<;>simp[List.filter,hx]
  rw[e1,e2,ih];cases hx:sG x with
  |true=>
   have:(bZ x n)=false:=by
    cases hc:(bZ x n)with
    |false=>rfl
    |true=>rw[vN hc,h]at hx;simp at hx
   rw[this];rfl
  |false=>rfl
def kQ{l l':amx amw}{n:amw}(h:sG n=false)(e:nz l=nz l'):db l n=db l' n:=by
 rw[Am h,Am (l:=l') h,e]
def VR(gw:az)(m:amx (amw×aI))(w:bQ):Prop:=∀n,(gp m n=none/\D0 w n=some false)\/
 ∃v e js b,gp m n=some v/\D0 w n=some true/\mm gw m n=some e/\Te w n=some e/\dE 30 e/\Oi w n=some js/\P4 w n=some b/\v.cj=b/\v.gI.map (·.aD)=js/\js.length<=8/\sG n=false/\sG b=false/\∀j∈js,sG j=false
theorem dE.mono:{d:Nat}->{e:aa}->dE d e->dE (d+1) e
 |0,_,h=>h.elim
 |d+1,e,h=>λk hk=>(h k hk).mono
def dE.le{d d':Nat}{e:aa}(h:dE d e)(l:d<=d'):dE d' e:=by
 induction l with
 |refl=>exact h
 |step _ ih=>exact ih.mono
def zE:aa:=aa.mk (0:Int) (⟨#[]⟩) (0:Int) (⟨#[]⟩) [] [] [] (0:Int) (0:Int)
def AG(gw:az)(m:amx (amw×aI))(w:bQ)(n n':Nat)(b b':amx amw)(e:aa)(D:Nat):Prop:=∃a k,Bf n w b' e=some (a,k)/\((k=0/\dE D a/\∀er,fu n' e b gw m er=some (a,er))\/(k=15/\a=zE/\∀er,∃e',fu n' e b gw m er=some (e',15)))
def JZ{gw:az}{m:amx (amw×aI)}{w:bQ}{n n' d D:Nat}{b b':amx amw}{e:aa}(h:wB (d+1) e)(hb:b.length<=90000)(hb':b'.length<=90000)
 (ih:∀i k,e.aG[i]?=some k->AG gw m w n n' (b++gx e i) (b'++nz (gx e i)) k D):
 ∃a k,(bg (λ(i17:Nat)(v18:aa)=>λ(a16:amx aa)=>((Ft e (i17:Int) b').bind λv25=>(Bf n w v25 v18).bind λv26=>bif (v26.2 !=(0:Int))then(some (.inr (.inr ((aa.mk (0:Int) (⟨#[]⟩) (0:Int) (⟨#[]⟩) [] [] [] (0:Int) (0:Int)),v26.2))))else((ck (a16.length+([v26.1]:amx aa).length) 136).bind λv28=>some (.inl (a16++[v26.1]))):amy ((amx aa)⊕((amx aa)⊕(aa×Int))))) (λ(a16:amx aa)=>a16) 0 e.aG []).bind (Sum.elim (λ(c22:amx aa)=>some ((aa.mk e.aj e.name e.n e.s e.aF e.binds c22 e.pos e.ef),(0:Int))) some)=some (a,k)/\
  (
   (k=0/\dE (D+1) a/\∀er,((iv e.aG).bind λv3=>(bg (λ(i6:Nat)(v7:aa)=>λ((a4,a5):amx aa×Int)=>((D4 e (i6:Int) b).bind λv15=>(fu n' v7 v15 gw m a5).bind λv16=>(aS (0<=(i6:Int)/\(i6:Int)<((v3.map aa.ak).length:Int))).bind λv17=>(au a4 (i6:Int)).bind λv18=>some (.inl ((a4.set ((i6:Int).toNat) v16.1),v16.2)):amy ((amx aa×Int)⊕((amx aa×Int)⊕(aa×Int))))) (λ((a4,a5):amx aa×Int)=>(a4,a5)) 0 e.aG (v3,er)).bind (Sum.elim (λ((c11,c12):amx aa×Int)=>(aS ((c11.map aa.ak).length=(v3.map aa.ak).length)).bind λv19=>some ((aa.mk e.aj e.name e.n e.s e.aF e.binds c11 e.pos e.ef),c12)) some))=some (a,er))\/
   (k=15/\a=zE/\∀er,∃e',((iv e.aG).bind λv3=>(bg (λ(i6:Nat)(v7:aa)=>λ((a4,a5):amx aa×Int)=>((D4 e (i6:Int) b).bind λv15=>(fu n' v7 v15 gw m a5).bind λv16=>(aS (0<=(i6:Int)/\(i6:Int)<((v3.map aa.ak).length:Int))).bind λv17=>(au a4 (i6:Int)).bind λv18=>some (.inl ((a4.set ((i6:Int).toNat) v16.1),v16.2)):amy ((amx aa×Int)⊕((amx aa×Int)⊕(aa×Int))))) (λ((a4,a5):amx aa×Int)=>(a4,a5)) 0 e.aG (v3,er)).bind (Sum.elim (λ((c11,c12):amx aa×Int)=>(aS ((c11.map aa.ak).length=(v3.map aa.ak).length)).bind λv19=>some ((aa.mk e.aj e.name e.n e.s e.aF e.binds c11 e.pos e.ef),c12)) some))=some (e',15))):=by
 have hk9:=h.2.2.2.2.1
 let K:Nat->Int:=λi=>((Bf n w (b'++nz (gx e i)) (e.aG.getD i e)).getD (e,0)).2
 let R:Nat->aa:=λi=>((Bf n w (b'++nz (gx e i)) (e.aG.getD i e)).getD (e,0)).1
 have acP:∀{i k},e.aG[i]?=some k->e.aG.getD i e=k:=λhx=>by simp[List.getD,hx]
 have hF:∀{i k},e.aG[i]?=some k->Bf n w (b'++nz (gx e i)) k=some (R i,K i)/\((K i=0/\dE D (R i)/\∀er,fu n' k (b++gx e i) gw m er=some (R i,er))\/(K i=15/\R i=zE/\∀er,∃e',fu n' k (b++gx e i) gw m er=some (e',15))):=by
  intro i k hx;obtain⟨a,q,h1,h2⟩:=ih i k hx;have e1:R i=a:=by simp only[R,acP hx,h1,anV]
  have e2:K i=q:=by simp only[K,acP hx,h1,anV]
  rw[e1,e2];exact⟨h1,h2⟩
 have Tf:∀{i},i<e.aG.length->Ft e (i:Int) b'=some (b'++nz (gx e i)):=λhi=>by
  obtain⟨r,h1,h2⟩:=T75 (b:=b') h hi (by omega);rw[h1,h2]
 have Tn:∀{i},i<e.aG.length->D4 e (i:Int) b=some (b++gx e i):=λhi=>by
  obtain⟨r,h1,h2⟩:=T63 (b:=b) h hi (by omega);rw[h1,h2]
 have tcl:iv e.aG=some e.aG:=by
  obtain⟨r,h1,h2⟩:=(show T (iv e.aG) λr=>r=e.aG by unfold iv;exact T.ck (by simp;omega) (T.some rfl));rw[h1,h2]
 by_cases acJ:∀i,i<e.aG.length->K i=0
 ·have r1:=T.dg (f:=λ(i17:Nat)(v18:aa)=>λ(a16:amx aa)=>((Ft e (i17:Int) b').bind λv25=>(Bf n w v25 v18).bind λv26=>bif (v26.2 !=(0:Int))then(some (.inr (.inr ((aa.mk (0:Int) (⟨#[]⟩) (0:Int) (⟨#[]⟩) [] [] [] (0:Int) (0:Int)),v26.2))))else((ck (a16.length+([v26.1]:amx aa).length) 136).bind λv28=>some (.inl (a16++[v26.1]))):amy ((amx aa)⊕((amx aa)⊕(aa×Int)))))
   (p:=λ(a16:amx aa)=>a16) (f':=λ(c22:amx aa)=>some ((aa.mk e.aj e.name e.n e.s e.aF e.binds c22 e.pos e.ef),(0:Int))) (g':=some) (xs:=e.aG) (s:=[]) (I:=λj a=>a=(List.range j).map R) (Q:=λr=>r=(aa.mk e.aj e.name e.n e.s e.aF e.binds ((List.range e.aG.length).map R) e.pos e.ef,0)) rfl
   (λj k a hx hm hj hI=>by
    rw[Tf hj];simp only[amD];rw[(hF hx).1];simp only[amD];rw[acJ j hj];refine T.bif (λc=>by simp at c) λ_=>T.ck (by rw[hI];simp;omega) (T.some ?_)
    show _=_
    rw[hI,List.range_succ,amY];rfl)
   (λa hI=>T.some (by rw[hI]))
  obtain⟨r,e1,e2⟩:=r1;refine⟨_,_,by rw[e1,e2],.inl ⟨rfl,λk hk=>?_,λer=>?_⟩⟩
  ·obtain⟨i,hi,rfl⟩:=am3.1 hk;have hi:=an0.1 hi;have:=(hF (anG hi)).2;rcases this with⟨_,hd,_⟩|⟨h15,_⟩
   ·exact hd
   ·rw[acJ i hi]at h15;simp at h15
  ·rw[tcl];simp only[amD];have r2:=T.dg (f:=λ(i6:Nat)(v7:aa)=>λ((a4,a5):amx aa×Int)=>((D4 e (i6:Int) b).bind λv15=>(fu n' v7 v15 gw m a5).bind λv16=>(aS (0<=(i6:Int)/\(i6:Int)<((e.aG.map aa.ak).length:Int))).bind λv17=>(au a4 (i6:Int)).bind λv18=>some (.inl ((a4.set ((i6:Int).toNat) v16.1),v16.2)):amy ((amx aa×Int)⊕((amx aa×Int)⊕(aa×Int)))))
    (p:=λ((a4,a5):amx aa×Int)=>(a4,a5)) (f':=λ((c11,c12):amx aa×Int)=>(aS ((c11.map aa.ak).length=(e.aG.map aa.ak).length)).bind λv19=>some ((aa.mk e.aj e.name e.n e.s e.aF e.binds c11 e.pos e.ef),c12)) (g':=some) (xs:=e.aG) (s:=(e.aG,er))
    (I:=λj a=>a=((List.range j).map R++e.aG.drop j,er)) (Q:=λr=>r=(aa.mk e.aj e.name e.n e.s e.aF e.binds ((List.range e.aG.length).map R) e.pos e.ef,er)) rfl
    (λj k a hx hm hj hI=>by
     subst hI;dsimp only;rw[Tn hj];simp only[amD];have hf:=(hF hx).2;rcases hf with⟨_,_,hf⟩|⟨h15,_⟩
     ·rw[hf er];simp only[amD];refine T.aS ⟨by omega,by simpa using hj⟩ (T.eA ⟨by omega,by simp;omega⟩ λx _ _=>T.some ?_)
      show _=_
      have e3:e.aG.drop j=k::e.aG.drop (j+1):=by
       rw[ao2 hj];congr 1;have:=anG hj;rw[hx]at this;simpa using this.symm
      rw[e3,Int.toNat_natCast,List.set_append_right _ _ (by simp),List.range_succ,amY];simp
     ·rw[acJ j hj]at h15;simp at h15)
    (λa hI=>by
     subst hI;exact T.aS (by simp) (T.some (by simp)))
   obtain⟨r,e3,e4⟩:=r2;rw[e3,e4]
 ·have ahm:∃i,i<e.aG.length/\K i≠0:=by
   apply anI;intro hn;exact acJ λi hi=>anI λhc=>hn ⟨i,hi,hc⟩
  have r1:=T.dg (f:=λ(i17:Nat)(v18:aa)=>λ(a16:amx aa)=>((Ft e (i17:Int) b').bind λv25=>(Bf n w v25 v18).bind λv26=>bif (v26.2 !=(0:Int))then(some (.inr (.inr ((aa.mk (0:Int) (⟨#[]⟩) (0:Int) (⟨#[]⟩) [] [] [] (0:Int) (0:Int)),v26.2))))else((ck (a16.length+([v26.1]:amx aa).length) 136).bind λv28=>some (.inl (a16++[v26.1]))):amy ((amx aa)⊕((amx aa)⊕(aa×Int)))))
   (p:=λ(a16:amx aa)=>a16) (f':=λ(c22:amx aa)=>some ((aa.mk e.aj e.name e.n e.s e.aF e.binds c22 e.pos e.ef),(0:Int))) (g':=some) (xs:=e.aG) (s:=[]) (I:=λj a=>a.length=j/\∀i,i<j->K i=0) (Q:=λr=>r=(zE,15)) ⟨rfl,λi hi=>absurd hi (by omega)⟩
   (λj k a hx hm hj hI=>by
    rw[Tf hj];simp only[amD];rw[(hF hx).1];simp only[amD];refine T.bif (λc=>T.some (T.some ?_)) λc=>T.ck (by simp;omega) (T.some ⟨by simp[hI.1],λi hi=>?_⟩)
    ·simp only[anC,ne_eq]at c;rcases(hF hx).2 with⟨h0,_⟩|⟨h15,_⟩
     ·exact absurd h0 c
     ·show(_,K j)=_;rw[h15];rfl
    ·simp only[bne_eq_false_iff_eq]at c;by_cases e:i=j
     ·subst e;exact c
     ·exact hI.2 i (by omega))
   (λa hI=>by
    obtain⟨i,hi,hc⟩:=ahm;exact absurd (hI.2 i hi) hc)
  obtain⟨r,e1,e2⟩:=r1;subst e2;refine⟨zE,15,e1,.inr ⟨rfl,rfl,λer=>?_⟩⟩;rw[tcl];simp only[amD];have r2:=T.dg (f:=λ(i6:Nat)(v7:aa)=>λ((a4,a5):amx aa×Int)=>((D4 e (i6:Int) b).bind λv15=>(fu n' v7 v15 gw m a5).bind λv16=>(aS (0<=(i6:Int)/\(i6:Int)<((e.aG.map aa.ak).length:Int))).bind λv17=>(au a4 (i6:Int)).bind λv18=>some (.inl ((a4.set ((i6:Int).toNat) v16.1),v16.2)):amy ((amx aa×Int)⊕((amx aa×Int)⊕(aa×Int)))))
   (p:=λ((a4,a5):amx aa×Int)=>(a4,a5)) (f':=λ((c11,c12):amx aa×Int)=>(aS ((c11.map aa.ak).length=(e.aG.map aa.ak).length)).bind λv19=>some ((aa.mk e.aj e.name e.n e.s e.aF e.binds c11 e.pos e.ef),c12)) (g':=some) (xs:=e.aG) (s:=(e.aG,er))
   (I:=λj a=>a.1.length=e.aG.length/\((∃i,i<j/\K i≠0)->a.2=15)) (Q:=λr=>r.2=15) ⟨rfl,λ⟨i,hi,_⟩=>absurd hi (by omega)⟩
   (λj k a hx hm hj hI=>by
    obtain⟨a4,a5⟩:=a;dsimp only at hI |-;rw[Tn hj];simp only[amD];rcases(hF hx).2 with⟨h0,_,hf⟩|⟨h15,_,hf⟩
    ·rw[hf a5];simp only[amD];refine T.aS ⟨by omega,by simpa using hj⟩ (T.eA ⟨by omega,by omega⟩ λx _ _=>T.some ⟨by simp[hI.1],λ⟨i,hi,hc⟩=>hI.2 ⟨i,?_,hc⟩⟩);by_cases e:i=j
     ·subst e;exact absurd h0 hc
     ·omega
    ·obtain⟨e',hf⟩:=hf a5;rw[hf];simp only[amD];exact T.aS ⟨by omega,by simpa using hj⟩ (T.eA ⟨by omega,by omega⟩ λx _ _=>T.some ⟨by simp[hI.1],λ_=>rfl⟩))
   (λa hI=>by
    obtain⟨a4,a5⟩:=a;dsimp only at hI |-;have:=hI.2 ahm;subst this;exact T.aS (by simp[hI.1]) (T.some rfl))
  obtain⟨⟨r,k⟩,e3,e4⟩:=r2;dsimp only at e4;subst e4;exact⟨r,e3⟩
end
section
set_option maxRecDepth 1000000
set_option linter.unusedVariables false
def lH{α:Type}{o:amy α}{x:α}(h:T o λr=>r=x):o=Option.some x:=by
 obtain⟨a,e,r⟩:=h;rw[e,r]
def St{gw:az}{m:amx (amw×aI)}{w:bQ}(hv:VR gw m w):{d n n':Nat}->{b b':amx amw}->{e:aa}->wB d e->d<=n->d<=n'->b.length+9*d<=90000->b'.length+9*d<=90000->nz b=nz b'->AG gw m w n n' b b' e (d+30)
 |0,_,_,_,_,_,h,_,_,_,_,_=>h.elim
 |d+1,0,_,_,_,_,_,l,_,_,_,_=>absurd l (by omega)
 |d+1,_+1,0,_,_,_,_,_,l,_,_,_=>absurd l (by omega)
 |d+1,n+1,n'+1,b,b',e,h,hn,hn',hb,hb',he=>by
  have L:=JZ (gw:=gw) (m:=m) (w:=w) (n:=n) (n':=n') (D:=d+30) (b:=b) (b':=b') h (by omega) (by omega) (λi k hk=>by
   have h8:=pj h i;have hz:=vM (gx e i);exact St hv (h.2.2.2.2.2 k (anL hk)) (by omega) (by omega) (by simp;omega) (by simp;omega) (by rw[vL,vL,Ss,he]))
  obtain⟨a,k,l1,l2⟩:=L;have ef:Bf (n+1) w b' e=(bg (λ(i17:Nat)(v18:aa)=>λ(a16:amx aa)=>((Ft e (i17:Int) b').bind λv25=>(Bf n w v25 v18).bind λv26=>bif (v26.2 !=(0:Int))then(some (.inr (.inr ((aa.mk (0:Int) (⟨#[]⟩) (0:Int) (⟨#[]⟩) [] [] [] (0:Int) (0:Int)),v26.2))))else((ck (a16.length+([v26.1]:amx aa).length) 136).bind λv28=>some (.inl (a16++[v26.1]))):amy ((amx aa)⊕((amx aa)⊕(aa×Int))))) (λ(a16:amx aa)=>a16) 0 e.aG []).bind (Sum.elim (λ(c22:amx aa)=>some ((aa.mk e.aj e.name e.n e.s e.aF e.binds c22 e.pos e.ef),(0:Int))) some)->
   (∀er,fu (n'+1) e b gw m er=((iv e.aG).bind λv3=>(bg (λ(i6:Nat)(v7:aa)=>λ((a4,a5):amx aa×Int)=>((D4 e (i6:Int) b).bind λv15=>(fu n' v7 v15 gw m a5).bind λv16=>(aS (0<=(i6:Int)/\(i6:Int)<((v3.map aa.ak).length:Int))).bind λv17=>(au a4 (i6:Int)).bind λv18=>some (.inl ((a4.set ((i6:Int).toNat) v16.1),v16.2)):amy ((amx aa×Int)⊕((amx aa×Int)⊕(aa×Int))))) (λ((a4,a5):amx aa×Int)=>(a4,a5)) 0 e.aG (v3,er)).bind (Sum.elim (λ((c11,c12):amx aa×Int)=>(aS ((c11.map aa.ak).length=(v3.map aa.ak).length)).bind λv19=>some ((aa.mk e.aj e.name e.n e.s e.aF e.binds c11 e.pos e.ef),c12)) some)))->
   AG gw m w (n+1) (n'+1) b b' e (d+1+30):=by
   intro q1 q2;refine⟨a,k,by rw[q1];exact l1,?_⟩;rcases l2 with⟨x1,x2,x3⟩|⟨x1,x4,x3⟩
   ·exact .inl ⟨x1,by rw[show d+1+30=d+30+1 by omega];exact x2,λer=>by rw[q2];exact x3 er⟩
   ·exact .inr ⟨x1,x4,λer=>by rw[q2];exact x3 er⟩
  rcases hv e.name with⟨h1,h2⟩|⟨v,ex,js,bb,h1,h2,h3,h4,h5,h6,h7,h8,h9,h10,h11,h12,h13⟩
  ·refine ef ?_ λer=>?_
   ·show(D0 w e.name).bind _=_
    rw[h2];simp only[amD];cases(e.aj==3)<;>rfl
   ·show(iV e b gw m er).bind _=_
    unfold iV;rw[h1];simp only[Option.elim];cases(e.aj != 3)<;>rfl
  ·have hbe:=kQ h11 he;have Oh:=ZU b' e.name;obtain⟨r70,e70,p70⟩:=Oh;have m4:=lH (Ym b e.name);by_cases hc:e.aj=3/\db b e.name=false
   ·have c3:(e.aj==3)=true:=by simp[hc.1]
    have c4:(e.aj != 3)=false:=by simp[hc.1]
    rw[hc.2]at m4;rw[<-hbe,hc.2]at p70;have aiT:(js++[bb]).any (λx=>db b' x)=((v.gI.any λj=>db b j.aD)||db b bb):=by
     rw[aog,<-h9,List.any_map];have:(v.gI.any ((λx=>db b' x)∘λx=>x.aD))=v.gI.any λj=>db b j.aD:=by
      rw[Bool.eq_iff_iff,anx,anx];constructor
      ·rintro⟨x,hx,hy⟩;exact⟨x,hx,by rw[kQ (h13 _ (by rw[<-h9];exact am3.2 ⟨x,hx,rfl⟩)) he];exact hy⟩
      ·rintro⟨x,hx,hy⟩;exact⟨x,hx,by rw[kQ (h13 _ (by rw[<-h9];exact am3.2 ⟨x,hx,rfl⟩)) he]at hy;exact hy⟩
     rw[this,kQ h12 he];simp
    have Td:=lH (T71 (js++[bb]) b');rw[aiT]at Td;have t26:=lH (JY v.gI b);have ahn:=lH (Ym b v.cj);rw[h8]at ahn;have f28:Bf (n+1) w b' e=bif ((v.gI.any λj=>db b j.aD)||db b bb)then some ((aa.mk (0:Int) (⟨#[]⟩) (0:Int) (⟨#[]⟩) [] [] [] (0:Int) (0:Int)),(15:Int))else some (ex,0):=by
     show(D0 w e.name).bind _=_
     rw[h2];simp only[amD];rw[c3];simp only[ane,amD];rw[e70];simp only[amD,p70,Bool.not_false,ane];rw[h6,h7];simp only[amD];have hck:∀{k:Nat},k<=9->ck k 16=some ():=λhk=>by unfold ck;rw[amH (by omega)]
     rw[hck (by simp;omega)];simp only[amD];rw[Td,h4];simp only[amD]
    have f24:∀er,fu (n'+1) e b gw m er=some (ex,bif ((v.gI.any λj=>db b j.aD)||db b bb)then 15 else er):=by
     intro er
     show(iV e b gw m er).bind _=_
     unfold iV si;rw[h1];simp only[Option.elim];rw[c4];simp only[ana,amD];rw[m4];simp only[ana,amD];rw[t26];simp only[amD];rw[h8,ahn,h3];cases(v.gI.any λj=>db b j.aD)<;>cases db b bb<;>rfl
    cases hcap:((v.gI.any λj=>db b j.aD)||db b bb)with
    |false=>
     rw[hcap]at f28 f24;exact⟨ex,0,f28,.inl ⟨rfl,h5.le (by omega),λer=>f24 er⟩⟩
    |true=>
     rw[hcap]at f28 f24;exact⟨_,15,f28,.inr ⟨rfl,rfl,λer=>⟨ex,f24 er⟩⟩⟩
   ·refine ef ?_ λer=>?_
    ·show(D0 w e.name).bind _=_
     rw[h2];simp only[amD];cases c3:(e.aj==3)with
     |false=>rfl
     |true=>
      simp only[ane,amD];rw[e70];simp only[amD,p70];have:db b' e.name=true:=by
       rw[<-hbe];cases hq:db b e.name with
       |true=>rfl
       |false=>exact absurd ⟨by simpa using c3,hq⟩ hc
      rw[this];rfl
    ·show(iV e b gw m er).bind _=_
     unfold iV;rw[h1];simp only[Option.elim];cases c3:(e.aj != 3)with
     |true=>rfl
     |false=>
      simp only[ana,amD];have:db b e.name=true:=by
       cases hq:db b e.name with
       |true=>rfl
       |false=>exact absurd ⟨by simpa using c3,hq⟩ hc
      rw[m4,this];rfl
def AB(s:ah)(x:GStep):Prop:=(∃k w,k≠0/\D3 s x=some (.inl k)/\Mi s x=some (w,k))\/∃gw m w,D3 s x=some (.inr (gw,m))/\Mi s x=some (w,0)/\VR gw m w
def Yp{s:ah}{x:GStep}(h:AB s x){d:Nat}{b:amx amw}{e:aa}(he:wB d e)(hd:d<=100)(hb:b.length<=100):
 ∃r r',F9 s x b e=some r/\Oj s x b e=some r'/\r.2=r'.2/\Mo 1000000 r.1 r'.1=some true:=by
 have z0:Mo 1000000 zE zE=some true:=lH (Ye (d:=1) (λk hk=>by simp[zE]at hk) (by omega));rcases h with⟨k,w,h0,h1,h2⟩|⟨gw,m,w,h1,h2,h3⟩
 ·refine⟨(zE,k),(zE,k),?_,?_,rfl,z0⟩
  ·unfold F9;rw[h1];simp only[amD];have:(k != 0)=true:=by simpa using h0
   rw[this];rfl
  ·unfold Oj;rw[h2];simp only[amD];have:(k != 0)=true:=by simpa using h0
   rw[this];rfl
 ·obtain⟨a,k,l1,l2⟩:=St h3 (n:=1000000) (n':=1000000) (b:=b) (b':=b) he (by omega) (by omega) (by omega) (by omega) rfl;have f10:Oj s x b e=some (a,k):=by unfold Oj;rw[h2];simp only[amD];rw[show(((0:Int) != 0))=false from rfl];simp only[ana];rw[l1];rfl
  have f9:F9 s x b e=(kO gw m b e).bind λv7=>some (v7.1,v7.2):=by unfold F9;rw[h1];rfl
  rcases l2 with⟨rfl,hd2,l3⟩|⟨rfl,rfl,l3⟩
  ·exact⟨(a,0),(a,0),by rw[f9];unfold kO;rw[l3 0];rfl,f10,rfl,lH (Ye hd2 (by omega))⟩
  ·obtain⟨e',l4⟩:=l3 0;exact⟨(zE,15),(zE,15),by rw[f9];unfold kO;rw[l4];rfl,f10,rfl,z0⟩
end
section
set_option maxRecDepth 1000000
set_option linter.unusedVariables false
def T4{l k:amx Int}(h:l.length<2 ^ 62)(hl:∀x∈l,kj x)(hk:∀x∈k,kj x):T (F4 l k) λr=>∃q:DP,q.ok/\r.2=bW q/\r.1.length<=4/\∀m∈r.1,m.cb.length<=20/\∀d∈m.cb,wB 30 d.body:=by
 unfold F4;refine T.step (T13 h hl) λv1⟨b,q,ad,bd,hw⟩=>T.step (T14 hw) λv2 e2=>?_
 subst e2;refine T.step (T15 hw.ok hk) λv3 h3=>?_
 have hlen:v1.length=3:=by have:=anB List.length hw.BD;simpa using this
 refine T.ck (by simp[hlen]) (T.some ⟨q,hw.ok,rfl,by simp[hlen],λm hm=>?_⟩);rcases amZ.1 hm with hm|hm
 ·have:=hw.vI m hm;exact⟨this.1,λd hd=>(this.2 d hd).body.wB.le (by decide)⟩
 ·simp only[aov]at hm;subst hm;exact⟨by omega,λd hd=>by rw[h3.2 d hd];exact⟨by simp,by simp,by simp,by simp,by simp,by simp⟩⟩
def Yq(HA:∀q:DP,q.ok->∀t∈(bW q).am,∀x,ld (bW q).am t x->AB (bW q) x){l m k q:amx Int}{np:Int}(h:l.length<2 ^ 62)(hl:∀x∈l,kj x)(hm:∀x∈m,kj x)(hk:∀x∈k,kj x)(hq:∀x∈q,kj x):
 F3 l m k q np=some true:=by
 refine lH ?_;unfold F3;refine T.step (T4 h hl hm) λv1⟨p,hp,e2,h4,hb⟩=>?_
 rw[e2];refine T.step (T5 hp hk) λx⟨t,ht,hx⟩=>T.step (T6 h hl hq) λv3 h3=>T.step (T7 hq) λv4 h7=>?_
 have hab:=HA p hp t ht x hx;refine T.dg (λj(a:amx aa)=>a.length<=2+20*j/\∀e∈a,wB 30 e) ⟨by simp,by simp[h3.le (show 12<=30 by decide),h7.le (show 5<=30 by decide)]⟩ (λj md a hj hmd hlt hI=>?_) λa hI=>?_
 ·have hd:=hb md hmd;refine T.ju (λc(s:amx aa×Int)=>0<=s.2/\s.2<=md.cb.length/\c=md.cb.length - s.2.toNat/\s.1.length<=2+20*j+s.2.toNat/\∀e∈s.1,wB 30 e) (m:=md.cb.length) (by omega) ⟨by simp,by simp,by simp,by simpa using hI.1,hI.2⟩ ?_;rintro c ⟨s,i⟩ ⟨g1,g2,rfl,g3,g4⟩;dsimp only at g1 g2 g3 g4 |-;have ew:IntKind.i64.wrap (i+1)=i+1:=by rw[amG];omega
  refine T.bif (λc=>?_) λc=>T.some (T.some ?_)
  ·simp only[amJ,amS]at c;rw[ew];refine T.eA ⟨g1,c⟩ λd hdm _=>T.ck (by simp;omega) (T.some ⟨_,?_,?_,?_,rfl,?_,bT g4 (hd.2 d hdm)⟩)
   ·dsimp only;omega
   ·dsimp only;omega
   ·dsimp only;omega
   ·simp;omega
  ·simp only[amJ,anh]at c;exact⟨by omega,g4⟩
 ·refine T.dg (λ_ _=>True) trivial (λj e s hj he hlt _=>?_) λ_ _=>T.step (P:=λr=>r=true) ⟨true,T12,rfl⟩ λv hv=>T.some hv
  refine T.step (T8 (jy p).2 (Sm _)) λb hb8=>?_
  obtain⟨r,r',f9,f10,e1,e2⟩:=Yp hab (b:=b) (hI.2 e he) (by omega) (by omega);rw[f9,f10];simp only[amD];refine T.step (P:=λr=>r=false) (T.bif (λc=>by simp[e1]at c) λ_=>?_) λa ha=>?_
  ·rw[e2];exact T.some rfl
  ·subst ha;exact T.bif (λc=>by simp at c) λ_=>T.some trivial
end
end Go.Ab

/- Plain laws. -/
import Derived.Test.YtlahelaeeahggaaGreatDoorP4
set_option linter.all false
set_option maxHeartbeats 20000000
open Go Go.RowKit Go.Proofs
namespace Go.Ab
section
set_option maxRecDepth 1000000
set_option linter.unusedVariables false
def jU{a b:amw}(h:bZ a b=true):a=b:=by
 unfold bZ at h;have:=eq_of_beq h;obtain⟨⟨l⟩⟩:=a;obtain⟨⟨k⟩⟩:=b;simp only at this;rw[this]
def DS{α:Type}(f:α->α->amz):amx α->amx α->amz
 | [],[]=>true
 |a::r,b::q=>f a b&&DS f r q
 |_,_=>false
def pk{α:Type}{f:α->α->amz}(hf:∀a b,f a b=true->a=b):{l k:amx α}->DS f l k=true->l=k
 | [],[],_=>rfl
 |a::r,b::q,h=>by
  simp only[DS,amC]at h;rw[hf _ _ h.1,pk hf h.2]
 | [],_::_,h=>by simp[DS]at h
 |_::_,[],h=>by simp[DS]at h
def Su:Nat->aa->aa->amz
 |0,_,_=>false
 |d+1,⟨k,n,v,s,ns,bs,ks,p,f⟩,⟨k',n',v',s',ns',bs',ks',p',f'⟩=>k==k'&&bZ n n'&&v==v'&&bZ s s'&&DS bZ ns ns'&&DS bZ bs bs'&&DS (Su d) ks ks'&&p==p'&&f==f'
def An{α:Type}{f:α->α->amz}:{l k:amx α}->DS f l k=true->∀a∈l,∃b,f a b=true
 |a::r,b::q,h,x,hx=>by
  simp only[DS,amC]at h;rcases amE.1 hx with rfl|hx
  ·exact⟨b,h.1⟩
  ·exact An h.2 x hx
 | [],_,_,x,hx=>by simp at hx
def vO:{d:Nat}->{a b:aa}->Su d a b=true->a=b/\dE d a
 |0,_,_,h=>by simp[Su]at h
 |d+1,⟨k,n,v,s,ns,bs,ks,p,f⟩,⟨k',n',v',s',ns',bs',ks',p',f'⟩,h=>by
  simp only[Su,amC,am7]at h;obtain⟨⟨⟨⟨⟨⟨⟨⟨h1,h2⟩,h3⟩,h4⟩,h5⟩,h6⟩,h7⟩,h8⟩,h9⟩:=h;have e7:=pk (λa b h=>(vO h).1) h7;refine⟨by rw[h1,jU h2,h3,jU h4,pk (λ_ _=>jU) h5,pk (λ_ _=>jU) h6,e7,h8,h9],λx hx=>?_⟩;obtain⟨b,hb⟩:=An h7 x hx;exact(vO hb).2
def Sv(gw:az)(m:amx (amw×aI))(w:bQ)(n:amw):amz:=
 match gp m n,D0 w n with
 |none,some b=> !b
 |some v,some b=>b&&match mm gw m n,Te w n with
  |some e,some e'=>Su 30 e e'&&match Oi w n,P4 w n with
   |some js,some b=>bZ v.cj b&&DS bZ (v.gI.map (·.aD)) js&&decide (js.length<=8)&& !sG n&& !sG b&&js.all λj=> !sG j
   |_,_=>false
  |_,_=>false
 |_,_=>false
def Yr(gw:az)(m:amx (amw×aI))(w:bQ):amz:=(w.kb.am.all λt=>Sv gw m w t.name)&&m.all λp=>w.kb.am.any λt=>bZ t.name p.1
def pm{α:Type}{n:amw}:{m:amx (amw×α)}->(∀p∈m,p.1≠n)->gp m n=none
 | [],_=>rfl
 |p::r,h=>by
  have h1:(bZ n p.1)=false:=by
   cases hc:(bZ n p.1)with
   |false=>rfl
   |true=>exact absurd (jU hc).symm (h p (by simp))
  show cond (bZ n p.1) _ _=_
  rw[h1];exact pm λq hq=>h q (by simp[hq])
def Ys{s:ah}{n:amw}(h:∀t∈s.am,t.name≠n):T (qZ s n) λr=>r.2=false:=by
 unfold qZ;refine T.dg (λ_ _=>True) trivial (λj y a hy hm hj hI=>?_) λ_ _=>T.some rfl
 exact T.bif (λc=>absurd (jU c) (h y hm)) λ_=>T.some trivial
def NJ{gw:az}{m:amx (amw×aI)}{w:bQ}(h:Yr gw m w=true):VR gw m w:=by
 unfold Yr at h;rw[amC,amR,amR]at h;intro n;by_cases hn:∃t∈w.kb.am,t.name=n
 ·obtain⟨t,ht,rfl⟩:=hn;have hc:=h.1 t ht;unfold Sv at hc;split at hc
  ·rename_i e1 e2;simp only[anT]at hc;subst hc;exact .inl ⟨e1,e2⟩
  ·rename_i v b e1 e2;rw[amC]at hc;obtain⟨rfl,hc⟩:=hc;split at hc
   ·rename_i e e' e3 e4;rw[amC]at hc;obtain⟨h1,hc⟩:=hc;obtain⟨rfl,hd⟩:=vO h1;split at hc
    ·rename_i js b e5 e6;simp only[amC,anT,amS,amR]at hc;obtain⟨⟨⟨⟨⟨q1,q2⟩,q3⟩,q4⟩,q5⟩,q6⟩:=hc;exact .inr ⟨v,e,js,b,e1,e2,e3,e4,hd,e5,e6,jU q1,pk (λ_ _=>jU) q2,q3,q4,q5,q6⟩
    ·simp at hc
   ·simp at hc
  ·simp at hc
 ·have hn2:∀t∈w.kb.am,t.name≠n:=λt ht e=>hn ⟨t,ht,e⟩
  left;refine⟨pm λp hp e=>?_,?_⟩
  ·have:=h.2 p hp;rw[anx]at this;obtain⟨t,ht,e2⟩:=this;exact hn2 t ht (by rw[jU e2,e])
  ·unfold D0;obtain⟨r,e1,e2⟩:=Ys hn2;rw[e1];simp only[amD,e2,Bool.not_false,ane]
def Yt(s:ah)(x:GStep):amy (Int×amx ar×amx ac):=
 let i:=BN s x
 let u:=s.am.getD i aL
 bif decide (x.aj=5)then sa s.aN s.am i u x else bif decide (x.aj=0)then rL s.aN s.am i u x else bif decide (x.aj=1)then rQ s.aN s.am i u x else
 bif decide (x.aj=2)then rT s.aN s.am i u x else bif decide (x.aj=3)then rZ s.aN s.am i u x else bif decide (x.aj=4)then r9 s.aN s.am i u x else
 bif decide (x.aj=6)then sd s.aN s.am i u x else bif decide (x.aj=7)then se s.aN s.am i u x else none
def Yu(s:ah)(x:GStep):amy (ah×Int):=
 bif (x.aj==(0:Int))then LZ s x else bif (x.aj==(1:Int))then L5 s x else bif (x.aj==(2:Int))then L8 s x else bif (x.aj==(3:Int))then Mb s x else
 bif (x.aj==(4:Int))then Md s x else bif (x.aj==(5:Int))then Mf s x else bif (x.aj==(6:Int))then Mg s x else Mh s x
def J0(s:ah)(ts:amx ac):amx amw:=(s.am++ts).map (·.name)
def ZX(gw:az)(x:GStep):amy (amx (amw×aI)):=
 bif decide (x.aj=0)then mn gw []else bif decide (x.aj=1)then mo gw []else bif decide (x.aj=2)then mq gw []else bif decide (x.aj=3)then mr gw []else
 bif decide (x.aj=4)then none else bif decide (x.aj=5)then some []else bif decide (x.aj=6)then mu gw []else bif decide (x.aj=7)then mv gw []else none
def jD(s:ah)(x:GStep):amz:=match Yt s x,Yu s x with
 |some (k,ss,ts),some (s2,k2)=>k==k2&&(k != 0||match Bc s2 with
  |some s3=>decide (s3.am.length<=8)&&(decide (ts.length<=8)&&match ZX (az.mk s ⟨ss,ts⟩ x (J0 s ts)) x with
   |some m=>Yr (az.mk s ⟨ss,ts⟩ x (J0 s ts)) m (bQ.mk s s3 x (J0 s s3.am))
   |none=>false)
  |none=>false)
 |_,_=>false
end
section
set_option maxRecDepth 1000000
set_option linter.unusedVariables false
def T60{a b:amx ac}(ha:a.length<=100)(hb:b.length<=100):Tl [a,b]=some (a++b):=by
 refine lH ?_;unfold Tl;have w:∀{z:Int},0<=z->z<=1000->IntKind.i64.wrap z=z:=λh k=>by rw[amG];omega
 refine T.dg (λj(s:Int)=>0<=s/\s<=100*j) ⟨by simp,by simp⟩ (λj y s hy hm hj hI=>?_) λs hI=>?_
 ·have hy:y.length<=100:=by
   simp only[amE,amP,amQ]at hm;rcases hm with rfl|rfl<;>assumption
  simp only[amA,amB]at hj;have e:IntKind.i64.wrap (s+((y.map ac.ak).length:Int))=s+(y.length:Int):=by rw[amJ];exact w (by omega) (by omega)
  rw[e];refine T.bif (λc=>?_) λ_=>T.some ?_
  ·simp only[amS]at c;omega
  ·show _/\_
   omega
 ·simp only[amA,amB]at hI;refine T.step (P:=λr=>r=[]) (by unfold sf;exact T.aS (by omega) (T.some rfl)) λv hv=>?_
  subst hv;refine T.dg (λj(s:amx ac)=>s=([a,b].take j).flatten) rfl (λj y s hy hm hj hI=>?_) λs hI=>T.some (by rw[hI];simp)
  have hy2:y.length<=100:=by
   simp only[amE,amP,amQ]at hm;rcases hm with rfl|rfl<;>assumption
  simp only[amA,amB]at hj;refine T.ck ?_ (T.some ?_)
  ·have:(([a,b].take j).flatten).length<=200:=by
    have:j=0\/j=1:=by omega
    rcases this with rfl|rfl<;>simp<;>omega
   rw[hI];omega
  ·show _=_
   rw[hI,anA,hy];simp
def lI{γ:Type}{xs:amx ac}{acc:amx amw}{f':amx amw->amy γ}{g':γ->amy γ}{Q:γ->Prop}(hl:xs.length<=200)(ha:acc.length<=200)(k:T (f' (acc++xs.map (·.name))) Q):
 T ((bg (λ(i5:Nat)(v6:ac)=>λ(a4:amx amw)=>((ck (a4.length+([v6.name]:amx amw).length) 16).bind λv13=>some (.inl (a4++[v6.name])):amy ((amx amw)⊕((amx amw)⊕γ)))) (λ(a4:amx amw)=>a4) 0 xs acc).bind (Sum.elim f' g')) Q:=by
 refine T.dg (λj s=>s=acc++(xs.take j).map (·.name)) (by simp) (λj y s hy hm hj hI=>?_) λs hI=>by rw[hI,anz];exact k
 refine T.ck (by rw[hI];simp;omega) (T.some ?_)
 show _=_
 rw[hI,anA,hy];simp
end
section
set_option maxRecDepth 1000000
set_option linter.unusedVariables false
def J1{q:DP}(hq:q.ok):Ib (bW q)=some 0:=by
 have hc:=hq.c;have ha:=hq.a;have hk:=hq.k;have hs:=hq.sh;obtain⟨a,bV,sh,k,c,aV,bK,done,cL⟩:=q;simp only[ed,amE,amP,amQ]at hc;simp only at ha hk hs;have ha:a=0\/a=1\/a=2:=by omega
 have hk:k=0\/k=1:=by omega
 have hs:sh=none\/sh=some 0\/sh=some 1:=by
  cases sh with
  |none=>exact .inl rfl
  |some b=>have:=hs b rfl;rcases(show b=0\/b=1 by omega)with rfl|rfl<;>simp
 clear hq;have e0:rz (bW ⟨a,bV,sh,k,c,aV,bK,done,cL⟩).am=some true:=by
  clear hc ha hk hs;cases aV<;>cases bK<;>cases done<;>cases cL<;>(show _=some true)<;>as_aux_lemma=>kernel_rfl
 have e1:MJ (bW ⟨a,bV,sh,k,c,aV,bK,done,cL⟩)=some true:=by
  clear hc ha hk hs e0;cases sh<;>cases bV<;>cases aV<;>cases bK<;>cases done<;>cases cL<;>(show _=some true)<;>as_aux_lemma=>kernel_rfl
 have e2:MO (bW ⟨a,bV,sh,k,c,aV,bK,done,cL⟩)=some true:=by
  clear hc ha hk hs e0 e1;cases sh<;>cases bV<;>cases aV<;>cases bK<;>cases done<;>cases cL<;>(show _=some true)<;>as_aux_lemma=>kernel_rfl
 have e3:MY (bW ⟨a,bV,sh,k,c,aV,bK,done,cL⟩)=some true:=by
  clear hk e0 e1 e2;rcases ha with rfl|rfl|rfl<;>rcases hs with rfl|rfl|rfl<;>rcases hc with rfl|rfl|rfl|rfl|rfl<;>cases bV<;>cases cL<;>(show _=some true)<;>as_aux_lemma=>kernel_rfl
 have e4:MZ (bW ⟨a,bV,sh,k,c,aV,bK,done,cL⟩)=some true:=by
  clear hc ha hk hs e0 e1 e2 e3;cases aV<;>cases bK<;>cases done<;>cases cL<;>(show _=some true)<;>as_aux_lemma=>kernel_rfl
 have e5:M2 (bW ⟨a,bV,sh,k,c,aV,bK,done,cL⟩)=some true:=by
  clear hc e0 e1 e2 e3 e4;rcases ha with rfl|rfl|rfl<;>rcases hk with rfl|rfl<;>rcases hs with rfl|rfl|rfl<;>cases bV<;>cases aV<;>cases bK<;>cases done<;>cases cL<;>(show _=some true)<;>as_aux_lemma=>kernel_rfl
 have e6:M3 (bW ⟨a,bV,sh,k,c,aV,bK,done,cL⟩)=some true:=by
  clear hc ha hs e0 e1 e2 e3 e4 e5;rcases hk with rfl|rfl<;>cases aV<;>cases bK<;>cases done<;>cases cL<;>(show _=some true)<;>as_aux_lemma=>kernel_rfl
 unfold Ib;rw[e0,e1,e2,e3,e4,e5,e6];clear e0 e1 e2 e3 e4 e5 e6 hc ha hk hs;cases cL<;>rfl
def J2{q:DP}(hq:q.ok):Fo (bW q)=some 0:=by
 have hc:=hq.c;have ha:=hq.a;have hk:=hq.k;have hs:=hq.sh;obtain⟨a,bV,sh,k,c,aV,bK,done,cL⟩:=q;simp only[ed,amE,amP,amQ]at hc;simp only at ha hk hs;have ha:a=0\/a=1\/a=2:=by omega
 have hk:k=0\/k=1:=by omega
 have hs:sh=none\/sh=some 0\/sh=some 1:=by
  cases sh with
  |none=>exact .inl rfl
  |some b=>have:=hs b rfl;rcases(show b=0\/b=1 by omega)with rfl|rfl<;>simp
 clear hq;have e0:Fm (bW ⟨a,bV,sh,k,c,aV,bK,done,cL⟩)=some []:=by
  refine lH ?_;unfold Fm;refine T.bind (T.mono (P:=λr=>r= .inl (false,false,(DP.mk a bV sh k c aV bK done cL).aN.map (·.name),(DP.mk a bV sh k c aV bK done cL).aN.flatMap λs=>s.bG.map (·.name))) ⟨_,?_,rfl⟩ ?_)
  ·clear hc hk;rcases ha with rfl|rfl|rfl<;>rcases hs with rfl|rfl|rfl<;>cases bV<;>(show _=some _)<;>as_aux_lemma=>kernel_rfl
  rintro _ rfl;refine T.bind (T.mono (P:=λr=>r= .inl (false,false,false,false,false,false,false,(bW (DP.mk a bV sh k c aV bK done cL)).am.map (·.name))) ⟨_,?_,rfl⟩ ?_)
  ·clear hs;cases aV with
   |false=>clear ha;rcases hc with rfl|rfl|rfl|rfl|rfl<;>rcases hk with rfl|rfl<;>cases bK<;>cases done<;>cases cL<;>(show _=some _)<;>as_aux_lemma=>kernel_rfl
   |true=>rcases hc with rfl|rfl|rfl|rfl|rfl<;>rcases hk with rfl|rfl<;>cases bK<;>cases done<;>cases cL<;>rcases ha with rfl|rfl|rfl<;>cases bV<;>(show _=some _)<;>as_aux_lemma=>kernel_rfl
  rintro _ rfl;refine⟨_,?_,rfl⟩;clear hc hk ha hs;cases bV<;>cases sh<;>cases cL<;>(show _=some _)<;>as_aux_lemma=>kernel_rfl
 unfold Fo;rw[e0];rfl
def ZY(t:ac):amz:=(match rK t.aC with
 |some l=>match mw l t with|some b=> !b|none=>false
 |none=>false)&&match sL t.aC with
 |some l=>l.all λn=>match jr t n with|some i=>decide (0<=i)|none=>false
 |none=>false
def pn{q:DP}(hq:q.ok){t:ac}(h:t∈(bW q).am):(∃l,rK t.aC=some l/\mw l t=some false)/\∃l,sL t.aC=some l/\l.all (λn=>match jr t n with|some i=>decide (0<=i)|none=>false)=true:=by
 have hb:ZY t=true:=by
  rcases fd h with rfl|rfl|⟨rfl,_⟩
  ·clear h;obtain⟨a,bV,sh,k,c,aV,bK,done,cL⟩:=q;clear hq;cases done<;>(show _=true)<;>as_aux_lemma=>kernel_rfl
  ·clear h;have hc:=hq.c;obtain⟨a,bV,sh,k,c,aV,bK,done,cL⟩:=q;clear hq;simp only[ed,amE,amP,amQ]at hc;rcases hc with rfl|rfl|rfl|rfl|rfl<;>cases aV<;>cases bK<;>(show _=true)<;>as_aux_lemma=>kernel_rfl
  ·kernel_rfl
 unfold ZY at hb;rw[amC]at hb;obtain⟨h1,h2⟩:=hb;constructor
 ·split at h1
  ·rename_i l e;refine⟨l,e,?_⟩;split at h1
   ·rename_i b e2;rw[e2];simp only[anT]at h1;rw[h1]
   ·simp at h1
  ·simp at h1
 ·split at h2
  ·rename_i l e;exact⟨l,e,h2⟩
  ·simp at h2
def J3{s:ah}{i:Nat}(hs:s.aN.length<=100)(ht:s.am.length<=100)(hc:∀t∈s.am,t.af.length<=100/\t.key.length<=100/\t.aY.length<=100):Gt i s=some (s.aN,s.am,s.am.getD i aL)/\ob i s=some (s.aN,s.am,s.am.getD i aL):=by
 have al:∀{f g:ac->amy Unit},(∀t∈s.am,f t=some ()/\g t=some ())->pC (λ(i4:Nat)(v5:ac)=>bif decide (i4=i)then f v5 else g v5) 0 s.am=some ():=by
  intro f g h;have:∀(l:amx ac)(j:Nat),(∀t∈l,f t=some ()/\g t=some ())->pC (λ(i4:Nat)(v5:ac)=>bif decide (i4=i)then f v5 else g v5) j l=some ():=by
   intro l
   induction l with
   |nil=>intro j _;rfl
   |cons a r ih=>
    intro j h;have h1:=h a (by simp);have h2:=ih (j+1) λt ht=>h t (by simp[ht])
    unfold pC;cases decide (j=i)
    ·simp only[ana,h1.2,amD];exact h2
    ·simp only[ane,h1.1,amD];exact h2
  exact this _ _ h
 have cl:∀{α:Type}{l:amx α}{b:Nat},l.length<=100->b<=300->ck (([]:amx α).length+l.length) b=some ():=by
  intro α l b h hb;have h1:(([]:amx α).length+l.length)*b<=100*300:=Nat.mul_le_mul (by simpa using h) hb;unfold ck;rw[amH (by omega)]
 constructor
 ·refine lH ?_;unfold Gt mz mA;rw[cl hs (by decide),cl ht (by decide)];simp only[amD];refine T.aS (by omega) ?_;rw[al λt h=>?_]
  ·exact T.some rfl
  ·obtain⟨h1,h2,h3⟩:=hc t h;unfold kM my ry Bj pE Bk;simp only[cl h1 (show 96<=300 by decide),cl h2 (show 16<=300 by decide),cl h3 (show 32<=300 by decide),amD,and_self]
 ·refine lH ?_;unfold ob mz mA;rw[cl hs (by decide),cl ht (by decide)];simp only[amD];refine T.aS (by omega) ?_;rw[al λt h=>?_]
  ·exact T.some rfl
  ·obtain⟨h1,h2,h3⟩:=hc t h;unfold kM my rx Bj pE Bk;simp only[cl h1 (show 96<=300 by decide),cl h2 (show 16<=300 by decide),cl h3 (show 32<=300 by decide),amD,and_self]
def po{q:DP}(hq:q.ok):(bW q).aN.length<=100/\(bW q).am.length<=100/\∀t∈(bW q).am,t.af.length<=100/\t.key.length<=100/\t.aY.length<=100:=by
 refine⟨?_,?_,λt h=>?_⟩
 ·simp only[bW];cases e:q.sh<;>simp[DP.aN,e]
 ·have:=(jy q).2;omega
 ·have hc:=gS h;refine⟨by omega,?_,by omega⟩;rcases fd h with rfl|rfl|⟨rfl,_⟩
  ·simp[DP.gl]
  ·simp[DP.cf]
  ·simp[iw]
def L59{q:DP}(hq:q.ok){x:GStep}(hk:x.aj∈([0,1,2,3,4,5,6,7]:amx Int)):Tk (bW q) x=(Yt (bW q) x).bind λr=>bif r.1 != 0 then some (⟨[],[]⟩,r.1)else some (⟨r.2.1,r.2.2⟩,0):=by
 have hsm:=po hq;obtain⟨h1,h2⟩:=J3 (i:=BN (bW q) x) hsm.1 hsm.2.1 hsm.2.2;unfold Tk;rw[J1 hq,h1,h2];have hl:(bg (λ(i7:Nat)(v8:ac)=>λ(_:Unit)=>((rK v8.aC).bind λv14=>(mw v14 v8).bind λv15=>bif v15 then none else(some (.inl ())):amy (Unit⊕(Unit⊕(ah×Int))))) (λ(_:Unit)=>()) 0 (bW q).am ())=some (.inl ()):=by
  refine lH ?_;refine T.bg (λ_ _=>True) trivial (λj t s _ ht _=>?_) λ_ _=>rfl
  have hm:t∈(bW q).am:=anL ht;obtain⟨l,e1,e2⟩:=(pn hq hm).1;rw[e1];simp only[amD];rw[e2];exact T.some trivial
 rw[hl];have hd:decide (x.aj<(0:Int))=false/\decide (x.aj>=(8:Int))=false/\aS (0<=x.aj/\x.aj<(8:Int))=some ():=by
  simp only[amE,amP,amQ]at hk;rcases hk with h|h|h|h|h|h|h|h<;>rw[h]<;>exact⟨rfl,rfl,rfl⟩
 rw[hd.1,hd.2.1,hd.2.2];unfold Yt;simp only[amE,amP,amQ]at hk;rcases hk with h|h|h|h|h|h|h|h<;>rw[h]<;>rfl
def L27{q:DP}(hq:q.ok){x:GStep}(hk:x.aj∈([0,1,2,3,4,5,6,7]:amx Int)):Tb (bW q) x=(Yu (bW q) x).bind λr=>bif r.2 != 0 then some (⟨[],[]⟩,r.2)else(Bc r.1).bind λs=>some (s,0):=by
 unfold Tb;rw[J2 hq];have hl:(bg (λ(i7:Nat)(v8:ac)=>λ(_:Unit)=>((sL v8.aC).bind λv14=>(bg (λ(i15:Nat)(v16:amw)=>λ(_:Unit)=>((jr v8 v16).bind λv22=>bif decide (v22<(0:Int))then none else(some (.inl ())):amy (Unit⊕(Unit⊕(Unit⊕(Unit⊕(ah×Int))))))) (λ(_:Unit)=>()) 0 v14 ()).bind (Sum.elim (λ(_:Unit)=>some (.inl ())) some):amy (Unit⊕(Unit⊕(ah×Int))))) (λ(_:Unit)=>()) 0 (bW q).am ())=some (.inl ()):=by
  refine lH ?_;refine T.bg (λ_ _=>True) trivial (λj t s _ ht _=>?_) λ_ _=>rfl
  have hm:t∈(bW q).am:=anL ht;obtain⟨l,e1,e2⟩:=(pn hq hm).2;rw[e1];simp only[amD];rw[amR]at e2;refine T.dg (λ_ _=>True) trivial (λj n s _ hn _ _=>?_) λ_ _=>T.some trivial
  have e3:=e2 n hn;cases e4:jr t n with
  |none=>rw[e4]at e3;simp at e3
  |some i=>
   rw[e4]at e3;simp only[amS]at e3;exact T.bif (λc=>by simp only[amS]at c;omega) λ_=>T.some trivial
 rw[hl];have hd:decide (x.aj<(0:Int))=false/\decide (x.aj>(7:Int))=false:=by
  simp only[amE,amP,amQ]at hk;rcases hk with h|h|h|h|h|h|h|h<;>rw[h]<;>exact⟨rfl,rfl⟩
 rw[hd.1,hd.2];unfold Yu;have ef:∀o:amy (ah×Int),((o.bind λv30=>some (.inl (v30.2,v30.1.aN,v30.1.am)):amy ((Int×amx ar×amx ac)⊕(ah×Int))).bind (Sum.elim (λ((a24,a25,a26):Int×amx ar×amx ac)=>bif (a24 !=(0:Int))then(some ((ah.mk [] []),a24))else((Bc (ah.mk a25 a26)).bind λv45=>some (v45,(0:Int)))) some))=o.bind λr=>bif r.2 != 0 then some (⟨[],[]⟩,r.2)else(Bc r.1).bind λs=>some (s,0):=by
  intro o;cases o<;>rfl
 simp only[amE,amP,amQ]at hk;rcases hk with h|h|h|h|h|h|h|h<;>rw[h]<;>exact ef _
def m9{q:DP}(hq:q.ok){x:GStep}(hk:x.aj∈([0,1,2,3,4,5,6,7]:amx Int))(h:jD (bW q) x=true):AB (bW q) x:=by
 have l59:=L59 hq hk;have l27:=L27 hq hk;have hsm:=po hq;unfold jD at h;split at h
 ·rename_i k ss ts s2 k2 e1 e2;rw[e1]at l59;rw[e2]at l27;simp only[amD]at l59 l27;rw[amC,am7]at h;obtain⟨rfl,h⟩:=h;cases hz:(k != 0)with
  |true=>
   rw[hz]at l59 l27;simp only[ane]at l59 l27;have f27:∃w,Mi (bW q) x=some (w,k):=by
    unfold Mi;rw[l27];simp only[amD,hz,ane];exact⟨_,rfl⟩
   obtain⟨w,f27⟩:=f27;refine .inl ⟨k,w,by simpa using hz,?_,f27⟩;unfold D3;rw[l59];simp only[amD,hz,ane]
  |false=>
   have k0:k=0:=by simpa using hz
   subst k0;rw[hz]at h;rw[Bool.false_or]at h;simp only[aoP,ana]at l59 l27;split at h
   ·rename_i s3 e3;rw[e3]at l27;simp only[amD]at l27;rw[amC,amC,amS,amS]at h;obtain⟨hl3,hlt,h⟩:=h;split at h
    ·rename_i m e4;refine .inr ⟨_,m,_,?_,?_,NJ h⟩
     ·unfold D3;rw[l59];simp only[amD,aoP,ana];rw[T60 hsm.2.1 (by omega)];simp only[amD];refine lH (lI (by simp;omega) (by simp) ?_);have hch:aS (0<=x.aj/\x.aj<(8:Int))=some ():=by
       simp only[amE,amP,amQ]at hk;rcases hk with h|h|h|h|h|h|h|h<;>rw[h]<;>rfl
      rw[hch];unfold Xl;simp only[amD,anP];simp only[amE,amP,amQ]at hk;unfold ZX at e4;rcases hk with h|h|h|h|h|h|h|h<;>rw[h]at e4 |-
      ·have e5:mn _ _=some m:=e4
       show T ((mn _ _).bind _) _
       exact T.step (P:=λr=>r=m) ⟨m,e5,rfl⟩ λv hv=>T.some (by rw[hv];rfl)
      ·have e5:mo _ _=some m:=e4
       show T ((mo _ _).bind _) _
       exact T.step (P:=λr=>r=m) ⟨m,e5,rfl⟩ λv hv=>T.some (by rw[hv];rfl)
      ·have e5:mq _ _=some m:=e4
       show T ((mq _ _).bind _) _
       exact T.step (P:=λr=>r=m) ⟨m,e5,rfl⟩ λv hv=>T.some (by rw[hv];rfl)
      ·have e5:mr _ _=some m:=e4
       show T ((mr _ _).bind _) _
       exact T.step (P:=λr=>r=m) ⟨m,e5,rfl⟩ λv hv=>T.some (by rw[hv];rfl)
      ·cases(show none=some m from e4)
      ·have e5:some []=some m:=e4;exact⟨_,rfl,by rw[<-am5 e5];rfl⟩
      ·have e5:mu _ _=some m:=e4
       show T ((mu _ _).bind _) _
       exact T.step (P:=λr=>r=m) ⟨m,e5,rfl⟩ λv hv=>T.some (by rw[hv];rfl)
      ·have e5:mv _ _=some m:=e4
       show T ((mv _ _).bind _) _
       exact T.step (P:=λr=>r=m) ⟨m,e5,rfl⟩ λv hv=>T.some (by rw[hv];rfl)
     ·unfold Mi;rw[l27];simp only[amD,aoP,ana];refine lH (lI (by omega) (by simp) (lI (by omega) (by simp;omega) (T.some ?_)));simp[J0]
    ·simp at h
   ·simp at h
 ·simp at h
end
end Go.Ab

/- The logic of the walk. -/
import Derived.Lib.AppendZerosOnto
import Derived.Lib.SliceRun
import Derived.Test.YtlahelaeeahggaaGreatDoorA14
set_option linter.all false
open Go Go.RowKit
namespace Go.Ab
section
variable {P:Program}{ge:GE}{N b:Nat}{tm:Tm}{l:HL}{ti:Nat->amy TE}{α σ ρ τ:Type}
def m0(B:amx AV)(i:Nat)(x:AV):amx AV:=B.set i x
def iq{B:amx AV}{p:Nat}{x:AV}{i:Int}(h:i.toNat=p/\p<B.length):ey (m0 B p x) i.toNat=some x:=by
 rw[dk,h.1,m0,aoM h.2]
def fj{B:amx AV}{p:Nat}{x z:AV}{i:Nat}(h:i=p):bC ((m0 B p x).set i z) (m0 B p z):=by
 subst h;simp only[m0,aou];exact .refl _
def jS{B:amx AV}{i:Nat}{x:AV}(h:B[i]?=some x):m0 B i x=B:=by
 obtain⟨hi,rfl⟩:=an5.1 h;exact List.set_getElem_self hi
def pC(f:Nat->τ->amy Unit):Nat->amx τ->amy Unit
 |_,[]=>some ()
 |i,v::vs=>(f i v).bind λ_=>pC f (i+1) vs
def tT{f:Nat->τ->amy Unit}:{xs:amx τ}->{k:Nat}->{u:Unit}->pC f k xs=some u->(i:Nat)->(v:τ)->xs[i]?=some v->f (k+i) v=some ()
 | [],_,_,_,i,v,e=>by simp at e
 |x::xs,k,u,h,0,v,e=>by
  simp only[pC]at h;obtain⟨a,ha,_⟩:=aoK.1 h
  grind
 |x::xs,k,u,h,i+1,v,e=>by
  simp only[pC]at h;obtain⟨a,ha,h⟩:=aoK.1 h;have:=tT h i v (by simpa using e)
  rwa [show k+(i+1)=k+1+i by omega]
def Th(N:Nat)(em:Tm)(lo:HL):KC:=λe tm l=>match e with
 |.normal=>Tg N tm l em lo
 |_=>False
def bB.cp(E:tB P ti){id:Nat}{c:Code}{K:KC}{xs:amx τ}{en:τ->AV}{p:Nat}{z:τ}{X:AV}(emb:Nat->Tm)(lo1 lo2:amx AV->HL)(acq:Tm)(lA1 lA2:HL)[u1:∀i,UT (emb i) (lo1 (xs.map en))][u2:∀i,UT (emb i) (lo2 (dJ en xs p X))][uA:UT acq lA1][uB:UT acq lA2]
 {fA fB:τ->amy Unit} {u:Unit} (h:pC (λi v=>bif decide (i=p)then fB v else fA v) 0 xs=some u) (hs:jC tm l (emb 0) (lo1 (xs.map en)))
 (hx:xs.length<=4611686018427387904) {ex:τ->AV} (hex:∀v,ex v=en v)
 (ra:∀i v,xs[i]?=some v->(xs.map en)[i]?=some (en v)->i<xs.length->i+1<=4611686018427387904->fA v=some ()->SC P ge ti N c (Th N (emb (i+1)) (lo1 (xs.map en))) (emb i) (lo1 (m0 (xs.map en) i (ex v))))
 (rb:∀v,v=xs.getD p z->p<xs.length->p+1<=4611686018427387904->fB v=some ()->SC P ge ti N c (Th N (emb (p+1)) (lo2 (dJ en xs p X))) (emb p) (lo1 (m0 (xs.map en) p (ex v))))
 (rc:∀i v,xs[i]?=some v->(dJ en xs p X)[i]?=some (en v)->i<xs.length->i+1<=4611686018427387904->fA v=some ()->SC P ge ti N c (Th N (emb (i+1)) (lo2 (dJ en xs p X))) (emb i) (lo2 (m0 (dJ en xs p X) i (ex v))))
 (s1:SC P ge ti N c (pw id (λ_:Unit=>acq) (λ_=>lA1) ()) (emb (xs.map en).length) (lo1 (xs.map en)))
 (s2:SC P ge ti N c (pw id (λ_:Unit=>acq) (λ_=>lA2) ()) (emb (xs.map en).length) (lo2 (dJ en xs p X)))
 (hw:xs.getD p z=z->dJ en xs p X=xs.map en->Wk 1 N acq (aM lA1) acq (aM lA2))
 (after:K .normal acq lA2):bB P ge 1 N (.block id (.loop c)) (LC K) tm (aM l):=by
 simp only[hex]at ra rb rc;rw[amJ]at s1 s2;refine bB.wk hs.wk ?_;refine bB.block (bB.loop (λm tm hp=>∃i,i<=xs.length/\m=xs.length+1 - i/\tm=emb i/\hp=aM (if i<=p then lo1 (xs.map en)else lo2 (dJ en xs p X))) (xs.length+1) ⟨0,anp _,rfl,rfl,by simp⟩ ?_);rintro m tm hp ⟨i,hi,rfl,rfl,rfl⟩;by_cases hlt:i<xs.length
 ·have hv:xs[i]?=some xs[i]:=anG hlt;have hm:(xs.map en)[i]?=some (en xs[i]):=by rw[anK,hv];rfl
  have hf:=tT h i _ hv;rw[anE]at hf;have ef:∀{lo:HL},lo=(if i+1<=p then lo1 (xs.map en)else lo2 (dJ en xs p X))->∀{l0:HL},SC P ge ti N c (Th N (emb (i+1)) lo) (emb i) l0->∀[UT (emb (i+1)) lo],
   bB P ge 1 N c (pQ (λm tm hp=>∃i,i<=xs.length/\m=xs.length+1 - i/\tm=emb i/\hp=aM (if i<=p then lo1 (xs.map en)else lo2 (dJ en xs p X))) (xs.length+1 - i) (iC id (LC K))) (emb i) (aM l0):=by
   intro lo e l0 hsc _;refine bB.close (SC.bN E c hsc) λe tm hp⟨l,e1,q⟩=>?_
   subst e1;cases e<;>first|exact q.elim|skip
   obtain⟨tm',l',hw,hk⟩:=q;exact⟨_,_,hw.trans hk.wk,xs.length+1 - (i+1),by omega,i+1,by omega,rfl,rfl,by rw[e]⟩
  rcases Nat.lt_trichotomy i p with hip|hip|hip
  ·have:=ra i xs[i] hv hm hlt (by omega) (by simpa[Nat.ne_of_lt hip]using hf);rw[jS hm]at this;rw[amH (by omega)];exact ef (by rw[amH (by omega)]) this
  ·subst hip;have hg:xs.getD i z=xs[i]:=by rw[anM,hv];rfl
   have:=rb xs[i] hg.symm hlt (by omega) (by simpa using hf);rw[jS hm]at this;rw[amH (by omega)];exact ef (by rw[amL (by omega)]) this
  ·have hm2:(dJ en xs p X)[i]?=some (en xs[i]):=by rw[dJ,List.getElem?_set_ne (by omega)];exact hm
   have:=rc i xs[i] hv hm2 hlt (by omega) (by simpa[Nat.ne_of_gt hip]using hf);rw[jS hm2]at this;rw[amL (by omega)];exact ef (by rw[amL (by omega)]) this
 ·have hi':i=xs.length:=by omega
  subst hi';have ef:∀{lA l0:HL}[UT acq lA],Wk 1 N acq (aM lA) acq (aM lA2)->SC P ge ti N c (pw id (λ_:Unit=>acq) (λ_=>lA) ()) (emb xs.length) l0->
   bB P ge 1 N c (pQ (λm tm hp=>∃i,i<=xs.length/\m=xs.length+1 - i/\tm=emb i/\hp=aM (if i<=p then lo1 (xs.map en)else lo2 (dJ en xs p X))) (xs.length+1 - xs.length) (iC id (LC K))) (emb xs.length) (aM l0):=by
   intro lA l0 _ hw hsc;refine bB.close (SC.bN E c hsc) λe tm hp⟨l,e1,q⟩=>?_
   subst e1;cases e with
   |exit j=>
    simp only[pw]at q;split at q
    ·rename_i hj;have:=amK hj;subst this;refine⟨_,_,q.wk.trans hw,?_⟩;simp only[pQ,iC,am0];exact⟨_,rfl,after⟩
    ·exact q.elim
   |_=>exact q.elim
  by_cases hp:xs.length<=p
  ·rw[amH hp];refine ef (hw ?_ ?_) s1
   ·rw[anM,an9 hp];rfl
   ·rw[dJ];exact ao4 (by simpa using hp)
  ·rw[amL hp];exact ef (Wk.refl _ _ _ _) s2
def sM{α:Type}{n k:Nat}{x w:α}(h:((ck n k).bind λ_=>some x)=some w):w=x:=by
 obtain⟨_,_,h⟩:=aoK.1 h
 grind
def Wk.tU(sz m:Nat)(hm:Nat.ble (nx 0 l) m=true):Wk 1 N tm (aM l) tm (aM (((1,m),.br sz [])::l)):=by
 have hm:=am4 hm;intro g fr w tmps fi r v;have hn:=fR l 0 1 _ hm;have hne:=bX hn (kU fi _);have hle:=G.dA g (j:=(1,m)) 0 (r.rel.cu hne);have r1:=r.rel.ix hne sz 0;rw[bp,be hn]at r1;refine⟨g.push (1,m) 0,hle.some _,⟨r1,?_⟩,v.mono hle⟩;rw[<-be hn];exact r.cw.cE (kU fi _)
variable {S:amx Nm}{f:α->AV}
theorem tW(σ:Nm->Nm)(x:AV):(xs:amx AV)->(p:Nat)->AV.eE σ (xs.set p x)=(AV.eE σ xs).set p (x.aX σ)
 | [],_=>rfl
 |y::ys,0=>rfl
 |y::ys,p+1=>by simp only[List.set,AV.eE];rw[tW σ x ys p]
def pa[hf:Pl f](σ:Nm->Nm)(ts:amx α)(p:Nat)(x:AV):AV.eE σ (dJ f ts p x)=dJ f ts p (x.aX σ):=by
 grind [dJ,tW,AV.ji,dQ.2,List.mem_map.1,hf.out]
instance {a c:Nm}{ts:amx α}{p:Nat}{x x':AV}[hf:Pl f][h:R3 a c x x']:wg a c (dJ f ts p x) (dJ f ts p x'):=⟨by rw[pa,h.out]⟩
instance {ν:amx Nm}{ts:amx α}{p:Nat}{x x':AV}[hf:Pl f][h:Rn ν x x']:sK ν (dJ f ts p x) (dJ f ts p x'):=⟨λσ hs=>by rw[pa,h.out σ hs]⟩
instance {ν:amx Nm}{ts:amx α}{p:Nat}{x x':AV}[hf:Pl f][h:R2 ν N x x']:ul ν N (dJ f ts p x) (dJ f ts p x'):=⟨λσ hs=>by rw[pa,h.out σ hs]⟩
def pq{xs:amx τ}{en:τ->AV}{i:Nat}(h:i<xs.length):i<(xs.map en).length:=by simpa using h
def Kt{xs:amx τ}{en:τ->AV}{i p:Nat}{X:AV}(h:i<xs.length):i<(dJ en xs p X).length:=by simpa[dJ]using h
def nX{xs:amx τ}{en:τ->AV}{i:Nat}(h:i<xs.length):(i:Int)<((xs.map en).length:Int):=by simpa using h
def pD{c:amz}{β:Type}{X Y:amy β}{r:β}{Q:Prop}(h:(bif c then X else Y)=some r)(f:c=true->X=some r->Q)(g:c=false->Y=some r->Q):Q:=by cases c with|true=>exact f rfl h|false=>exact g rfl h
def uw{i k j:Int}(e:i=k)(n:decide (k=j)=true):decide (i=j)=true:=by rw[e];exact n
def gJ{i k j:Int}(e:i=k)(n:decide (k=j)=false):decide (i=j)=false:=by rw[e];exact n
def Ti{B C:amx AV}(h:B=C):bC B C:=h▸ .refl _
end
section
variable {P:Program}{ge:GE}{N b:Nat}{tm:Tm}{l:HL}{ti:Nat->amy TE}{hp:Hp}
def de.tX{g:G}{w:World}(r:de g w hp){j:Nm}{cs:amx AV}(hj:hp j=some (.cells cs)):
 ∃g',G.Le g g'/\g'.dc=g.dc/\de g' w (cE hp j (.br 0 []))/\∀off v,V g (.ptr j off) v->V g' (.aQ cs off) v:=by
 obtain⟨vals,rest,elem,hve,hb,hfz⟩:=r.eP j _ hj;have acs:cX g j (.cells cs)=some (g.cg j):=rfl;have hle:G.Le g (g.cr (g.cg j) vals):=G.gL (by rw[hfz];exact anQ);have hown':∀i p,cX (g.cr (g.cg j) vals) i p=cX g i p:=λi p=>by cases p<;>rfl
 have key:∀i p,cE hp j (.br 0 []) i=some p->(i=j/\p= .br 0 [])\/(i≠j/\hp i=some p):=by
  intro i p h;by_cases e:i=j
  ·subst e;rw[aZ]at h;simp at h;exact .inl ⟨rfl,h.symm⟩
  ·rw[aT _ _ e]at h;exact .inr ⟨e,h⟩
 refine⟨_,hle,rfl,⟨λi=>?_,r.hU,r.size,λb hb'=>?_,λi p hi=>?_,λi p d hi hd=>?_,λi k p q d hi hk hdi hdk=>?_⟩,λoff v hv=>?_⟩
 ·show g.dc i↔_
  by_cases e:i=j
  ·subst e;rw[aZ,r.dc i,hj];simp
  ·rw[aT _ _ e];exact r.dc i
 ·by_cases e:b=g.cg j
  ·subst e;exact⟨_,elem,(0,0),hb,by simp[G.cr]⟩
  ·have hb2:g.fz b≠ []:=by simpa[G.cr,e]using hb'
   obtain⟨c,e',fr,h,hp'⟩:=r.fz b hb2;exact⟨c,e',fr,h,by simpa[G.cr,e]using hp'⟩
 ·rcases key i p hi with⟨rfl,rfl⟩|⟨hn,hi⟩
  ·intro h;exact absurd rfl h
  ·refine(r.eP i p hi).kR hle (r.cM hi) rfl λb hb'=>⟨rfl,?_⟩
   have hbj:b≠g.cg j:=λe=>by
    subst e;exact hn (r.hX i j p _ _ hi hj hb' acs)
   simp[G.cr,hbj]
 ·rw[hown']at hd;rcases key i p hi with⟨rfl,rfl⟩|⟨_,hi⟩
  ·simp[cX]at hd
  ·exact r.dI i p d hi hd
 ·rw[hown']at hdi hdk;rcases key i p hi with⟨rfl,rfl⟩|⟨_,hi⟩
  ·simp[cX]at hdi
  ·rcases key k q hk with⟨rfl,rfl⟩|⟨_,hk⟩
   ·simp[cX]at hdk
   ·exact r.hX i k p q d hi hk hdi hdk
 ·simp only[V]at hv |-;exact⟨g.cg j,0,vals,by rw[hv.2,anE],VL.mono hle _ _ hve,by simp[G.cr]⟩
def ml{j:Nm}{cs:amx AV}(hj:lk l j=some (.cells cs)){g:G}{fr:Hp}{w:World}(r:eW g w (aM l) fr):
 ∃g',G.Le g g'/\eW g' w (aM (cR j (.br 0 []) l)) fr/\∀off v,V g (.ptr j off) v->V g' (.aQ cs off) v:=by
 rw[<-cz]at hj;obtain⟨g1,l1,_,r1,v1⟩:=r.rel.tX (aH hj);rw[bp,bm]at r1;exact⟨g1,l1,⟨r1,by rw[<-bm];exact r.cw.fE hj⟩,v1⟩
def Wk.fp(t:Nat){j:Nm}{off:Nat}{cs:amx AV}(h:get tm t= .ptr j off)(hj:lk l j=some (.cells cs)):Wk 1 N tm (aM l) ((t,.aQ cs off)::tm) (aM (cR j (.br 0 []) l)):=by
 intro g fr w tmps fi r v;obtain⟨g1,l1,r1,v1⟩:=ml hj r;have hv:=v.2 t;rw[h]at hv;refine⟨g1,l1.some _,r1,v.1,λi=>?_⟩
 grind [eV,V.mono,v.2]
def Qd(n c i:Nat){j:Nm}{cs csj qP:amx AV}{fn:Fn}{f:FuncId}{args:amx AV}{K:KX}(h:ey args n=some (.agg cs))(h':ey cs c=some (.fn fn [] qP))(h2:ey qP i=some (.ptr j 0))(hj:lk l j=some (.cells csj))
 (k:bL P f=true/\lK P ge b f (dN args n (.agg (dN cs c (.fn fn [] (dN qP i (.aQ csj 0)))))) (aM (cR j (.br 0 []) l)) (CH b (cR j (.br 0 []) l) λx l' ch=>K x l' ([j]++ch))):bL P f=true/\lK P ge b f args (aM l) (CH b l K):=by
 refine Ue (λg fr w vs _ r v=>?_) (eY (by rw[cz];exact hj)) k;obtain⟨g1,l1,r1,v1⟩:=ml hj r;rw[dk]at h h' h2;obtain⟨u0,hu0,hv0⟩:=VL.get args vs v n _ h;simp only[V]at hv0;obtain⟨br,e0,hv1⟩:=hv0;obtain⟨u,hu,hv⟩:=VL.get cs br.toList hv1 c _ h';simp only[V]at hv;obtain⟨a0,b0,e1,q1,q2⟩:=hv;obtain⟨u2,hu2,hv2⟩:=VL.get qP b0.toList q2 i _ h2;refine⟨g1,l1,r1,?_⟩;rw[dS];refine VL.fY (VL.mono l1 _ _ v) hu0 ?_;simp only[V];refine⟨br,e0,?_⟩;rw[dS];refine VL.fY (VL.mono l1 _ _ hv1) hu ?_;simp only[V];refine⟨a0,b0,e1,VL.mono l1 _ _ q1,?_⟩;rw[dS];exact VL.fY (VL.mono l1 _ _ q2) hu2 (v1 _ _ hv2)
def bB.frW{α σ ρ τ:Type}(E:tB P ti){id:Nat}{c:Code}{K:KC}(emb:Nat->σ->Tm)(lo:Nat->σ->HL)(acq:α->Tm)(lA:α->HL)[u:∀i s,UT (emb i s) (lo i s)][uA:∀a,UT (acq a) (lA a)]
 {f:Nat->τ->σ->amy (σ⊕(α⊕ρ))} {p:σ->α} {xs:amx τ} {s:σ} {x:α⊕ρ} (h:bg f p 0 xs s=some x) (hs:jC tm l (emb 0 s) (lo 0 s))
 {en:τ->AV} (hx:fg (emb 0 s) (lo 0 s) (xs.map en))
 (round:∀i v s y,xs[i]?=some v->i<(xs.map en).length->i+1<=4611686018427387904->f i v s=some y->SC P ge ti N c (nF id (emb (i+1)) (lo (i+1)) acq lA x y K) (emb i s) (lo i s))
 (stop:∀s,SC P ge ti N c (pw id acq lA (p s)) (emb (xs.map en).length s) (lo (xs.map en).length s))
 (after:∀v,x= .inl v->∃tm' l',Wk 1 N (acq v) (aM (lA v)) tm' (aM l')/\K .normal tm' l'):bB P ge 1 N (.block id (.loop c)) (LC K) tm (aM l):=by
 let K0:KC:=λe tm l=>match e with
  |.normal=>∃v,x= .inl v/\tm=acq v/\l=lA v
  |e=>K e tm l
 refine bB.close (bB.fr E emb lo acq lA (K:=K0) h hs hx (λi v s y a b c' d=>?_) stop (λv hv=>⟨v,hv,rfl,rfl⟩)) λe tm hp⟨l,e1,q⟩=>?_
 ·have:=round i v s y a b c' d;have e:nF id (emb (i+1)) (lo (i+1)) acq lA x y K0=nF id (emb (i+1)) (lo (i+1)) acq lA x y K:=by
   funext e tm l;cases e<;>rfl
  grind
 ·subst e1;cases e with
  |normal=>obtain⟨v,hv,rfl,rfl⟩:=q;obtain⟨tm',l',hw,hK⟩:=after v hv;exact⟨_,_,hw,_,rfl,hK⟩
  |_=>exact⟨tm,_,Wk.refl _ _ _ _,l,rfl,q⟩
def qh{α:Type}(f:α->AV){xs:amx α}{sz:Nat}(e:xs.map f=[]):iL (.tail sz 0) (.tail sz (xs.map f).length):=by rw[e];exact .refl _
def qi{α:Type}(f:α->AV){xs:amx α}{sz:Nat}{j:Nm}(e:xs.map f=[]):Sub (.sl sz (.tail j) []) (.sl sz (.tail j) (xs.map f)):=by rw[e];exact .refl _
def Ku{ag:amz}{sz:Nat}{cs:amx AV}{i k:Int}{z:AV}(e:i=k)(h:cut ag sz cs (k.toNat*sz)=some z):cut ag sz cs (i.toNat*sz)=some z:=e▸h
def C7{α β:Type}{o:amy α}{A:α->amy β}{B:amy β}{r:β}{Q:Prop}(h:o.elim B A=some r)(f:∀y,o=some y->A y=some r->Q)(g:o=none->B=some r->Q):Q:=by
 cases o with
 |none=>exact g rfl h
 |some y=>exact f y rfl h
def Qe{α:Type}(f:α->AV){L:amx (amw×α)}{s:amw}{y:α}(h:gp L s=some y):eB (L.map (mE f)) s=some (cond true (some (f y)) none):=by
 rw[SS f L s y,h];rfl
def Qf{α:Type}{f:α->AV}{L:amx (amw×α)}{s:amw}{z:AV}(h:gp L s=none):eB (L.map (mE f)) s=some (cond false (some z) none):=by
 induction L with
 |nil=>rfl
 |cons p r ih=>
  simp only[amV,mE,eB,gp]at h |-
  grind
def Fv{α:Type}{f:α->AV}{ts:amx α}{p:Nat}{x z z':AV}{i:Nat}(hz:Sub z z')(h:i=p):bC ((dJ f ts p x).set i z) (dJ f ts p z'):=by
 grind [dJ,List.set_set,bC.nu]
def Wk.Qg(sz m:Nat)(hm:Nat.ble (nx 0 l) m=true):Wk 1 N tm (aM l) tm (aM (((1,m),.tail sz 0)::l)):=by
 have hm:=am4 hm;intro g fr w tmps fi r v;have hn:=fR l 0 1 _ hm;obtain⟨g1,l1,r1,v1⟩:=r.rel.ij (sz:=sz) (xs:=[]) (v:=.slice none 0 0) (bX hn (kU fi _)) (by simp only[V];exact⟨none,0,rfl,⟨by simp,by simp⟩,by simp,λh=>absurd rfl h,by simp,rfl⟩);rw[bp,be hn]at r1;refine⟨g1,l1.some _,⟨r1,?_⟩,v.mono l1⟩;rw[<-be hn];exact r.cw.cE (kU fi _)
def de.C8{g:G}{w:World}(r:de g w hp){j:Nm}{sz n:Nat}(hj:hp j=some (.tail sz n)):de g w (cE hp j (.br sz [])):=by
 have key:∀i p,cE hp j (.br sz []) i=some p->(i=j/\p= .br sz [])\/(i≠j/\hp i=some p):=by
  intro i p h;by_cases e:i=j
  ·subst e;rw[aZ]at h;simp at h;exact .inl ⟨rfl,h.symm⟩
  ·rw[aT _ _ e]at h;exact .inr ⟨e,h⟩
 refine⟨λi=>?_,r.hU,r.size,r.fz,λi p hi=>?_,λi p d hi hd=>?_,λi k p q d hi hk hdi hdk=>?_⟩
 ·by_cases e:i=j
  ·subst e;rw[aZ,r.dc i,hj];simp
  ·rw[aT _ _ e];exact r.dc i
 ·rcases key i p hi with⟨rfl,rfl⟩|⟨_,hi⟩
  ·exact λh=>absurd rfl h
  ·exact r.eP i p hi
 ·rcases key i p hi with⟨rfl,rfl⟩|⟨_,hi⟩
  ·simp[cX]at hd
  ·exact r.dI i p d hi hd
 ·rcases key i p hi with⟨rfl,rfl⟩|⟨_,hi⟩
  ·simp[cX]at hdi
  ·rcases key k q hk with⟨rfl,rfl⟩|⟨_,hk⟩
   ·simp[cX]at hdk
   ·exact r.hX i k p q d hi hk hdi hdk
def Wk.VX(q:Nm){sz n:Nat}(hq:lk l q=some (.tail sz n)):Wk 1 N tm (aM l) tm (aM (cR q (.br sz []) l)):=by
 intro g fr w tmps fi r v;rw[<-cz]at hq;have r1:=r.rel.C8 (aH hq);rw[bp,bm]at r1;exact⟨g,G.kW.refl _ g,⟨r1,by rw[<-bm];exact r.cw.fE hq⟩,v⟩
end
section
variable {P:Program}{ge:GE}{N b:Nat}{tm:Tm}{l:HL}{ti:Nat->amy TE}{ops:Array Oper}
def pF:amx Oper->Nat->Edge->amx Oper
 | [],_,_=>[]
 |o::r,0,e=>{o with after:=o.after.push e}::r
 |o::r,n+1,e=>o::pF r n e
def iu(ops:Array Oper)(k i:Nat):Array Oper:=⟨pF ops.toList k {on:=i,ground:=.phase}⟩
def tY{e:Edge}:(l:amx Oper)->(k j:Nat)->(pF l k e)[j]?=(l[j]?).map λo=>if j=k then{o with after:=o.after.push e}else o
 | [],k,j=>by simp[pF]
 |o::r,0,0=>by simp[pF]
 |o::r,0,j+1=>by simp[pF]
 |o::r,k+1,0=>by simp[pF]
 |o::r,k+1,j+1=>by simp only[pF,aoe];rw[tY r k j];congr 1;funext o;simp
theorem pb(k i j:Nat):(iu ops k i)[j]?=(ops[j]?).map λo=>if j=k then{o with after:=o.after.push {on:=i,ground:=.phase}}else o:=by
 have:=tY (e:={on:=i,ground:=.phase}) ops.toList k j
 grind [iu]
def wx{s:Sem Value}{w w':World}{n:Next}(h:(do pure (Next.value (<-s)):Sem Next).run P w= .ok n w'):∃v,n= .value v:=by
 simp only[amM]at h;cases hs:s.run P w with
 |ok v w1=>rw[hs]at h;simp only[amN,am2,Result.ok.injEq]at h;exact⟨v,h.1.symm⟩
 |halt x w1=>rw[hs]at h;simp[Result.andThen]at h
def Qq{s:Sem Unit}{w w':World}{n:Next}(h:(do s;pure Next.skip:Sem Next).run P w= .ok n w'):n= .skip:=by
 simp only[amM]at h;cases hs:s.run P w with
 |ok v w1=>rw[hs]at h;simp only[amN,am2,Result.ok.injEq]at h;exact h.1.symm
 |halt x w1=>rw[hs]at h;simp[Result.andThen]at h
def Kv{r:Result Value}{w':World}{n:Next}(h:(r.andThen λa w'=>Result.ok (Next.value a) w')= .ok n w'):∃v,n= .value v:=by
 cases r with
 |ok v w1=>simp only[amN,Result.ok.injEq]at h;exact⟨v,h.1.symm⟩
 |halt x w1=>simp[Result.andThen]at h
def Ms(o:Oper):amz:=match o.op with
 |.load ..|.store ..|.fieldAddr ..|.indexAddr ..|.buildSlice ..=>true
 |.call c=>match c.callee with
  |.builtin .append|.builtin .len=>true
  |_=>false
 |_=>false
def Mt{o:Oper}(h:Ms o=true){ρ:Operand->Value}{w w':World}{n:Next}(hr:(execOp ρ o).run P w= .ok n w'):(∃v,n= .value v)\/n= .skip:=by
 unfold Ms at h;split at h<;>rename_i ho<;>(first|exact absurd h Bool.false_ne_true|skip)
 all_goals simp only[execOp,ho]at hr
 ·exact .inl (wx hr)
 ·exact .inr (Qq hr)
 ·exact .inl (wx hr)
 ·exact .inl (wx hr)
 ·exact .inl (wx hr)
 ·split at h<;>rename_i hc<;>(first|exact absurd h Bool.false_ne_true|skip)
  all_goals simp only[resolve,hc,amM,am2,amN,invoke,builtin]at hr
  ·exact .inl (Kv hr)
  ·exact .inl (Kv hr)
def Mu{o:Oper}(hn:Ms o=true){a:Act}{w:World}{K1 K2:Act->World->Prop}{Q:Exit->Act->World->Prop}(h1:o.wp P a w K1 Q)(h2:o.wp P a w K2 Q):o.wp P a w (λa w=>K1 a w/\K2 a w) Q:=by
 unfold Oper.wp at*;cases hr:(execOp a.eval o).run P w with
 |ok n w'=>
  rw[hr]at h1 h2;rcases Mt hn hr with⟨v,rfl⟩|rfl
  ·exact⟨h1,h2⟩
  ·exact⟨h1,h2⟩
 |halt x w'=>rw[hr]at h1;cases x<;>simp only[Oper.upon]at h1 ⊢<;>exact h1
def Db{j:Nat}(hn:∀o,ops[j]?=some o->Ms o=true){a:Act}{w:World}{K1 K2:Act->World->Prop}{Q:Exit->Act->World->Prop}(h1:wpOp P ops Q j K1 a w)(h2:wpOp P ops Q j K2 a w):wpOp P ops Q j (λa w=>K1 a w/\K2 a w) a w:=by
 unfold wpOp at*;split
 ·rename_i ho;simp only[ho]at h1 h2;exact⟨h1,h2⟩
 ·rename_i o ho;simp only[ho]at h1 h2;split
  ·rename_i hw;rw[amH hw]at h1 h2;rcases h1 with h1|h1
   ·rcases h2 with h2|h2
    ·exact .inl (Mu (hn o ho) h1 h2)
    ·exact .inr h2
   ·exact .inr h1
  ·rename_i hw;rw[amL hw]at h1 h2;exact⟨h1,h2⟩
def re(k i:Nat)(tmps:Array Value):yielded (iu ops k i) tmps=yielded ops tmps:=by
 funext j
 grind [yielded,pb,grind]
def kL{k i j:Nat}{a:Act}{w:World}{K:Act->World->Prop}{Q:Exit->Act->World->Prop}:wpOp P (iu ops k i) Q j K a w=wpOp P ops Q j K a w:=by
 unfold wpOp;rw[pb,re];cases ops[j]? with
 |none=>rfl
 |some o=>simp only[ang];by_cases e:j=k<;>simp only[e,am0,anj];rfl
def ez{k i j:Nat}{listed:Array amz}:j∈Region.ready .any (iu ops k i) listed↔j∈Region.ready .any ops listed/\(j=k->listed.getD i false=true):=by
 rw[anm,anm,pb];constructor
 ·rintro⟨h0,o,ho,acJ⟩;cases hj:ops[j]? with
  |none=>rw[hj]at ho;simp at ho
  |some o0=>
   rw[hj]at ho;simp only[ang,amT]at ho;subst ho;refine⟨⟨h0,o0,rfl,λe he hb=>acJ e ?_ hb⟩,λe=>acJ {on:=i,ground:=.phase} ?_ rfl⟩
   ·split
    ·simp[he]
    ·exact he
   ·rw[amH e];simp
 grind
def m5{k i:Nat}{Q:Exit->Act->World->Prop}:(fuel:Nat)->{listed:Array amz}->{a:Act}->{w:World}->listed.getD i false=true->wpAny P .any (iu ops k i) Q fuel listed a w->wpAny P .any ops Q fuel listed a w
 |0,listed,a,w,hi,h=>by
  refine⟨aoN.2 λj hj=>?_,h.2⟩;have:=(ez (k:=k)).2 ⟨hj,λ_=>hi⟩;rw[h.1]at this;simp at this
 |fuel+1,listed,a,w,hi,h=>by
  refine⟨λhr=>h.1 (aoN.2 λj hj=>?_),λj hj=>?_⟩
  ·have:=(ez.1 hj).1;rw[hr]at this;simp at this
  ·have:=h.2 j (ez.2 ⟨hj,λ_=>hi⟩);rw[kL]at this;refine wpOp_mono (λa w h=>m5 fuel ?_ h) this;by_cases e:j=i
   ·subst e;cases hb:(listed.setIfInBounds j true).getD j false with
    |true=>rfl
    |false=>
     have h0:=(anm.1 hj).1;have hlt:j<listed.size:=by
      apply anI;intro hn;rw[am1,Array.getElem?_eq_none (by omega)]at h0;simp at h0
     rw[(eu hlt).2 (.inl rfl)]at hb;simp at hb
   ·rw[ann false e];exact hi
def tZ{j:Nat}{listed:Array amz}(hj:j∈Region.ready .any ops listed):(listed.setIfInBounds j true).getD j false=true:=by
 have h0:=(anm.1 hj).1;have hlt:j<listed.size:=by
  grind
 exact(eu hlt).2 (.inl rfl)
def qj{k i:Nat}(hki:i≠k)(hn:∀(j:Nat)(o:Oper),ops[j]?=some o->Ms o=true){Q:Exit->Act->World->Prop}:(fuel:Nat)->{listed:Array amz}->{a:Act}->{w:World}->
 wpAny P .any (iu ops k i) Q fuel listed a w->wpAny P .any (iu ops i k) Q fuel listed a w->wpAny P .any ops Q fuel listed a w
 |0,listed,a,w,h1,h2=>by
  refine⟨aoN.2 λj hj=>?_,h1.2⟩;by_cases e:j=k
  ·have:=(ez (k:=i) (i:=k)).2 ⟨hj,λe2=>absurd (e2.symm.trans e) hki⟩;rw[h2.1]at this;simp at this
  ·have:=(ez (k:=k) (i:=i)).2 ⟨hj,λe2=>absurd e2 e⟩;rw[h1.1]at this;simp at this
 |fuel+1,listed,a,w,h1,h2=>by
  refine⟨λhr=>h1.1 (aoN.2 λj hj=>?_),λj hj=>?_⟩
  ·have:=(ez.1 hj).1;rw[hr]at this;simp at this
  ·by_cases ei:j=i
   ·have:=h1.2 j (ez.2 ⟨hj,λe2=>absurd (ei.symm.trans e2) hki⟩);rw[kL]at this;exact wpOp_mono (λa w h=>m5 fuel (by subst ei;exact tZ hj) h) this
   ·by_cases ek:j=k
    ·have:=h2.2 j (ez.2 ⟨hj,λe2=>absurd e2 ei⟩);rw[kL]at this;exact wpOp_mono (λa w h=>m5 fuel (by subst ek;exact tZ hj) h) this
    ·have k1:=h1.2 j (ez.2 ⟨hj,λe2=>absurd e2 ek⟩);have k2:=h2.2 j (ez.2 ⟨hj,λe2=>absurd e2 ei⟩);rw[kL]at k1 k2;exact wpOp_mono (λa w h=>qj hki hn fuel h.1 h.2) (Db (hn j) k1 k2)
def nC{e:Edge}:(l:amx Oper)->(k:Nat)->(pF l k e).length=l.length
 | [],_=>rfl
 |o::r,0=>rfl
 |o::r,k+1=>by simp only[pF,amA];rw[nC r k]
def qk(k i:Nat):(iu ops k i).size=ops.size:=by
 have:=nC (e:={on:=i,ground:=.phase}) ops.toList k
 grind [iu]
def Tj(i k n:Nat):Nat:=cond (Nat.beq n i) (2*k+1) (2*n)
def Fy{i k z:Nat}(hi:i<z)(hk:k<z)(n m:Nat)(hm:m<z)(h:Tj i k n<Tj i k m):n<z:=by
 grind [Tj,Nat.beq,Nat.eq_of_beq_eq_true,grind]
def rf(ops:Array Oper)(i k:Nat)(bc:amx (Nat×DK)):amz:=
 gO.acZ ops bc&&((List.range ops.size).all λi=>bc.any λp=>p.1==i)&&(bc.all λp=>decide (p.1<ops.size))&&(nP (Tj i k) ops&&decide (i<ops.size)&&decide (k<ops.size))&&
 (bc.all λp=>match p.2 with
  |.fl|.al _=>(match ops[p.1]? with
   |some o=>(match o.dst with|some t=> !(o.looksAt ops).contains t|none=>true)
   |none=>true)
  |_=>true)
def rh{i k:Nat}{bc:amx (Nat×DK)}(h:rf ops i k bc=true):eR ops bc:=by
 simp only[rf,amC,amS]at h;obtain⟨⟨⟨⟨h1,h2⟩,h3⟩,h4⟩,h5⟩:=h;have hp:∀l:amx (Nat×DK),gO.acZ ops l=true->l.Pairwise λp q=>gh ops p q=true/\jG ops p q=true:=by
  intro l
  induction l with
  |nil=>intro _;exact .nil
  |cons p l ih=>
   intro h;simp only[gO.acZ,amC,amR]at h;exact anW.2 ⟨λq hq=>h.1 q hq,ih h.2⟩
 refine⟨hp _ h1,λi hi=>?_,λp hp'=>?_,⟨_,h4.1.1,Fy h4.1.2 h4.2⟩,λp hp' hk o ho t ht=>?_⟩
 ·have:=amR.1 h2 i (an0.2 hi);rw[anx]at this;obtain⟨q,hq,e⟩:=this;simp at e;exact⟨q.2,by rw[<-e];exact hq⟩
 ·simpa using amR.1 h3 p hp'
 ·have:=amR.1 h5 p hp';rcases hk with hk|⟨j,hk⟩<;>simp only[hk,ho,ht]at this<;>simpa using this
def bB.Qr{d N id:Nat}{Q:ff}{tm:Tm}{hp:Hp}(i k:Nat)(hik:i≠k)(hn:∀(j:Nat)(o:Oper),ops[j]?=some o->Ms o=true)(o1 o2:amx (Nat×DK))(A1 A2:amx Nm)(hm:P.follows .mixedOrders=true)
 (ho1:gO (iu ops k i) o1=true) (ho2:rf (iu ops i k) i k o2=true)
 (hN1:((iu ops k i).all λo=>gz N o.dst)=true) (hN2:((iu ops i k).all λo=>gz N o.dst)=true)
 (h1:DR P ge d A1 N (iu ops k i) Q o1 [] [] tm hp) (h2:DR P ge d A2 N (iu ops i k) Q o2 [] [] tm hp):bB P ge d N (.region id ops true) Q tm hp:=by
 intro g fr w a f r k0 v dd;refine wp_region_any hm ?_;have key:∀(aev:Array Oper)(bc:amx (Nat×DK))(A:amx Nm),aev.size=ops.size->eR aev bc->((aev.all λo=>gz N o.dst)=true)->DR P ge d A N aev Q bc [] [] tm hp->
  wpAny P .any aev (pt d g fr N Q) ops.size (Array.replicate ops.size false) a {w with drawn:=w.drawn+1}:=by
  intro aev bc A hsz ho hN h;have ok:=ho;have aeU:∀k,(Array.replicate ops.size false).getD k false=false:=by
   intro k;rw[am1,aoV]
   grind
  refine DR.bN (P:=P) (ge:=ge) (d:=d) (A:=A) (N:=N) (Q:=Q) (fr:=fr) ok (λi o hi=>aoq.1 hN o (aoC hi)) ops.size (done:=[]) (rest:=bc) (g:=g) ?_ h k0 (G.kW.refl _ g) ?_
  ·refine⟨rfl,by simp[hsz],?_,λp _=>aeU p.1,λp hp=>by simp at hp,v.1,dd,λt _=>v.2 t,?_,?_,λu hu=>by simp at hu,.nil,f.aF,λp hp=>by simp at hp⟩
   ·intro k o _ hk
    grind
   ·simp only[hA,dP];exact(r.rel.drew (w.drawn+1))
   ·simp only[hA,dP];exact r.cw
  ·unfold KW;rw[List.filter_eq_self.2 (λi _=>by rw[aeU];rfl)];simp[hsz]
 exact qj hik hn ops.size (key _ o1 A1 (qk k i) (lV ho1) hN1 h1) (key _ o2 A2 (qk i k) (rh ho2) hN2 h2)
def DO.Dc(q:DO)(ops:Array Oper)(i k N:Nat):amz:=rf ops i k q.bc&&(ops.all λo=>gz N o.dst)&&q.A.all λj=>Nat.beq j.1 1&&Nat.blt j.2 q.b
def tw(P:Program)(ge:GE)(ti:Nat->amy TE)(N:Nat)(ops:Array Oper)(i k:Nat)(K:Tm->HL->Prop)(tm:Tm)(l:HL):Prop:=
 (!Nat.beq i k&&ops.all Ms)=true/\
 (∃q:DO,q.ok (iu ops k i) N=true/\Cq (iu ops k i).toList (iu ops k i).toList λgs=>SD P ge ti q.b q.A N gs (iu ops k i).toList K q.bc [] [] tm l)/\
 (∃q:DO,q.Dc (iu ops i k) i k N=true/\Cq (iu ops i k).toList (iu ops i k).toList λgs=>SD P ge ti q.b q.A N gs (iu ops i k).toList K q.bc [] [] tm l)
def DO.aF{q:DO}(h:(q.A.all λj=>Nat.beq j.1 1&&Nat.blt j.2 q.b)=true):∀j∈q.A,j.1=1/\j.2<q.b:=λj hj=>by
 have:=amR.1 h j hj;simp_all
def bB.tw(E:tB P ti){id:Nat}(i k:Nat){K:Tm->HL->Prop}(h:tw P ge ti N ops i k K tm l):bB P ge 1 N (.region id ops true) (λe tm hp=>e= .normal/\∃l,hp=aM l/\K tm l) tm (aM l):=by
 obtain⟨hc,⟨q1,hq1,s1⟩,⟨q2,hq2,s2⟩⟩:=h;simp only[amC,anT]at hc;obtain⟨gs1,s1⟩:=iF _ s1;obtain⟨gs2,s2⟩:=iF _ s2;simp only[DO.ok,DO.Dc,amC,pV]at hq1 hq2;have hik:i≠k:=λe=>by subst e;simp at hc
 refine(bB.Qr i k hik (λj o ho=>aoq.1 hc.2 o (aoC ho)) q1.bc q2.bc q1.A q2.A E.Kg hq1.1.1 hq2.1.1 hq1.1.2 hq2.1.2 (SD.bN E.tt (DO.aF hq1.2) q1.bc s1 ⟨by simp⟩ [] (by simp)) (SD.bN E.tt (DO.aF hq2.2) q2.bc s2 ⟨by simp⟩ [] (by simp))).mono ?_;rintro e tm hp ⟨rfl,l,rfl,h⟩;exact⟨rfl,l,rfl,h⟩
def nK(k:Tm->HL->Prop):KC:=λe tm l=>match e with
 |.normal=>k tm l
 |_=>False
def df.Mv(E:tB P ti){f:FuncId}{fn:Func}{x y:Code}{id:Nat}{args:amx AV}{ro rw rv:HL}{x1:AV}(i k:Nat)(hf:P.funcs[f]?=some fn)(hb:fn.body=some (.seq x (.seq y (.region id ops true))))(he:bL P f=true)(hn:Nat.ble args.length fn.ntmps=true)
 (h0:mV (ro++rw) (ro++rv)=true) [u:UT [(0,x1)] (ro++rv)]
 (h:jk ro rw λl0=>jk ro rv λl1=>nq 0 args λtm=>SC P ge ti fn.ntmps x (nK λtm l=>SC P ge ti fn.ntmps y (nK λtm l=>Ab.tw P ge ti fn.ntmps ops i k (SQ ti fn.ntmps fn.results.toList x1 l1 .normal) tm l) tm l) tm l0):df P ge f args ro rw x1 rv:=by
 refine df.Cv E hf hb he hn h0 ?_;have h:=jK _ _ (dL _ (dL _ h));refine bB.seq ((SC.bN E x h).mono ?_);rintro e tm hp ⟨l,rfl,h⟩;cases e with
 |normal=>
  refine bB.seq ((SC.bN E y h).mono ?_);rintro e tm hp ⟨l,rfl,h⟩;cases e with
  |normal=>
   refine(bB.tw E i k h).mono ?_;rintro e tm hp ⟨rfl,l,rfl,h⟩;exact⟨l,rfl,h⟩
  |_=>exact h.elim
 |_=>exact h.elim
def Zx{xs:amx AV}{z:AV}:ey (xs++[z]) ((xs.length:Int)).toNat=some z:=by rw[dk];simp
def Zy{τ:Type}{f:τ->AV}{L:amx τ}{z z':AV}{v:τ}(h:Sub z' (f v)):bC ((L.map f++[z]).set (((L.map f).length:Int)).toNat z') ((L++[v]).map f):=by
 have e:(L.map f++[z]).set (((L.map f).length:Int)).toNat z'=L.map f++[z']:=by
  simp_all
 rw[e,amY];exact bC.app (.refl _) (.cons h (.refl _))
end
end Go.Ab
namespace Go.Proofs
section
set_option maxHeartbeats 4000000
set_option maxRecDepth 100000
open Go.RowKit Go.Maps Go.Shelf
def Tryz.Bg(cj:Option Addr)(w:World):Calls Tryz.prog 300 #[.slice cj 0 0,.int .i64 0] w λe w'=>e= .returned (.slice cj 0 0)/\w'=w:=by
 go_enter Tryz.func300,Tryz.ntmps300
 go_wp2
 go_ret
 simp_all
def Tryz.Fz(cj:Option Addr)(n:Nat)(i:TypeInfo)(z:Value)(hi:Tryz.prog.info? 9=some i)(hz:i.zero=some z)(w:World)(h0:0<n)(hs:0<i.size)(hb:i.bytes=16)(hbig:n*16<=140737488355328):
 Calls Tryz.prog 300 #[.slice cj 0 0,.int .i64 n] w λe w'=>e= .returned (.slice (some ⟨w.heap.size,0,none⟩) 0 (grownCap w n 0 9))/\
  w'=w.drew.alloc (.cells (Builtin.zeroCells z.cells n++Builtin.zeroCells z.cells (grownCap w n 0 9 - n)) 9):=by
 have h1:¬((n:Int)<0):=by omega
 have h3:wrap64 ((n:Int) - 0)=(n:Int):=by unfold wrap64;omega
 have h4:(n:Int)>0:=by omega
 have hold:(Builtin.firstCells i.size 0 (.slice cj 0 0)).run Tryz.prog w.drew= .ok (#[]:Array Value) w.drew:=by
  cases cj with
  |none=>exact run_firstCells_none w.drew i.size 0 0 0
  |some a=>exact run_firstCells_some w.drew i.size 0 a 0 0 [] (by simp) (λj v hj=>by simp at hj)
 have hrz:∀ty,(Builtin.append_ #[30,3] ty #[.slice cj 0 0,.int .i64 (n:Int)]).run Tryz.prog w= .ok (.slice (some ⟨w.heap.size,0,none⟩) n (grownCap w n 0 9)) (w.drew.alloc (.cells (Builtin.zeroCells z.cells n++Builtin.zeroCells z.cells (grownCap w n 0 9 - n)) 9)):=λty=>by
  have h:=Lib.run_append_grow_zeros w 30 3 ty 9 i z .i64 .i64 Tryz.underlying30 Tryz.underlying3 hi hz cj 0 0 [] hold n h0 hs (by omega) (by omega) (by rw[hb];omega)
   (growslice_fits (by omega) (by rw[hb,Nat.zero_add];exact hbig))
  simpa using h
 have hGn:n<=grownCap w n 0 9:=grownCap_ge w _ _ _;obtain⟨G,hG⟩:∃G,G=grownCap w n 0 9:=⟨_,rfl⟩;rw[<-hG]at hrz hGn |-;have hG63:G<=9223372036854775807:=by
  grind [grownCap_le_maxLen,maxLen]
 clear hG hold
 go_enter Tryz.func300,Tryz.ntmps300
 cases cj with
 |none=>
  go_wp2_with (at_builtin;refine Lib.wpList_append_run _ rfl _ _ _ _ rfl _ _ rfl rfl _ _ (hrz _) ?_)
  all_goals(go_ret;exact⟨rfl,rfl⟩)
 |some a=>
  obtain⟨ab,ao,asp⟩:=a
  go_wp2_with (at_builtin;refine Lib.wpList_append_run _ rfl _ _ _ _ rfl _ _ rfl rfl _ _ (hrz _) ?_)
  all_goals(go_ret;exact⟨rfl,rfl⟩)
def Tryz.Bh(cj:Option Addr)(w:World):Calls Tryz.prog 113 #[.slice cj 0 0,.int .i64 0] w λe w'=>e= .returned (.slice cj 0 0)/\w'=w:=by
 go_enter Tryz.func113,Tryz.ntmps113
 go_wp2
 go_ret
 simp_all
def Tryz.FB(cj:Option Addr)(n:Nat)(i:TypeInfo)(z:Value)(hi:Tryz.prog.info? 55=some i)(hz:i.zero=some z)(w:World)(h0:0<n)(hs:0<i.size)(hb:i.bytes=224)(hbig:n*224<=140737488355328):
 Calls Tryz.prog 113 #[.slice cj 0 0,.int .i64 n] w λe w'=>e= .returned (.slice (some ⟨w.heap.size,0,none⟩) 0 (grownCap w n 0 55))/\
  w'=w.drew.alloc (.cells (Builtin.zeroCells z.cells n++Builtin.zeroCells z.cells (grownCap w n 0 55 - n)) 55):=by
 have h1:¬((n:Int)<0):=by omega
 have h3:wrap64 ((n:Int) - 0)=(n:Int):=by unfold wrap64;omega
 have h4:(n:Int)>0:=by omega
 have hold:(Builtin.firstCells i.size 0 (.slice cj 0 0)).run Tryz.prog w.drew= .ok (#[]:Array Value) w.drew:=by
  cases cj with
  |none=>exact run_firstCells_none w.drew i.size 0 0 0
  |some a=>exact run_firstCells_some w.drew i.size 0 a 0 0 [] (by simp) (λj v hj=>by simp at hj)
 have hrz:∀ty,(Builtin.append_ #[25,3] ty #[.slice cj 0 0,.int .i64 (n:Int)]).run Tryz.prog w= .ok (.slice (some ⟨w.heap.size,0,none⟩) n (grownCap w n 0 55)) (w.drew.alloc (.cells (Builtin.zeroCells z.cells n++Builtin.zeroCells z.cells (grownCap w n 0 55 - n)) 55)):=λty=>by
  have h:=Lib.run_append_grow_zeros w 25 3 ty 55 i z .i64 .i64 Tryz.underlying25 Tryz.underlying3 hi hz cj 0 0 [] hold n h0 hs (by omega) (by omega) (by rw[hb];omega)
   (growslice_fits (by omega) (by rw[hb,Nat.zero_add];exact hbig))
  simpa using h
 have hGn:n<=grownCap w n 0 55:=grownCap_ge w _ _ _;obtain⟨G,hG⟩:∃G,G=grownCap w n 0 55:=⟨_,rfl⟩;rw[<-hG]at hrz hGn |-;have hG63:G<=9223372036854775807:=by
  grind [grownCap_le_maxLen,maxLen]
 clear hG hold
 go_enter Tryz.func113,Tryz.ntmps113
 cases cj with
 |none=>
  go_wp2_with (at_builtin;refine Lib.wpList_append_run _ rfl _ _ _ _ rfl _ _ rfl rfl _ _ (hrz _) ?_)
  all_goals(go_ret;exact⟨rfl,rfl⟩)
 |some a=>
  obtain⟨ab,ao,asp⟩:=a
  go_wp2_with (at_builtin;refine Lib.wpList_append_run _ rfl _ _ _ _ rfl _ _ rfl rfl _ _ (hrz _) ?_)
  all_goals(go_ret;exact⟨rfl,rfl⟩)
end
end Go.Proofs
namespace Go.Ab
section
set_option maxHeartbeats 4000000
set_option maxRecDepth 100000
open Go Go.RowKit Go.Proofs
variable {P:Program}{ge:GE}{hp:Hp}
def de.Bi{g:G}{w:World}(r:de g w hp){j:Nm}(hj:hp j=none)(sz:Nat){cap b:Nat}{elem:TypeId}{c:Array Value}
 (hb:g.cj<=b/\b<w.heap.size) (ho:∀i o,hp i=some o->cX g i o≠some b) (hfz:g.fz b=[])
 (hw:w.heap[b]?=some (.cells c elem (0,0))) (hm:cap*sz<=c.size):
 ∃g',G.Le g g'/\de g' w (cE hp j (.tail sz 0))/\V g' (.sl sz (.tail j) []) (.slice (some ⟨b,0,none⟩) 0 cap):=by
 let t:TI:=⟨some ⟨b,0,none⟩,0,cap⟩
 have r0:=r.bF t hj;have hle1:=g.fF t (r.cu hj);have hle2:=G.dA (g.bF j t) (j:=j) b (r0.cu hj);have hle:=hle1.trans hle2;have key:∀i p,cE hp j (.tail sz 0) i=some p->(i=j/\p= .tail sz 0)\/(i≠j/\hp i=some p):=by
  intro i p h;by_cases e:i=j
  ·subst e;rw[aZ]at h;simp at h;exact .inl ⟨rfl,h.symm⟩
  ·rw[aT _ _ e]at h;exact .inr ⟨e,h⟩
 have hown':∀i p,hp i=some p->cX ((g.bF j t).push j b) i p=cX g i p:=λi p h=>by
  have hij:i≠j:=λe=>by rw[e,hj]at h;simp at h
  exact fy p hle (r.cM h) (by simp[G.push,G.bF,hij])
 have hownj:∀d,cX ((g.bF j t).push j b) j (.tail sz 0)=some d->d=b:=λd h=>by
  simp only[cX,G.push,G.bF,if_true,t]at h;split at h
  ·simp at h;exact h.symm
  ·simp at h
 refine⟨(g.bF j t).push j b,hle,⟨λi=>?_,r.hU,r.size,r.fz,?_,?_,?_⟩,?_⟩
 ·by_cases e:i=j
  ·subst e;simp[G.push,cE]
  ·simp only[G.push,G.bF,aT _ _ e,e,false_or];exact r.dc i
 ·intro i p h;rcases key i p h with⟨rfl,rfl⟩|⟨hij,h⟩
  ·refine⟨by simp[G.push,G.bF,t],by simp,λ_=>⟨b,0,by simp[G.push,G.bF,t],by simp[G.push,G.bF,hfz],c,elem,hw,by simpa[G.push,G.bF,t]using hm⟩⟩
  ·exact(r.eP i p h).kR hle (r.cM h) (by simp[G.push,G.bF,hij]) λb hb=>⟨rfl,rfl⟩
 ·intro i p d h hb';rcases key i p h with⟨rfl,rfl⟩|⟨hij,h⟩
  ·rw[hownj d hb'];exact hb
  ·rw[hown' i p h]at hb';exact r.dI i p d h hb'
 ·intro i k p q d hi hk hbi hbk;rcases key i p hi with⟨rfl,rfl⟩|⟨hij,h⟩
  ·rcases key k q hk with⟨rfl,rfl⟩|⟨hne',h'⟩
   ·rfl
   ·have e:=hownj d hbi;subst e;rw[hown' k q h']at hbk;exact absurd hbk (ho k q h')
  ·rcases key k q hk with⟨rfl,rfl⟩|⟨hne',h'⟩
   ·have e:=hownj d hbk;subst e;rw[hown' i p h]at hbi;exact absurd hbi (ho i p h)
   ·rw[hown' i p h]at hbi;rw[hown' k q h']at hbk;exact r.hX i k p q d h h' hbi hbk
 ·simp only[V];exact⟨some ⟨b,0,none⟩,cap,rfl,⟨by simp,by simp⟩,by simp,λh=>absurd rfl h,by simp,by simp[dw,G.push,G.bF,t]⟩
def Kw{f:FuncId}{e:TypeId}{sz bytes:Nat}(he:bL P f=true)(n:Nat)(hi:∃i z,P.info? e=some i/\i.zero=some z/\i.size=sz/\i.bytes=bytes/\z.cells.size=sz)(hs:0<sz)(hbig:n*bytes<=140737488355328)
 (h0:∀a w,Calls P f #[.slice a 0 0,.int .i64 0] w λe w'=>e= .returned (.slice a 0 0)/\w'=w)
 (h1:∀a i z,P.info? e=some i->i.zero=some z->∀w,0<n->0<i.size->i.bytes=bytes->n*bytes<=140737488355328->Calls P f #[.slice a 0 0,.int .i64 n] w λe1 w'=>e1= .returned (.slice (some ⟨w.heap.size,0,none⟩) 0 (grownCap w n 0 e))/\
  w'=w.drew.alloc (.cells (Builtin.zeroCells z.cells n++Builtin.zeroCells z.cells (grownCap w n 0 e - n)) e)):
 df P ge f [.sl 0 .eD [],.int .i64 n] [] [] (.sl sz (.tail (1,0)) []) ([]++[((1,0),.tail sz 0)]):=by
 refine⟨he,λg fr w vs hin r kk hv=>?_⟩;simp only[VL,V]at hv;obtain⟨_,_,e1,⟨a,cap,rfl,_,ha,_,hsp,hcap⟩,_,_,e2,rfl,e3⟩:=hv;have hc0:cap=0:=hcap;subst hc0;have K3:vs=#[.slice a 0 0,.int .i64 n]:=Array.toList_inj.1 (by rw[e1,e2,e3];rfl);subst K3;have hn1:bz (aM ([]++[])) fr (1,0)=none:=by
  have hf:fr (1,0)=none:=by
   cases hq:fr (1,0)with
   |none=>rfl
   |some o=>exact absurd (hin (1,0) (by simp[hq])) (by simp[lh])
  simp[bz,aM,hf]
 have efin:cE (bz (aM ([]++[])) fr) (1,0) (.tail sz 0)=bz (aM ([]++([]++[((1,0),.tail sz 0)]))) fr:=by
  funext j;by_cases e:j=(1,0)
  ·subst e;simp[cE,bz,aM]
  ·rw[aT _ _ e];simp[bz,aM,e]
 have hdisj:fe (aM ([]++([]++[((1,0),.tail sz 0)]))) fr:=by
  intro j;by_cases e:j=(1,0)
  ·subst e;right;cases hq:fr (1,0)with
   |none=>rfl
   |some o=>exact absurd (hin (1,0) (by simp[hq])) (by simp[lh])
  ·left;simp[aM,e]
 obtain⟨i,z,hi,hz,hsz,hby,hzs⟩:=hi;by_cases hn:n=0
 ·subst hn;refine(h0 a w).mono λe w'⟨he,hw⟩=>?_
  subst he hw;have r2:=(r.rel.bF ⟨a,0,0⟩ hn1);obtain⟨g',hle,r3,hv'⟩:=r.rel.ij (sz:=sz) (xs:=[]) (v:=.slice a 0 0) hn1 (by simp only[V];exact⟨a,0,rfl,⟨by simp,by simp⟩,by simp,λh=>absurd rfl h,hsp,rfl⟩);refine⟨_,g',_,_,rfl,hle,⟨?_,hdisj⟩,hv',rfl,rfl⟩;rw[<-efin];exact r3
 ·refine(h1 a i z hi hz w (by omega) (by omega) hby hbig).mono λe1 w'⟨he1,hw⟩=>?_
  subst he1 hw;have hlt:w.heap.size<(w.drew.alloc (.cells (Builtin.zeroCells z.cells n++Builtin.zeroCells z.cells (grownCap w n 0 e - n)) e)).heap.size:=by simp
  have hcell:(w.drew.alloc (.cells (Builtin.zeroCells z.cells n++Builtin.zeroCells z.cells (grownCap w n 0 e - n)) e)).heap[w.heap.size]?=some (.cells (Builtin.zeroCells z.cells n++Builtin.zeroCells z.cells (grownCap w n 0 e - n)) e (0,0)):=Array.getElem?_push_size;have hb:Below w.heap.size w (w.drew.alloc (.cells (Builtin.zeroCells z.cells n++Builtin.zeroCells z.cells (grownCap w n 0 e - n)) e)):=((Below.refl _ w).drew).alloc (Nat.le_refl _) _;have r1:=r.rel.grown hb;have hG:n<=grownCap w n 0 e:=grownCap_ge w _ _ _;obtain⟨g',hle,r2,hv'⟩:=r1.Bi (j:=(1,0)) hn1 sz (cap:=grownCap w n 0 e) ⟨r.rel.size,hlt⟩ (λi o hi ho=>by have:=(r.rel.dI i o _ hi ho).2;omega)
   (by apply Classical.byContradiction;intro hne;have:=r.rel.fH hne;omega) hcell
   (by simp only[Array.size_append,size_zeroCells,hzs];rw[<-Nat.add_mul];exact Nat.mul_le_mul_right _ (by omega))
  refine⟨_,g',_,_,rfl,hle,⟨?_,hdisj⟩,hv',rfl,rfl⟩;rw[<-efin];exact r2
def Dd(p:Int)(h0:0<=p)(hb:p*16<=140737488355328):df Tryz.prog ge 300 [.sl 0 .eD [],.int .i64 p] [] [] (.sl 1 (.tail (1,0)) []) ([]++[((1,0),.tail 1 0)]):=by
 obtain⟨it,k1,k2,k3,z,k4,_,k6⟩:=(dX.tt 9 _ rfl).mJ;have h:=Kw (P:=Tryz.prog) (ge:=ge) (f:=300) (e:=9) (sz:=1) (bytes:=16) (by decide+kernel) p.toNat ⟨it,z,k1,k4,k2,k3,k6⟩ (by decide) (by omega) (λa w=>Tryz.Bg a w) (λa i z hi hz w h0 hs hb hg=>Tryz.Fz a p.toNat i z hi hz w h0 hs hb hg)
 grind
def De(p:Int)(h0:0<=p)(hb:p*224<=140737488355328):df Tryz.prog ge 113 [.sl 0 .eD [],.int .i64 p] [] [] (.sl 13 (.tail (1,0)) []) ([]++[((1,0),.tail 13 0)]):=by
 obtain⟨it,k1,k2,k3,z,k4,_,k6⟩:=(dX.tt 55 _ rfl).mJ;have h:=Kw (P:=Tryz.prog) (ge:=ge) (f:=113) (e:=55) (sz:=13) (bytes:=224) (by decide+kernel) p.toNat ⟨it,z,k1,k4,k2,k3,k6⟩ (by decide) (by omega) (λa w=>Tryz.Bh a w) (λa i z hi hz w h0 hs hb hg=>Tryz.FB a p.toNat i z hi hz w h0 hs hb hg)
 grind
end
end Go.Ab

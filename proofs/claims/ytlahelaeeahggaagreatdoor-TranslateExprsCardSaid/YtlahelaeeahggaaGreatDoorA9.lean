/- The logic of the walk. -/
import Derived.Test.YtlahelaeeahggaaGreatDoorA8
set_option linter.all false
open Go Go.RowKit
namespace Go.Ab
section
variable {P:Program}{ge:GE}{F:Nm->Prop}{N b:Nat}{tm:Tm}{l:HL}{o:Oper}{ti:Nat->amy TE}
def be{j:Nm}{p:bk}(_:aM l j=none):cE (aM l) j p=aM ((j,p)::l):=by
 funext i;simp only[cE,aM]
def eY{j:Nm}{p q:bk}(h:aM l j=some q):qM b l (cR j p l) [j]:=by
 rw[qM,<-bm];refine⟨λi _ hi=>aT _ _ (by simpa using hi),λi hi=>?_,λi hi hi'=>?_⟩
 ·by_cases e:i=j
  ·subst e;simp[cE]
  ·rw[aT _ _ e];exact hi
 ·by_cases e:i=j
  ·subst e;simp[h]at hi
  ·rw[aT _ _ e]at hi';rw[hi]at hi';simp at hi'
def fU{p:bk}:qM b l (((1,nx b l),p)::l) []:=by
 have hn:=fR l b 1 _ (amW _);rw[qM,<-be hn];refine⟨λi hi _=>aT _ _ (λe=>by subst e;simp[hn]at hi),λi hi=>?_,λi hi hi'=>?_⟩
 ·by_cases e:i=(1,nx b l)
  ·subst e;simp[cE]
  ·rw[aT _ _ e];exact hi
 ·by_cases e:i=(1,nx b l)
  ·subst e;exact⟨rfl,jX l b⟩
  ·rw[aT _ _ e]at hi';rw[hi]at hi';simp at hi'
theorem qM.refl(b:Nat)(l:HL):qM b l l []:=⟨λ_ _ _=>rfl,λ_ h=>h,λj h h'=>by rw[h]at h';simp at h'⟩
def Lb(F:Nm->Prop)(b:Nat):Prop:=∀j,F j->j.1<1\/(j.1=1/\j.2<b)
def Lb.not(hF:Lb F b):¬F (1,nx b l):=λh=>by
 have:=jX l b;rcases hF _ h with h|h
 ·simp at h
 grind
def SK.bN(ht:lr P ti)(hF:Lb F b){K:KX}(h:SK P ge ti b tm l o K):ep P ge F o tm (aM l) (CH b l K):=by
 have hn:=fR l b 1 _ (amW _);unfold SK at h;cases hop:o.op<;>simp only[hop]at h<;>try (exact h.elim)
 case store t x y=>
  split at h
  ·rename_i j off hx;split at h
   ·rename_i cs hj;rw[<-cz]at hj;split at h
    ·rename_i hok;unfold Ex at hok;split at hok
     ·rename_i i hi;simp only[amC]at hok;obtain⟨h1,h⟩:=kG _ _ _ (eX _ h);have h:=eI _ h;have e:=amK hok.1;refine ep.store hop hx hj (ht t i hi).size hok.2 e.symm (by rw[e];exact h1) ?_;exact⟨_,[j],bm _ _ _,eY hj,h⟩
     ·simp at hok
    ·exact h.elim
   ·rename_i sz xs hj;rw[<-cz]at hj;split at h
    ·rename_i hok;unfold Ex at hok;split at hok
     ·rename_i i hi;simp only[amC]at hok;have e:=amK hok.1;obtain⟨k,q,z,hm,hz,hle,h⟩:=h;obtain⟨z',hz',xs',dW,h⟩:=Cp h;rw[dk]at hz;have h:=eI _ h;refine ep.B7 hop hx hm hj hz (ht t i hi).size hok.2 e.symm (by rw[e];exact am4 hle) ?_ dW ⟨_,[j],bm _ _ _,eY hj,h⟩;rcases hz' with h1|⟨h1,h2,h3⟩
      ·exact .inl h1
      ·exact .inr ⟨h1,h2,by rw[e];exact h3⟩
     ·simp at hok
    ·exact h.elim
   ·exact h.elim
  ·exact h.elim
 case alloc t=>
  split at h
  ·rename_i i hi;obtain⟨k,rfl,h⟩:=eX _ h;exact ep.alloc _ hop hn hF.not (ht t i hi).tg ⟨_,[],be hn,fU,h⟩
  ·exact h.elim
 case box t x=>
  split at h
  ·rename_i hs;obtain⟨k,rfl,h⟩:=eX _ h;exact ep.box _ hop hn hF.not hs ⟨_,[],be hn,fU,h⟩
  ·exact h.elim
 case range t x=>
  split at h
  ·rename_i key elem i hu hx;obtain⟨i2,_,hiu,hk⟩:=bU ht hu (by simp);split at h
   ·rename_i es hi;rw[<-cz]at hi;obtain⟨k,rfl,h⟩:=h;exact ep.Ca _ hop (hk.map hiu) hx hi hn hF.not ⟨_,[],be hn,fU,h⟩
   ·exact h.elim
  ·rename_i s hu hx;obtain⟨i2,_,hiu,hk⟩:=bU ht hu (by simp);obtain⟨k,rfl,h⟩:=h;exact ep.Cb _ hop (hk.string hiu) hx hn hF.not ⟨_,[],be hn,fU,h⟩
  ·exact h.elim
 case next x an=>
  split at h
  ·rename_i j hx;split at h
   ·rename_i i hj;rw[<-cz]at hj;cases an<;>simp only at h
    ·split at h
     ·rename_i hi;rw[<-cz]at hi;exact ep.ev (Ev.Az hop hx) (λa b hab hs=>⟨hab _ _ hs.1,hab _ _ hs.2⟩) ⟨hj,hi⟩ ⟨l,[],rfl,qM.refl b l,h⟩
     ·exact h.elim
   ·rename_i s pos hj;rw[<-cz]at hj;cases an<;>simp only at h
    ·by_cases hlt:pos<s.size
     ·have h:=eI _ (h.1 hlt);exact ep.Et hop hx hj hlt ⟨_,[j],bm _ _ _,eY hj,h⟩
     ·exact ep.ev (Ev.uR hop hx (by omega)) (λa b hab hs=>hab _ _ hs) hj ⟨l,[],rfl,qM.refl b l,h.2 (by omega)⟩
   ·exact h.elim
  ·exact h.elim
 case makeMap t r=>
  cases r<;>simp only at h;split at h
  ·obtain⟨k,rfl,h⟩:=h;exact ep.makeMap _ hop hn hF.not ⟨_,[],be hn,fU,h⟩
  ·exact h.elim
 case lookup t x y ok=>
  split at h
  ·rename_i key elem hu;obtain⟨i,_,hiu,hk⟩:=bU ht hu (by simp);split at h
   ·rename_i te j s hke hte hx hy;obtain⟨i2,_,ae3,hk2⟩:=bU ht hke (by simp);split at h
    ·rename_i es hj;obtain⟨c,v,h1,h2,h3⟩:=h;rw[<-cz]at hj;refine ep.ev (Ev.Es hop (hk.map hiu) (hk2.string ae3) hx hy h1 λhc=>?_) (λa b hab hs=>hab _ _ hs) hj ⟨l,[],rfl,qM.refl b l,h3⟩;rcases h2 hc with⟨ha,hz⟩|⟨ha,hz⟩
     case inr=>
      obtain⟨it,z,k1,k2,k3⟩:=(ht elem te hte).TX ha;exact⟨it,z,k1,k2,by rw[hz,k3]⟩
     obtain⟨it,z,k1,k2,k3,k4⟩:=(ht elem te hte).SJ ha;obtain⟨k5,k6⟩:=Ay k3;refine⟨it,z,k1,k2,?_⟩;rw[k5,hz]at k4;rw[k6];simpa using k4.symm
    ·exact h.elim
   ·exact h.elim
  ·exact h.elim
 case mapUpdate t x y z=>
  split at h
  ·rename_i key elem hu;obtain⟨i,_,hiu,hk⟩:=bU ht hu (by simp);split at h
   ·rename_i j s hke hx hy;obtain⟨i2,_,ae3,hk2⟩:=bU ht hke (by simp);split at h
    ·rename_i es hj;rw[<-cz]at hj;obtain⟨es',h1,h⟩:=h;have h:=eI _ h;exact ep.mapUpdate (.inl hop) (hk.map hiu) (hk2.string ae3) hx hy hj h1 ⟨_,[j],bm _ _ _,eY hj,h⟩
    ·exact h.elim
   ·exact h.elim
  ·exact h.elim
 case insert t x y z=>
  split at h
  ·rename_i key elem hu;obtain⟨i,_,hiu,hk⟩:=bU ht hu (by simp);split at h
   ·rename_i j s hke hx hy;obtain⟨i2,_,ae3,hk2⟩:=bU ht hke (by simp);split at h
    ·rename_i es hj;rw[<-cz]at hj;obtain⟨es',h1,h⟩:=h;have h:=eI _ h;exact ep.mapUpdate (.inr hop) (hk.map hiu) (hk2.string ae3) hx hy hj h1 ⟨_,[j],bm _ _ _,eY hj,h⟩
    ·exact h.elim
   ·exact h.elim
  ·exact h.elim
 case binOp op t x y t'=>
  split at h<;>try (first|exact h.elim|(rename_i he;injection he;done))
  rename_i he;simp only[Op.binOp.injEq]at he;obtain⟨rfl,rfl,rfl,rfl,rfl⟩:=he;split at h
  ·rename_i hu hx;obtain⟨i,_,hiu,hk⟩:=bU ht hu (by simp);exact ep.OB hop (hk.slice hiu) hx λc hc=>⟨_,[],rfl,(by refine⟨λ_ _ _=>rfl,λ_ h=>h,λ_ h h'=>?_⟩;rw[h]at h';simp at h'),h c hc⟩
  ·exact h.elim
 case call c=>
  obtain⟨callee,args,argTypes⟩:=c;simp only at h;split at h
  ·split at h
   ·rename_i x y t t' ha hty;have ha:args=#[x,y]:=by cases args;simp_all
    have hty:argTypes=#[t,t']:=by cases argTypes;simp_all
    subst ha hty;split at h
    ·rename_i hb;have e:=amK hb;subst e;unfold Y1 at h;split at h
     ·rename_i sz bytes hap;unfold Kd at hap;split at hap
      ·rename_i i hi;split at hap
       ·rename_i e hu;split at hap
        ·rename_i j hj;cases hc:(j.zero.length.beq j.sz&&Nat.ble 1 j.sz&&Nat.ble 1 j.bytes)with
         |false=>rw[hc]at hap;simp at hap
         |true=>
          rw[hc]at hap;simp only[ane,amT,ank]at hap;obtain⟨rfl,rfl⟩:=hap;simp only[amC]at hc;obtain⟨it,k1,k2,k3,z,k4,k5,k6⟩:=(ht e j hj).mJ;have k7:=amK hc.1.1;have k8:=am4 hc.1.2;have k9:=am4 hc.2;have T:lP P t' e j.sz j.bytes:=⟨(ht t' i hi).slice hu,⟨it,z,k1,k4,k2,k3,by rw[k6,k7]⟩,k8⟩;have big:∀n,n*j.bytes<=140737488355328->n<=4611686018427387904:=λn hn=>by
           have:=Nat.le_mul_of_pos_right n k9;omega
          split at h
          ·rename_i sz1 j' xs sz2 tok ys hx hy;split at h
           ·rename_i hbb;simp only[amC]at hbb;have e1:=amK hbb.1;have e2:=amK hbb.2;subst e1;subst e2;split at h
            ·rename_i sz3 n hl;rw[<-cz]at hl;split at h
             ·rename_i h3;have e3:=amK h3;subst e3;obtain⟨rfl,hb,h⟩:=h;have h:=eI _ h;refine ep.append hop T hx hy hl rfl hb (big _ hb) ⟨_,[j'],?_,eY hl,h⟩;rw[bm];simp
             ·exact h.elim
            ·exact h.elim
           ·exact h.elim
          ·rename_i sz1 xs sz2 tok ys hx hy;split at h
           ·rename_i hbb;simp only[amC,anv]at hbb;have e2:=amK hbb.1;subst e2;have hs:xs=[]\/sz1=j.sz:=by
             rcases hbb.2 with h|h
             ·exact .inr (amK h)
             ·exact .inl (by simpa using h)
            obtain⟨h1,⟨k,rfl,h2⟩|⟨rfl,k,rfl,h2⟩⟩:=h
            ·refine ep.uF _ hn hF.not hop T hx hs hy h1 (big _ h1) ⟨_,[],?_,fU,h2⟩;rw[be hn];simp
            ·simp only[amB,anE]at h1;refine ep.mO _ hn hF.not hop T hx hy h1 (big _ h1) ⟨_,[],?_,fU,h2⟩;rw[be hn]
           ·exact h.elim
          ·rename_i j1 sz1 ii N j2 sz2 lo m N' hx hy;split at h
           ·rename_i hbb;simp only[amC]at hbb;have e1:=amK hbb.1.1;have e2:=amK hbb.1.2;have e4:=gW.1 hbb.2;subst e1;subst e2;subst e4;split at h
            ·rename_i sz3 xs hl;rw[<-cz]at hl;split at h
             ·rename_i h3;have e3:=amK h3;subst e3;obtain⟨rfl,hN,hne,hi,xs',rfl,h⟩:=h;have h:=eI _ h;exact ep.AD hop T hx hy hl hN hne hi ⟨_,[j2],bm _ _ _,eY hl,h⟩
             ·exact h.elim
            ·exact h.elim
           ·exact h.elim
          ·rename_i j1 sz1 n sz2 tok ys hx hy;split at h
           ·rename_i hbb;simp only[amC]at hbb;have e1:=amK hbb.1;have e2:=amK hbb.2;subst e1;subst e2;split at h
            ·rename_i sz3 xs hl;rw[<-cz]at hl;split at h
             ·rename_i h3;have e3:=amK h3;subst e3;obtain⟨rfl,hne,hb,k,rfl,h⟩:=h;obtain⟨q,rfl,h⟩:=eI _ h;have hn2:aM (cR j1 (.br j.sz []) l) (1,nx b l)=none:=by
               rw[<-bm,aT _ _ (λe=>by rw[e]at hn;rw[hn]at hl;simp at hl)];exact hn
              refine ep.oH _ hn hF.not hop T hx hy hl rfl hne hb (big _ hb) ⟨_,[j1],?_,?_,h⟩
              ·rw[bm,be hn2]
              ·refine⟨λi hi hni=>?_,λi hi=>?_,λi hi hi'=>?_⟩
               ·rw[<-be hn2,aT _ _ (λe=>by subst e;simp[hn]at hi),<-bm,aT _ _ (by simpa using hni)]
               ·rw[<-be hn2];by_cases e:i=(1,nx b l)
                ·subst e;simp[cE]
                ·rw[aT _ _ e,<-bm];by_cases e':i=j1
                 ·subst e';simp[cE]
                 ·rw[aT _ _ e'];exact hi
               ·rw[<-be hn2]at hi';by_cases e:i=(1,nx b l)
                ·subst e;exact⟨rfl,jX l b⟩
                ·rw[aT _ _ e,<-bm]at hi';by_cases e':i=j1
                 ·subst e';simp[hl]at hi
                 ·rw[aT _ _ e']at hi';rw[hi]at hi';simp at hi'
             ·exact h.elim
            ·exact h.elim
           ·exact h.elim
          ·exact h.elim
        ·simp at hap
       ·simp at hap
      ·simp at hap
     ·exact h.elim
    ·exact h.elim
   ·exact h.elim
  ·split at h
   ·rename_i x t ha hty;have ha:args=#[x]:=by cases args;simp_all
    have hty:argTypes=#[t]:=by cases argTypes;simp_all
    subst ha hty;split at h
    ·rename_i i j sz lo n N hi hx;split at h
     ·rename_i e hu;split at h
      ·rename_i te hte;split at h
       ·rename_i hc;simp only[amC]at hc;have e1:=amK hc.1.1;have e2:=amK hc.1.2;subst e1;split at h
        ·rename_i sz3 xs hl;rw[<-cz]at hl;split at h
         ·rename_i h3;have e3:=amK h3;subst e3;obtain⟨hN,zx,hzx,xs',dW,h⟩:=h;have h:=eI _ h;have hs:cF P t=some (e,te.sz):=by simp[cF,(ht t i hi).slice hu,(ht e te hte).size]
          exact ep.Ce hop hs hx hl hN ⟨te.zero,(ht e te hte).tg,e2,hc.2,hzx⟩ dW ⟨_,[j],bm _ _ _,eY hl,h⟩
         ·exact h.elim
        ·exact h.elim
       ·exact h.elim
      ·exact h.elim
     ·exact h.elim
    ·exact h.elim
   ·exact h.elim
  ·split at h
   ·rename_i hx;exact ep.OH hop hx h.1 hF h.2
   ·exact h.elim
  ·exact h.elim
def OK.bN(ht:lr P ti)(hF:Lb F b){K:KX}(h:OK ge ti b tm l o K):ep P ge F o tm (aM l) (CH b l K):=by
 have hn:=fR l b 1 _ (amW _);unfold OK at h;cases hop:o.op<;>simp only[hop]at h<;>try (exact h.elim)
 case buildSlice t len acp=>
  split at h
  ·rename_i i hi;split at h
   ·rename_i e hu;split at h
    ·rename_i j hj;split at h
     ·rename_i hc;simp only[amC]at hc;obtain⟨⟨⟨⟨h1,h2⟩,h3⟩,h3'⟩,h4⟩:=hc;have hs:cF P t=some (e,j.sz):=by simp[cF,(ht t i hi).slice hu,(ht e j hj).size]
      obtain⟨hne,k,rfl,n,rfl,h⟩:=eX _ h;refine ep.B8 _ hn hF.not hop hs (ht e j hj).tg (amK h1) (amK h2) (am4 h3) (am4 h3') h4 hne ⟨_,[],be hn,fU,h⟩
     ·exact h.elim
    ·exact h.elim
   ·exact h.elim
  ·exact h.elim
def SX.bN(ht:lr P ti)(hF:Lb F b){K:KX}(h:SX P ge ti b tm l o K):ep P ge F o tm (aM l) (CH b l K):=by
 have val:(Ey ge ti tm l o λx _=>K x l [])->ep P ge F o tm (aM l) (CH b l K):=λh=>by
  obtain⟨S,x,dep,h1,h2,h3,h4,_,h5⟩:=Ey.bN ht h;exact ep.ev h1 h2 h3 ⟨l,[],rfl,qM.refl b l,h5⟩
 unfold SX at h;split at h
 ·exact h.bN ht hF
 ·split at h
  ·rcases h with h|h
   ·exact val h
   ·exact OK.bN ht hF h
  ·exact val h
def iE(tm:Tm)(d:amy Tmp)(x:AV)(K:Tm->Prop):Prop:=match d with
 |none=>K tm
 |some d=>K ((d,x)::tm)
def dB{d:amy Tmp}{x:AV}{K:Tm->Prop}(h:iE tm d x K):K (put tm d x):=by cases d<;>exact h
def oM(ops:amx Oper)(j:Nat):amy Tmp:=match ey ops j with
 |some o=>o.dst
 |none=>none
def tA(ops:Array Oper)(j:Nat):oM ops.toList j=(ops[j]?).bind (·.dst):=by
 unfold oM;rw[dk,aoF]
 grind
def Cq(all:amx Oper):amx Oper->(amx Nat->Prop)->Prop
 | [],K=>K []
 |o::r,K=>match o.guard with
  |some (j,_)=>match oM all j with
   |some t=>Cq all r λgs=>K (t::gs)
   |none=>Cq all r K
  |none=>Cq all r K
def iF{all:amx Oper}:(r:amx Oper)->{K:amx Nat->Prop}->Cq all r K->∃gs,K gs
 | [],_,h=>⟨[],h⟩
 |o::r,K,h=>by
  simp only[Cq]at h;split at h
  ·split at h
   ·obtain⟨gs,h⟩:=iF r h;exact⟨_,h⟩
   ·exact iF r h
  ·exact iF r h
def Lc:amx Nat->Nat->amz
 | [],_=>false
 |i::r,t=>cond (Nat.beq i t) true (Lc r t)
def mT(P:Program)(ge:GE)(N:Nat)(ops:Array Oper)(Q:ff)(l:amx Oper)(tm:Tm)(hp:Hp):Prop:=∀g g0 fr w a,uC 1 fr->G.kW (lh 1) g0 g->eW g w hp fr->lJ g ge->VT g N tm a.tmps->a.defers=[]->wpList P ops (pt 1 g0 fr N Q) l a w
def Ke(P:Program)(ge:GE)(ti:Nat->amy TE)(N:Nat)(gs:amx Nat)(ops:Array Oper)(Q:ff)(l:amx Oper)(tm:Tm)(hp:Hp):Prop:=have _:=gs;have _:=ti;mT P ge N ops Q l tm hp
def mT.nil{ops:Array Oper}{Q:ff}{hp:Hp}(h:Q .normal tm hp):mT P ge N ops Q [] tm hp:=λg _ _ _ _ _ l r _ v dd=>⟨g,tm,hp,l,r,v,dd,h⟩
def mT.step{ops:Array Oper}{Q:ff}{hp:Hp}{rest:amx Oper}(hd:gz N o.dst=true)
 (h:match o.guard with
  |none=>ep P ge (lh 1) o tm hp λx hp'=>mT P ge N ops Q rest (put tm o.dst x) hp'
  |some (j,acQ)=>∃t,(ops[j]?).bind (·.dst)=some t/\((∃b,get tm t= .bool b/\
   (b=acQ->ep P ge (lh 1) o tm hp λx hp'=>mT P ge N ops Q rest (put tm o.dst x) hp')/\
   (b≠acQ->mT P ge N ops Q rest (put tm o.dst (.bR [])) hp))\/(get tm t= .bR []/\mT P ge N ops Q rest (put tm o.dst (.bR [])) hp))):mT P ge N ops Q (o::rest) tm hp:=by
 intro g g0 fr w a f l r k v dd;have hd:=jF hd;have run:(ep P ge (lh 1) o tm hp λx hp'=>mT P ge N ops Q rest (put tm o.dst x) hp')->o.wp P a w (wpList P ops (pt 1 g0 fr N Q) rest) (pt 1 g0 fr N Q):=by
  intro ho;refine aop (λa' w'⟨u,g',x,hp',e,h1,h2,h3,h4⟩=>?_) (ho g fr w a _ f.aF r k (v.BS k o));subst e;refine h4 g' g0 fr w' _ f (l.trans (h1.some _)) h2 (k.mono h1) ((v.mono h1).put h3 hd) ?_;cases o.dst<;>exact dd
 simp only[wpList];cases hg:o.guard with
 |none=>
  simp only[hg]at h;have hw:Region.wanted o (yielded ops a.tmps)=true:=by simp[Region.wanted,hg]
  rw[hw,amH rfl];exact .inl (run h)
 |some jw=>
  obtain⟨j,acQ⟩:=jw;simp only[hg]at h;obtain⟨t,h1,h⟩:=h;have hv:=v.get t;rcases h with⟨b,h2,h3,h4⟩|⟨h2,h4⟩
  ·rw[h2]at hv;simp only[V]at hv;have hy:yielded ops a.tmps j=some b:=by
    unfold yielded;rw[h1];simp only[amD];rw[am1]at hv;cases ht:a.tmps[t]? with
    |none=>rw[ht]at hv;simp[undef]at hv
    |some u=>rw[ht]at hv;simp at hv;subst hv;rfl
   by_cases e:b=acQ
   ·have hw:Region.wanted o (yielded ops a.tmps)=true:=by simp[Region.wanted,hg,hy,e]
    rw[hw,amH rfl];exact .inl (run (h3 e))
   ·have hw:Region.wanted o (yielded ops a.tmps)=false:=by simp[Region.wanted,hg,hy,e]
    rw[hw,amL (by simp)];refine h4 e g g0 fr w _ f l r k (v.put (kE g) hd) ?_;cases o.dst<;>exact dd
  ·rw[h2]at hv;simp only[V]at hv;obtain⟨br,hv,_⟩:=hv;have hy:yielded ops a.tmps j=none:=by
    unfold yielded;rw[h1];simp only[amD];rw[am1]at hv;cases ht:a.tmps[t]? with
    |none=>rfl
    |some u=>rw[ht]at hv;simp at hv;subst hv;rfl
   have hw:Region.wanted o (yielded ops a.tmps)=false:=by simp[Region.wanted,hg,hy]
   rw[hw,amL (by simp)];refine h4 g g0 fr w _ f l r k (v.put (kE g) hd) ?_;cases o.dst<;>exact dd
def bB.Ez{id:Nat}{ops:Array Oper}{Q:ff}{hp:Hp}(h:mT P ge N ops Q ops.toList tm hp):bB P ge 1 N (.region id ops false) Q tm hp:=λg fr w a f r k v dd=>wp_region_list (h g g fr w a f (G.kW.refl _ g) r k v dd)
def LK(K:Tm->HL->Prop):ff:=λe tm hp=>e= .normal/\∃l,hp=aM l/\K tm l
def fk(gs:amx Nat)(dst:amy Tmp)(x:AV)(K:AV->Prop):Prop:=
 match dst with
 |some t=>match Lc gs t with
  |true=>match x with
   |.bool b=>(b=true->K (.bool true))/\(b=false->K (.bool false))
   |_=>False
  |false=>K x
 |none=>K x
def fk.spec{gs:amx Nat}{dst:amy Tmp}{x:AV}{K:AV->Prop}(h:fk gs dst x K):K x:=by
 unfold fk at h;split at h
 ·split at h
  ·split at h
   ·rename_i b;cases b with
    |true=>exact h.1 rfl
    |false=>exact h.2 rfl
   ·exact h.elim
  ·exact h
 ·exact h
def Kf(gs:amx Nat)(dst:amy Tmp)(x:AV)(S:Prop)(K:AV->Prop):Prop:=
 match dst with
 |some t=>match Lc gs t with
  |true=>match x with
   |.bool b=>((b=true->K (.bool true))/\(b=false->K (.bool false)))\/S
   |_=>False
  |false=>K x
 |none=>K x
def Kf.spec{gs:amx Nat}{dst:amy Tmp}{x:AV}{S:Prop}{K:AV->Prop}(h:Kf gs dst x S K):K x\/S:=by
 unfold Kf at h;split at h
 ·split at h
  ·split at h
   ·rename_i b;rcases h with h|h
    ·cases b with
     |true=>exact .inl (h.1 rfl)
     |false=>exact .inl (h.2 rfl)
    ·exact .inr h
   ·exact h.elim
  ·exact .inl h
 ·exact .inl h
noncomputable def pv(P:Program)(ge:GE)(ti:Nat->amy TE)(N:Nat)(gs:amx Nat)(ops:amx Oper)(K K0:Tm->HL->Prop)(r:amx Oper):Nat->Tm->HL->Prop:=
 List.rec (motive:=λ_=>Nat->Tm->HL->Prop) (λ_ tm l=>K tm l) (λo r ih n tm l=>match n with
  |0=>K tm l
  |n+1=>match gz N o.dst with
   |true=>match o.guard with
    |none=>SX P ge ti 0 tm l o λx l' _=>fc x λx=>Kf gs o.dst x (Ke P ge ti N gs (Array.mk ops) (LK K0) r (put tm o.dst x) (aM l')) λx=>iE tm o.dst x λtm=>ih n tm l'
    |some (j,acQ)=>match oM ops j with
     |some t=>match get tm t with
      |.bool b=>match b==acQ with
       |true=>SX P ge ti 0 tm l o λx l' _=>fc x λx=>Kf gs o.dst x (Ke P ge ti N gs (Array.mk ops) (LK K0) r (put tm o.dst x) (aM l')) λx=>iE tm o.dst x λtm=>ih n tm l'
       |false=>iE tm o.dst (.bR []) λtm=>ih n tm l
      |.bR []=>iE tm o.dst (.bR []) λtm=>ih n tm l
      |_=>False
     |none=>False
   |false=>False) r
def Cr{gs:amx Nat}{ops:amx Oper}{K K0:Tm->HL->Prop}{r:amx Oper}{n:Nat}:pv P ge ti N gs ops K K0 (o::r) (n+1) tm l=(match gz N o.dst with
 |true=>match o.guard with
  |none=>SX P ge ti 0 tm l o λx l' _=>fc x λx=>Kf gs o.dst x (Ke P ge ti N gs (Array.mk ops) (LK K0) r (put tm o.dst x) (aM l')) λx=>iE tm o.dst x λtm=>pv P ge ti N gs ops K K0 r n tm l'
  |some (j,acQ)=>match oM ops j with
   |some t=>match get tm t with
    |.bool b=>match b==acQ with
     |true=>SX P ge ti 0 tm l o λx l' _=>fc x λx=>Kf gs o.dst x (Ke P ge ti N gs (Array.mk ops) (LK K0) r (put tm o.dst x) (aM l')) λx=>iE tm o.dst x λtm=>pv P ge ti N gs ops K K0 r n tm l'
     |false=>iE tm o.dst (.bR []) λtm=>pv P ge ti N gs ops K K0 r n tm l
    |.bR []=>iE tm o.dst (.bR []) λtm=>pv P ge ti N gs ops K K0 r n tm l
    |_=>False
   |none=>False
 |false=>False):=rfl
def OM:Lb (lh 1) 0:=λ_ h=>.inl h
def pv.bN(ht:lr P ti){gs:amx Nat}{ops:Array Oper}{K K0:Tm->HL->Prop}:(r:amx Oper)->(n:Nat)->(∀tm l,K tm l->mT P ge N ops (LK K0) (r.drop n) tm (aM l))->{tm:Tm}->{l:HL}->pv P ge ti N gs ops.toList K K0 r n tm l->mT P ge N ops (LK K0) r tm (aM l)
 | [],n,hk,tm,l,h=>by have:=hk tm l h;simpa using this
 |o::r,0,hk,tm,l,h=>hk tm l h
 |o::r,n+1,hk,tm,l,h=>by
  have hk':∀tm l,K tm l->mT P ge N ops (LK K0) (r.drop n) tm (aM l):=λtm l h=>by simpa using hk tm l h
  rw[Cr]at h;have ef:∀{x:AV}{l':HL},(fc x λx=>Kf gs o.dst x (Ke P ge ti N gs (Array.mk ops.toList) (LK K0) r (put tm o.dst x) (aM l')) λx=>iE tm o.dst x λtm=>pv P ge ti N gs ops.toList K K0 r n tm l')->mT P ge N ops (LK K0) r (put tm o.dst x) (aM l'):=λh=>by
   rcases(fm h).spec with h|h
   ·exact pv.bN ht r n hk' (dB h)
   ·exact h
  split at h
  ·rename_i hd;refine mT.step hd ?_;split at h
   ·exact ep.mono (SX.bN ht OM h) λx hp'⟨l',_,e,_,k⟩=>by subst e;exact ef k
   ·rename_i j acQ hg;split at h
    ·rename_i t ht';rw[tA]at ht';split at h
     ·rename_i b hb;refine⟨t,ht',.inl ⟨b,hb,λe=>?_,λe=>?_⟩⟩
      ·rw[show(b==acQ)=true by simpa using e]at h;exact ep.mono (SX.bN ht OM h) λx hp'⟨l',_,e,_,k⟩=>by subst e;exact ef k
      ·rw[show(b==acQ)=false by simpa using e]at h;exact pv.bN ht r n hk' (dB h)
     ·rename_i hb;exact⟨t,ht',.inr ⟨hb,pv.bN ht r n hk' (dB h)⟩⟩
     ·exact h.elim
    ·exact h.elim
  ·exact h.elim
noncomputable def SR(P:Program)(ge:GE)(ti:Nat->amy TE)(N:Nat)(gs:amx Nat)(ops:amx Oper)(K:Tm->HL->Prop)(r:amx Oper):Tm->HL->Prop:=pv P ge ti N gs ops K K r r.length
def SR.bN(ht:lr P ti){gs:amx Nat}{ops:Array Oper}{K:Tm->HL->Prop}{r:amx Oper}(h:SR P ge ti N gs ops.toList K r tm l):mT P ge N ops (LK K) r tm (aM l):=pv.bN ht r r.length (λtm l k=>by rw[ao1];exact mT.nil ⟨rfl,l,rfl,k⟩) h
end
section
variable {P:Program}{ge:GE}{N b:Nat}{tm:Tm}{l:HL}{o:Oper}{ti:Nat->amy TE}
def wc:Un->HL
 | []=>[]
 |(_,j,cs)::r=>(j,.cells cs)::wc r
def gn(l:HL):(un:Un)->cA (aM l) un=aM (wc un++l)
 | []=>rfl
 |(i,j,cs)::r=>by simp only[cA,gn l r];rfl
def uV(j:Nm):amx Nm->amz
 | []=>false
 |i::r=>qL i j||uV j r
theorem lX{j:Nm}:{r:amx Nm}->uV j r=true↔j∈r
 | []=>by simp[uV]
 |i::r=>by
  simp only[uV,anv,gW,lX (r:=r),amE]
  grind
def wd(j:Nm):Un->amz
 | []=>true
 |u::r=> !qL u.2.1 j&&wd j r
def oN{j:Nm}:{un:Un}->wd j un=true->∀u∈un,u.2.1≠j
 | [],_,u,h=>by simp at h
 |v::r,h,u,hu=>by
  simp only[wd,amC,anT]at h;rcases amE.1 hu with rfl|hu
  ·exact fK.1 h.1
  ·exact oN h.2 u hu
abbrev Pd:=amx (Nm×Nat×Nat×AV×Nat)
def again(ti:Nat->amy TE)(l:HL)(t off:Nat)(j:Nm)(y:AV):Prop:=match lk l j with
 |some (.cells cs)=>Kc ti t cs off λz=>z=y
 |_=>False
def qN(ti:Nat->amy TE)(l:HL)(ch:amx Nm):Pd->Prop
 | []=>True
 |(j,t,off,y,_)::r=>match uV j ch with
  |true=>again ti l t off j y/\qN ti l ch r
  |false=>qN ti l ch r
def oO(o:Oper):Pd->Pd
 | []=>[]
 |q::r=>match s9 o q.2.2.2.2 with
  |true=>oO o r
  |false=>q::oO o r
def mU{o:Oper}:{pend:Pd}->∀q∈pend,s9 o q.2.2.2.2=false->q∈oO o pend
 | [],q,h,_=>by simp at h
 |p::r,q,h,e=>by
  simp only[oO];rcases amE.1 h with rfl|h
  ·rw[e];simp
  ·split
   ·exact mU q h e
   ·exact List.mem_cons_of_mem _ (mU q h e)
def Cs(i:Nat)(ge:GE)(tm:Tm)(o:Oper)(x:AV)(d:amy Nm)(pend:Pd):Pd:=match d with
 |some j=>match o.op with
  |.load t a=>match bH ge tm a with
   |.ptr _ off=>(j,t,off,x,i)::pend
   |_=>pend
  |_=>pend
 |none=>pend
def nk(l:HL)(j:Nm):amz:=match lk l j with
 |none=>true
 |some _=>false
def jk:HL->HL->(HL->Prop)->Prop
 | [],l,K=>K l
 |p::a,l,K=>jk a l λr=>K (p::r)
def dL:(a:HL)->{l:HL}->{K:HL->Prop}->jk a l K->K (a++l)
 | [],_,_,h=>h
 |_::a,_,_,h=>dL a h
def AI(P:Program)(ge:GE)(ti:Nat->amy TE)(b:Nat)(A:amx Nm)(gs:amx Nat)(k:DK)(i:Nat)(o:Oper)(pend:Pd)(un:Un)(tm:Tm)(l:HL)(K:Pd->Un->Tm->HL->Prop):Prop:=
 match k with
 |.fl=>Ey ge ti tm l o λx d=>fc x λx=>fk gs o.dst x λx=>iE tm o.dst x λtm'=>K (Cs i ge tm o x d pend) un tm' l
 |.al j=>match o.op with
  |.alloc t=>match ti t with
   |some te=>match uV j A&&wd j un&&nk l j with
    |true=>AF te.zero λcs=>iE tm o.dst (.ptr j 0) λtm=>K pend ((i,j,cs)::un) tm l
    |false=>False
   |none=>False
  |_=>False
 |.ch=>SX P ge ti b tm l o λx l' ch=>qN ti l' ch (oO o pend)/\fc x λx=>fk gs o.dst x λx=>iE tm o.dst x λtm=>K (oO o pend) un tm l'
 |.tl=>jk (wc un) l λl=>SX P ge ti b tm l o λx l' _=>fc x λx=>fk gs o.dst x λx=>iE tm o.dst x λtm=>K [] [] tm l'
 |.tp=>jk (wc un) l λl=>SX P ge ti b tm l o λx l' ch=>qN ti l' ch pend/\fc x λx=>fk gs o.dst x λx=>iE tm o.dst x λtm=>K pend [] tm l'
noncomputable def SD(P:Program)(ge:GE)(ti:Nat->amy TE)(b:Nat)(A:amx Nm)(N:Nat)(gs:amx Nat)(ops:amx Oper)(K:Tm->HL->Prop)(bc:amx (Nat×DK)):Pd->Un->Tm->HL->Prop:=
 List.rec (motive:=λ_=>Pd->Un->Tm->HL->Prop) (λ_ un tm l=>jk (wc un) l λl=>K tm l) (λp _ ih pend un tm l=>match p with
  |(i,k)=>match ey ops i with
  |some o=>match gz N o.dst with
   |true=>match o.guard with
    |none=>AI P ge ti b A gs k i o pend un tm l λpend un tm l=>ih pend un tm l
    |some (j,acQ)=>match oM ops j with
     |some t=>match get tm t with
      |.bool c=>match c==acQ with
       |true=>AI P ge ti b A gs k i o pend un tm l λpend un tm l=>ih pend un tm l
       |false=>match k with
        |.al _=>False
        |.tp=>False
        |.tl=>jk (wc un) l λl=>iE tm o.dst (.bR []) λtm=>ih [] [] tm l
        |_=>iE tm o.dst (.bR []) λtm=>ih pend un tm l
      |.bR []=>match k with
       |.al _=>False
       |.tp=>False
       |.tl=>jk (wc un) l λl=>iE tm o.dst (.bR []) λtm=>ih [] [] tm l
       |_=>iE tm o.dst (.bR []) λtm=>ih pend un tm l
      |_=>False
     |none=>False
   |false=>False
  |none=>False) bc
def EA{A:amx Nm}{gs:amx Nat}{ops:amx Oper}{K:Tm->HL->Prop}{i:Nat}{k:DK}{rest:amx (Nat×DK)}{pend:Pd}{un:Un}:SD P ge ti b A N gs ops K ((i,k)::rest) pend un tm l=(match ey ops i with
 |some o=>match gz N o.dst with
  |true=>match o.guard with
   |none=>AI P ge ti b A gs k i o pend un tm l λpend un tm l=>SD P ge ti b A N gs ops K rest pend un tm l
   |some (j,acQ)=>match oM ops j with
    |some t=>match get tm t with
     |.bool c=>match c==acQ with
      |true=>AI P ge ti b A gs k i o pend un tm l λpend un tm l=>SD P ge ti b A N gs ops K rest pend un tm l
      |false=>match k with
       |.al _=>False
       |.tp=>False
       |.tl=>jk (wc un) l λl=>iE tm o.dst (.bR []) λtm=>SD P ge ti b A N gs ops K rest [] [] tm l
       |_=>iE tm o.dst (.bR []) λtm=>SD P ge ti b A N gs ops K rest pend un tm l
     |.bR []=>match k with
      |.al _=>False
      |.tp=>False
      |.tl=>jk (wc un) l λl=>iE tm o.dst (.bR []) λtm=>SD P ge ti b A N gs ops K rest [] [] tm l
      |_=>iE tm o.dst (.bR []) λtm=>SD P ge ti b A N gs ops K rest pend un tm l
     |_=>False
    |none=>False
  |false=>False
 |none=>False):=rfl
structure Ua(A:List Nm)(l:HL)(un:Un):Prop where
 un:∀u∈un,u.2.1∈A/\aM l u.2.1=none
def uW(ht:lr P ti){t off:Nat}{j:Nm}{y:AV}(h:again ti l t off j y):eQ P (aM l) t (.ptr j off)=some y:=by
 unfold again at h;split at h
 ·rename_i cs hj
  grind [cz,jj,eQ]
 ·exact h.elim
def Good(ti:Nat->amy TE)(p:Hp->Prop)(q:Nm×Nat×Nat×AV×Nat)(l:HL):Prop:=(aM l q.1).isSome=true/\∀l':HL,(aM l' q.1=aM l q.1\/again ti l' q.2.1 q.2.2.1 q.1 q.2.2.2.1)->p (aM l')
def qN.spec{ch:amx Nm}:{pend:Pd}->qN ti l ch pend->∀q∈pend,q.1∈ch->again ti l q.2.1 q.2.2.1 q.1 q.2.2.2.1
 | [],_,q,h,_=>by simp at h
 |(j,t,off,y,_)::r,k,q,h,hc=>by
  simp only[qN]at k;rcases amE.1 h with rfl|h
  ·rw[lX.2 hc]at k;exact k.1
  ·split at k
   ·exact qN.spec k.2 q h hc
   ·exact qN.spec k q h hc
def Good.step{p:Hp->Prop}{q:Nm×Nat×Nat×AV×Nat}{l':HL}{ch:amx Nm}(h:Good ti p q l)(hc:qM b l l' ch)(ha:q.1∈ch->again ti l' q.2.1 q.2.2.1 q.1 q.2.2.2.1):Good ti p q l':=by
 refine⟨hc.2.1 _ h.1,λl'' hl=>?_⟩;by_cases hm:q.1∈ch
 ·refine h.2 l'' (.inr ?_)
  grind [again,cz]
 ·refine h.2 l'' ?_;rcases hl with hl|hl
  ·exact .inl (by rw[hl,hc.1 _ h.1 hm])
  ·exact .inr hl
def p5{j:Nm}:{un:Un}->(∀u∈un,u.2.1≠j)->aM (wc un++l) j=aM l j
 | [],_=>rfl
 |(i,k,cs)::un,h=>by
  simp only[wc,anO,aM];rw[amL (λe=>h (i,k,cs) (by simp) e.symm)];exact p5 (λu hu=>h u (by simp[hu]))
def Good.app{p:Hp->Prop}{q:Nm×Nat×Nat×AV×Nat}{un:Un}(h:Good ti p q l)(hn:∀u∈un,aM l u.2.1=none):Good ti p q (wc un++l):=by
 have e:aM (wc un++l) q.1=aM l q.1:=p5 λu hu e=>by
  grind [h.1]
 exact⟨by rw[e];exact h.1,λl' hl=>h.2 l' (by rw[e]at hl;exact hl)⟩
def we{o:Oper}{pd:amx (Nat×(Hp->Prop))}{p:Nat×(Hp->Prop)}(hp:p∈pd):p∈pd.filter (λp=> !s9 o p.1)\/s9 o p.1=true:=by
 grind
def SD.bN(ht:lr P ti){gs:amx Nat}{A:amx Nm}{ops:Array Oper}{K:Tm->HL->Prop}(hA:∀j∈A,j.1=1/\j.2<b):(rest:amx (Nat×DK))->{pend:Pd}->{un:Un}->{tm:Tm}->{l:HL}->
 SD P ge ti b A N gs ops.toList K rest pend un tm l->Ua A l un->∀pd:amx (Nat×(Hp->Prop)),(∀p∈pd,(∀h,p.2 h)\/∃q∈pend,q.2.2.2.2=p.1/\Good ti p.2 q l)->DR P ge 1 A N ops (LK K) rest pd un tm (aM l)
 | [],pend,un,tm,l,h,_,pd,_=>⟨rfl,_,gn l un,dL _ h⟩
 |(i,k)::rest,pend,un,tm,l,h,inv,pd,hpd=>by
  have hF:Lb (FA 1 A) b:=λj h=>by
   rcases h with h|h
   ·exact .inl h
   ·exact .inr (hA j h)
  have ae4:∀p∈(i,λ_:Hp=>True)::pd,(∀h,p.2 h)\/∃q∈pend,q.2.2.2.2=p.1/\Good ti p.2 q l:=by
   intro p hp;rcases amE.1 hp with rfl|hp
   ·exact .inl λ_=>trivial
   ·exact hpd p hp
  rw[EA]at h;split at h
  ·rename_i o ho;rw[dk,aoF]at ho;split at h
   ·rename_i hd;simp only[DR];have SJ:AI P ge ti b A gs k i o pend un tm l (λpend un tm l=>SD P ge ti b A N gs ops.toList K rest pend un tm l)->
     match k with
     |.fl=>∃x S,Ev P ge o tm S x/\Up S/\S (aM l)/\DR P ge 1 A N ops (LK K) rest ((i,S)::pd) un (put tm o.dst x) (aM l)
     |.al j=>j.1=1/\j∈A/\(∀u∈un,u.2.1≠j)/\∃cs t,o.op= .alloc t/\ia P t=some cs/\aM l j=none/\DR P ge 1 A N ops (LK K) rest ((i,λ_=>True)::pd) ((i,j,cs)::un) (put tm o.dst (.ptr j 0)) (aM l)
     |.ch=>ep P ge (FA 1 A) o tm (aM l) λx hp'=>(∀p∈pd.filter (λp=> !s9 o p.1),p.2 hp')/\(∀u∈un,hp' u.2.1=none)/\DR P ge 1 A N ops (LK K) rest (pd.filter (λp=> !s9 o p.1)) un (put tm o.dst x) hp'
     |.tl=>ep P ge (FA 1 A) o tm (cA (aM l) un) λx hp'=>DR P ge 1 A N ops (LK K) rest [] [] (put tm o.dst x) hp'
     |.tp=>(∀p∈pd,p.2 (cA (aM l) un))/\ep P ge (FA 1 A) o tm (cA (aM l) un) λx hp'=>(∀p∈pd,p.2 hp')/\DR P ge 1 A N ops (LK K) rest pd [] (put tm o.dst x) hp':=by
     intro h;unfold AI at h;cases k with
     |fl=>
      simp only at h |-;obtain⟨S,x,dep,h1,h2,h3,h4,hs,h5⟩:=Ey.bN ht h;refine⟨x,S,h1,h2,h3,?_⟩;have h5:=dB (fm h5).spec;refine SD.bN ht hA rest h5 inv _ λp hp=>?_
      cases dep with
      |none=>
       rcases amE.1 hp with rfl|hp
       ·exact .inl λhq=>h4 hq (λj hj=>by simp at hj)
       ·exact hpd p hp
      |some j=>
       obtain⟨agW,t,a,off,hop,ha,hS⟩:=hs j rfl;have agX:Cs i ge tm o x (some j) pend=(j,t,off,x,i)::pend:=by simp[Cs,hop,ha]
       rw[agX];rcases amE.1 hp with rfl|hp
       ·refine .inr ⟨(j,t,off,x,i),by simp,rfl,agW,λl' hl=>?_⟩;rcases hl with hl|hl
        ·exact h4 _ (λj' hj'=>by simp at hj';subst hj';exact hl)
        ·exact hS _ (uW ht hl)
       ·rcases hpd p hp with h|⟨q,hq,hi,h⟩
        ·exact .inl h
        ·exact .inr ⟨q,by simp[hq],hi,h⟩
     |al j=>
      simp only at h |-;split at h
      ·rename_i t hop;split at h
       ·rename_i te hte;split at h
        ·rename_i hc;simp only[amC]at hc;have hjA:=lX.1 hc.1.1;have adD:=oN hc.1.2;have acU:aM l j=none:=by
          have:=hc.2;rw[cz];unfold nk at this;split at this
          ·assumption
          ·simp at this
         refine⟨(hA j hjA).1,hjA,adD,te.zero,t,hop,(ht t te hte).tg,acU,SD.bN ht hA rest (dB (eX _ h)) ⟨λu hu=>?_⟩ _ ae4⟩;rcases amE.1 hu with rfl|hu
         ·exact⟨hjA,acU⟩
         ·exact inv.un u hu
        ·exact h.elim
       ·exact h.elim
      ·exact h.elim
     |ch=>
      simp only at h |-;refine ep.mono (SX.bN ht hF h) λx hp'⟨l',ch,e,hc,k⟩=>?_
      subst e;obtain⟨kp,k⟩:=k;have kp:=kp.spec;have hun:∀u∈un,aM l' u.2.1=none:=λu hu=>by
       obtain⟨h1,h2⟩:=inv.un u hu;cases hh:aM l' u.2.1 with
       |none=>rfl
       |some q=>
        have:=hc.2.2 u.2.1 (by simp[h2]) (by simp[hh]);have h3:=hA _ h1;omega
      have ad4:∀p∈pd.filter (λp=> !s9 o p.1),(∀h,p.2 h)\/∃q∈oO o pend,q.2.2.2.2=p.1/\Good ti p.2 q l':=λp hp=>by
       obtain⟨hp,hk⟩:=aot.1 hp;rcases hpd p hp with h|⟨q,hq,hi,h⟩
       ·exact .inl h
       ·have hq:=mU (o:=o) q hq (by rw[hi];simpa using hk);exact .inr ⟨q,hq,hi,h.step hc (kp q hq)⟩
      refine⟨λp hp=>?_,hun,SD.bN ht hA rest (dB (fm k).spec) ⟨λu hu=>⟨(inv.un u hu).1,hun u hu⟩⟩ _ ad4⟩;rcases ad4 p hp with h|⟨q,_,_,h⟩
      ·exact h _
      ·exact h.2 l' (.inl rfl)
     |tl=>
      simp only at h |-;rw[gn];refine ep.mono (SX.bN ht hF (dL _ h)) λx hp'⟨l',ch,e,hc,k⟩=>?_
      subst e;exact SD.bN ht hA rest (dB (fm k).spec) ⟨by simp⟩ _ (by simp)
     |tp=>
      simp only at h |-;rw[gn];have agY:∀p∈pd,(∀h,p.2 h)\/∃q∈pend,q.2.2.2.2=p.1/\Good ti p.2 q (wc un++l):=λp hp=>by
       rcases hpd p hp with h|⟨q,hq,hi,h⟩
       ·exact .inl h
       ·exact .inr ⟨q,hq,hi,h.app λu hu=>(inv.un u hu).2⟩
      refine⟨λp hp=>?_,ep.mono (SX.bN ht hF (dL _ h)) λx hp'⟨l',ch,e,hc,k⟩=>?_⟩
      ·rcases agY p hp with h|⟨q,_,_,h⟩
       ·exact h _
       ·exact h.2 _ (.inl rfl)
      subst e;obtain⟨kp,k⟩:=k;have kp:=kp.spec;have ad4:∀p∈pd,(∀h,p.2 h)\/∃q∈pend,q.2.2.2.2=p.1/\Good ti p.2 q l':=λp hp=>by
       rcases agY p hp with h|⟨q,hq,hi,h⟩
       ·exact .inl h
       ·exact .inr ⟨q,hq,hi,h.step hc (kp q hq)⟩
      refine⟨λp hp=>?_,SD.bN ht hA rest (dB (fm k).spec) ⟨by simp⟩ _ ad4⟩;rcases ad4 p hp with h|⟨q,_,_,h⟩
      ·exact h _
      ·exact h.2 l' (.inl rfl)
    split at h
    ·rename_i hg;refine⟨o,ho,hd,true,by simp[fX,hg],?_⟩;have h':=SJ h;cases k with
     |fl=>exact⟨by simp,λ_=>h'⟩
     |al j=>exact⟨rfl,h'⟩
     |ch=>exact⟨_,λp hp=>(aot.1 hp).1,λp hp=>we hp,by simp,λ_=>h'⟩
     |tl=>exact⟨by simp,λ_=>h'⟩
     |tp=>exact⟨h'.1,by simp,λ_=>h'.2⟩
    ·rename_i j acQ hg;split at h
     ·rename_i t ht';rw[tA]at ht';split at h
      ·rename_i c hb;refine⟨o,ho,hd,(c==acQ),by simp[fX,hg,ht',hb],?_⟩;cases hbw:(c==acQ)with
       |true=>
        rw[hbw]at h;have h':=SJ h;cases k with
        |fl=>exact⟨by simp,λ_=>h'⟩
        |al j=>exact⟨rfl,h'⟩
        |ch=>exact⟨_,λp hp=>(aot.1 hp).1,λp hp=>we hp,by simp,λ_=>h'⟩
        |tl=>exact⟨by simp,λ_=>h'⟩
        |tp=>exact⟨h'.1,by simp,λ_=>h'.2⟩
       |false=>
        rw[hbw]at h;cases k with
        |fl=>exact⟨λ_=>SD.bN ht hA rest (dB h) inv _ ae4,by simp⟩
        |al j=>exact h.elim
        |tp=>exact h.elim
        |ch=>exact⟨pd,λ_ hp=>hp,λ_ hp=>.inl hp,λ_=>SD.bN ht hA rest (dB h) inv _ hpd,by simp⟩
        |tl=>exact⟨λ_=>by rw[gn];exact SD.bN ht hA rest (dB (dL _ h)) ⟨by simp⟩ _ (by simp),by simp⟩
      ·rename_i hb;refine⟨o,ho,hd,false,by simp[fX,hg,ht',hb],?_⟩;cases k with
       |fl=>exact⟨λ_=>SD.bN ht hA rest (dB h) inv _ ae4,by simp⟩
       |al j=>exact h.elim
       |tp=>exact h.elim
       |ch=>exact⟨pd,λ_ hp=>hp,λ_ hp=>.inl hp,λ_=>SD.bN ht hA rest (dB h) inv _ hpd,by simp⟩
       |tl=>exact⟨λ_=>by rw[gn];exact SD.bN ht hA rest (dB (dL _ h)) ⟨by simp⟩ _ (by simp),by simp⟩
      ·exact h.elim
     ·exact h.elim
   ·exact h.elim
  ·exact h.elim
end
section
variable {P:Program}{ge:GE}{d N:Nat}{tm:Tm}{l:HL}{ti:Nat->amy TE}{Q:ff}
abbrev KC:=Exit->Tm->HL->Prop
def LC(K:KC):ff:=λe tm hp=>∃l,hp=aM l/\K e tm l
structure DO where
 bc:List (Nat×DK)
 A:List Nm
 b:Nat
def DO.ok(q:DO)(ops:Array Oper)(N:Nat):amz:=uL ops q.bc&&(ops.all λo=>gz N o.dst)&&q.A.all λj=>Nat.beq j.1 1&&Nat.blt j.2 q.b
noncomputable def SC(P:Program)(ge:GE)(ti:Nat->amy TE)(N:Nat)(c:Code):KC->Tm->HL->Prop:=
 Code.rec (motive:=λ_=>KC->Tm->HL->Prop)
  (λK tm l=>K .normal tm l)
  (λ_ ops uM K tm l=>match uM with
   |false=>Cq ops.toList ops.toList λgs=>SR P ge ti N gs ops.toList (λtm l=>K .normal tm l) ops.toList tm l
   |true=>∃q:DO,q.ok ops N=true/\Cq ops.toList ops.toList λgs=>SD P ge ti q.b q.A N gs ops.toList (λtm l=>K .normal tm l) q.bc [] [] tm l)
  (λ_ _ ihx ihy K tm l=>ihx (λe tm l=>match e with
   |.normal=>ihy K tm l
   |e=>K e tm l) tm l)
  (λc x y ihx ihy K tm l=>(match bH ge tm c with
   |.bool b=>(b=true->ihx K tm l)/\(b=false->ihy K tm l)
   |_=>False)\/bB P ge 1 N (.cond c x y) (LC K) tm (aM l))
  (λi c ih K tm l=>ih (λe tm l=>match e with
   |.exit j=>cond (Nat.beq j i) (K .normal tm l) (K (.exit j) tm l)
   |e=>K e tm l) tm l\/bB P ge 1 N (.block i c) (LC K) tm (aM l))
  (λc _ K tm l=>bB P ge 1 N (.loop c) (LC K) tm (aM l))
  (λ_ _ _ _ _ _ _ _ _=>False)
  (λi K tm l=>K (.exit i) tm l)
  (λ_ _ _ _ _=>False)
  (λ_ K tm l=>K .normal tm l)
  (λ_ _ _ _=>False)
  (λK tm l=>K .ret tm l)
  (λ_ _ _ _=>False) c
section
variable {K:KC}
def AJ{id:Nat}{ops:Array Oper}{uM:amz}:SC P ge ti N (.region id ops uM) K tm l=(match uM with
 |false=>Cq ops.toList ops.toList λgs=>SR P ge ti N gs ops.toList (K .normal) ops.toList tm l
 |true=>∃q:DO,q.ok ops N=true/\Cq ops.toList ops.toList λgs=>SD P ge ti q.b q.A N gs ops.toList (K .normal) q.bc [] [] tm l):=rfl
def Ld{x y:Code}:SC P ge ti N (.seq x y) K tm l=SC P ge ti N x (λe tm l=>match e with
 |.normal=>SC P ge ti N y K tm l
 |e=>K e tm l) tm l:=rfl
def EB{c:Operand}{x y:Code}:SC P ge ti N (.cond c x y) K tm l=((match bH ge tm c with
 |.bool b=>(b=true->SC P ge ti N x K tm l)/\(b=false->SC P ge ti N y K tm l)
 |_=>False)\/bB P ge 1 N (.cond c x y) (LC K) tm (aM l)):=rfl
def Ct{i:Nat}{c:Code}:SC P ge ti N (.block i c) K tm l=(SC P ge ti N c (λe tm l=>match e with
 |.exit j=>cond (Nat.beq j i) (K .normal tm l) (K (.exit j) tm l)
 |e=>K e tm l) tm l\/bB P ge 1 N (.block i c) (LC K) tm (aM l)):=rfl
end
structure tB(P:Program)(ti:Nat->Option TE):Prop where
 tt:lr P ti
 Kg:P.follows .mixedOrders=true
def SC.bN(E:tB P ti):(c:Code)->{K:KC}->{tm:Tm}->{l:HL}->SC P ge ti N c K tm l->bB P ge 1 N c (LC K) tm (aM l)
 |.skip,K,tm,l,h=>bB.skip ⟨l,rfl,h⟩
 |.label _,K,tm,l,h=>bB.label ⟨l,rfl,h⟩
 |.exit i,K,tm,l,h=>bB.exit ⟨l,rfl,h⟩
 |.ret,K,tm,l,h=>bB.ret ⟨l,rfl,h⟩
 |.region id ops uM,K,tm,l,h=>by
  rw[AJ]at h;split at h
  ·obtain⟨gs,h⟩:=iF _ h;refine(bB.Ez (SR.bN E.tt h)).mono ?_;rintro e tm hp ⟨rfl,l,rfl,h⟩;exact⟨l,rfl,h⟩
  ·obtain⟨q,hq,h⟩:=h;obtain⟨gs,h⟩:=iF _ h;simp only[DO.ok,amC,pV]at hq;have hA:∀j∈q.A,j.1=1/\j.2<q.b:=λj hj=>by
    have:=amR.1 hq.2 j hj;simp only[amC]at this;exact⟨amK this.1,am4 this.2⟩
   refine(bB.uM q.bc q.A E.Kg hq.1.1 hq.1.2 (SD.bN E.tt hA q.bc h ⟨by simp⟩ [] (by simp))).mono ?_;rintro e tm hp ⟨rfl,l,rfl,h⟩;exact⟨l,rfl,h⟩
 |.seq x y,K,tm,l,h=>by
  rw[Ld]at h;refine bB.seq ((SC.bN E x h).mono ?_);rintro e tm hp ⟨l,rfl,h⟩;cases e with
  |normal=>exact SC.bN E y h
  |_=>exact⟨l,rfl,h⟩
 |.cond c x y,K,tm,l,h=>by
  rw[EB]at h;rcases h with h|h
  ·split at h
   ·rename_i b hb;exact bB.cond hb (λe=>SC.bN E x (h.1 e)) (λe=>SC.bN E y (h.2 e))
   ·exact h.elim
  ·exact h
 |.block i c,K,tm,l,h=>by
  rw[Ct]at h;rcases h with h|h
  ·refine bB.block ((SC.bN E c h).mono ?_);rintro e tm hp ⟨l,rfl,h⟩;cases e with
   |exit j=>
    simp only[iC];cases hb:Nat.beq j i with
    |true=>rw[amH (amK hb)];dsimp only at h;rw[hb]at h;exact⟨l,rfl,h⟩
    |false=>rw[amL (λe=>by subst e;simp at hb)];dsimp only at h;rw[hb]at h;exact⟨l,rfl,h⟩
   |_=>exact⟨l,rfl,h⟩
  ·exact h
 |.loop c,K,tm,l,h=>h
 |.rangeFunc ..,K,tm,l,h=>h.elim
 |.scope ..,K,tm,l,h=>h.elim
 |.goto ..,K,tm,l,h=>h.elim
 |.refuse ..,K,tm,l,h=>h.elim
def Wk(d N:Nat)(tm:Tm)(hp:Hp)(tm':Tm)(hp':Hp):Prop:=∀g fr w tmps,uC d fr->eW g w hp fr->VT g N tm tmps->∃g',G.kW (lh d) g g'/\eW g' w hp' fr/\VT g' N tm' tmps
def bB.close{c:Code}{Q':ff}{hp:Hp}(h:bB P ge d N c Q' tm hp)(hq:∀e tm hp,Q' e tm hp->∃tm' hp',Wk d N tm hp tm' hp'/\Q e tm' hp'):bB P ge d N c Q tm hp:=
 λg fr w a f r k v dd=>anS (h g fr w a f r k v dd) λe a' w'⟨g',tm,hp,h1,h2,h3,h4,h5⟩=>by
  obtain⟨tm',hp',hw,hQ⟩:=hq e tm hp h5;obtain⟨g2,k1,k2,k3⟩:=hw g' fr w' a'.tmps f h2 h3;exact⟨g2,tm',hp',h1.trans k1,k2,k3,h4,hQ⟩
mutual
theorem AV.iy {S T:Nm->Prop}:(x:AV)->x.under S->x.under T->x.under (λj=>S j/\T j)
 |.bool _,_,_=>trivial
 |.int _ _,_,_=>trivial
 |.an _,_,_=>trivial
 |.dY,_,_=>trivial
 |.ptr j off,e,f=>by simp only[AV.under]at e f |-;exact⟨e,f⟩
 |.aQ cs off,e,f=>by simp only[AV.under]at e f |-;exact AV.eS cs e f
 |.sl sz tok xs,e,f=>by
  simp only[AV.under]at e f |-;refine⟨?_,AV.eS xs e.2 f.2⟩;cases tok<;>simp only[iA.under]at e f |-
  grind
 |.ms j _ _,e,f=>by simp only[AV.under]at e f |-;exact⟨e,f⟩
 |.sub j _ _ _ _,e,f=>by simp only[AV.under]at e f |-;exact⟨e,f⟩
 |.dq,_,_=>trivial
 |.map j,e,f=>by simp only[AV.under]at e f |-;exact⟨e,f⟩
 |.fn _ a b,e,f=>by simp only[AV.under]at e f |-;exact⟨AV.eS a e.1 f.1,AV.eS b e.2 f.2⟩
 |.cy,_,_=>trivial
 |.iface t v,e,f=>by simp only[AV.under]at e f |-;exact AV.iy v e f
 |.nilIface,_,_=>trivial
 |.agg cs,e,f=>by simp only[AV.under]at e f |-;exact AV.eS cs e f
 |.bR cs,e,f=>by simp only[AV.under]at e f |-;exact AV.eS cs e f
 |.any,_,_=>trivial
theorem AV.eS {S T:Nm->Prop}:(xs:amx AV)->AV.bP S xs->AV.bP T xs->AV.bP (λj=>S j/\T j) xs
 | [],_,_=>trivial
 |x::xs,e,f=>by simp only[AV.bP]at e f |-;exact⟨AV.iy x e.1 f.1,AV.eS xs e.2 f.2⟩
end
def bk.iy{S T:Nm->Prop}{o:bk}(e:o.under S)(f:o.under T):o.under (λj=>S j/\T j):=by
 cases o with
 |cells cs=>exact AV.eS cs e f
 |map es=>exact λx hx=>⟨AV.iy _ (e x hx).1 (f x hx).1,AV.iy _ (e x hx).2 (f x hx).2⟩
 |tail=>trivial
 |ot=>trivial
 |sJ i=>exact⟨e,f⟩
 |br sz xs=>exact AV.eS xs e f
def p6{S:Nm->Prop}:{acE:Tm}->(∀p∈acE,p.2.under S)->∀t,(get acE t).under S
 | [],_,t=>trivial
 |(i,x)::acE,h,t=>by
  rw[eV];split
  ·exact h (i,x) (by simp)
  ·exact p6 (λp hp=>h p (by simp[hp])) t
theorem Wk.refl(d N:Nat)(tm:Tm)(hp:Hp):Wk d N tm hp tm hp:=λg _ _ _ _ r v=>⟨g,G.kW.refl _ g,r,v⟩
def bB.wk{c:Code}{hp hp':Hp}{tm':Tm}(k:Wk d N tm hp tm' hp')(h:bB P ge d N c Q tm' hp'):bB P ge d N c Q tm hp:=bB.uD h k
class lY(j:Nm)(S:List Nm):Prop where
 out:j∈S
instance (j:Nm)(S:amx Nm):lY j (j::S):=⟨by simp⟩
instance (i j:Nm)(S:amx Nm)[h:lY j S]:lY j (i::S):=⟨by simp[h.out]⟩
instance (j:Nm)(S T:amx Nm)[h:lY j S]:lY j (S++T):=⟨by simp[h.out]⟩
instance (j:Nm)(S T:amx Nm)[h:lY j T]:lY j (S++T):=⟨by simp[h.out]⟩
class UN(S:List Nm)(x:AV):Prop where
 out:x.under (λj=>j∈S)
class dM(S:List Nm)(xs:List AV):Prop where
 out:AV.bP (λj=>j∈S) xs
class UO(S:List Nm)(o:bk):Prop where
 out:o.under (λj=>j∈S)
class Pl{α:Type}(f:α->AV):Prop where
 out:∀x,(f x).under mN
variable {S:amx Nm}
instance (b:amz):UN S (.bool b):=⟨trivial⟩
instance (k:IntKind)(n:Int):UN S (.int k n):=⟨trivial⟩
instance (s:amw):UN S (.an s):=⟨trivial⟩
instance:UN S .dY:=⟨trivial⟩
instance:UN S .cy:=⟨trivial⟩
instance:UN S .any:=⟨trivial⟩
instance (j:Nm)(n:Nat)[h:lY j S]:UN S (.ptr j n):=⟨by simp only[AV.under];exact h.out⟩
instance (j:Nm)(a n:Nat)[h:lY j S]:UN S (.ms j a n):=⟨by simp only[AV.under];exact h.out⟩
instance (j:Nm)(a b n m:Nat)[h:lY j S]:UN S (.sub j a b n m):=⟨by simp only[AV.under];exact h.out⟩
instance (j:Nm)[h:lY j S]:UN S (.map j):=⟨by simp only[AV.under];exact h.out⟩
instance (a:Nat)(xs:amx AV)[h:dM S xs]:UN S (.sl a .no xs):=⟨by simp only[AV.under];exact⟨trivial,h.out⟩⟩
instance (a:Nat)(xs:amx AV)[h:dM S xs]:UN S (.sl a .eD xs):=⟨by simp only[AV.under];exact⟨trivial,h.out⟩⟩
instance (a:Nat)(j:Nm)(xs:amx AV)[m:lY j S][h:dM S xs]:UN S (.sl a (.tail j) xs):=⟨by simp only[AV.under];exact⟨m.out,h.out⟩⟩
instance (xs:amx AV)(n:Nat)[h:dM S xs]:UN S (.aQ xs n):=⟨by simp only[AV.under];exact h.out⟩
instance (xs:amx AV)[h:dM S xs]:UN S (.agg xs):=⟨by simp only[AV.under];exact h.out⟩
instance (xs:amx AV)[h:dM S xs]:UN S (.bR xs):=⟨by simp only[AV.under];exact h.out⟩
instance (f:Fn)(xs ys:amx AV)[h:dM S xs][k:dM S ys]:UN S (.fn f xs ys):=⟨by simp only[AV.under];exact⟨h.out,k.out⟩⟩
instance:dM S []:=⟨trivial⟩
instance (x:AV)(xs:amx AV)[h:UN S x][k:dM S xs]:dM S (x::xs):=⟨by simp only[AV.bP];exact⟨h.out,k.out⟩⟩
theorem dQ{S:Nm->Prop}:{xs:amx AV}->AV.bP S xs↔∀x∈xs,x.under S
 | []=>by simp[AV.bP]
 |x::xs=>by simp[AV.bP,dQ (xs:=xs)]
instance {α:Type}(f:α->AV)(xs:amx α)[h:Pl f]:dM S (xs.map f):=⟨by
 rw[dQ];intro x hx;obtain⟨y,_,rfl⟩:=am3.1 hx;exact AV.cq (λ_ h=>h.elim) _ (h.out y)⟩
instance (xs ys:amx AV)[h:dM S xs][k:dM S ys]:dM S (xs++ys):=⟨by
 rw[dQ];intro x hx;rcases amZ.1 hx with hx|hx
 ·exact dQ.1 h.out x hx
 ·exact dQ.1 k.out x hx⟩
instance:Pl AV.an:=⟨λ_=>trivial⟩
instance (k:IntKind):Pl (AV.int k):=⟨λ_=>trivial⟩
instance (cs:amx AV)[h:dM S cs]:UO S (.cells cs):=⟨h.out⟩
instance (a n:Nat):UO S (.tail a n):=⟨trivial⟩
instance (s:amw)(n:Nat):UO S (.ot s n):=⟨trivial⟩
instance (j:Nm)[h:lY j S]:UO S (.sJ j):=⟨h.out⟩
instance (m:Nat)(cs:amx AV)[h:dM S cs]:UO S (.br m cs):=⟨h.out⟩
class SM(S:List Nm)(tm:Tm):Prop where
 out:∀p∈tm,p.2.under (λj=>j∈S)
instance:SM S []:=⟨by simp⟩
instance (i:Nat)(x:AV)(tm:Tm)[h:UN S x][k:SM S tm]:SM S ((i,x)::tm):=⟨by
 intro p hp;rcases amE.1 hp with rfl|hp
 ·exact h.out
 ·exact k.out p hp⟩
class UH(S:List Nm)(l:HL):Prop where
 out:∀p∈l,p.2.under (λj=>j∈S)
instance:UH S []:=⟨by simp⟩
instance (j:Nm)(o:bk)(l:HL)[h:UO S o][k:UH S l]:UH S ((j,o)::l):=⟨by
 intro p hp;rcases amE.1 hp with rfl|hp
 ·exact h.out
 ·exact k.out p hp⟩
instance (a b:HL)[h:UH S a][k:UH S b]:UH S (a++b):=⟨by
 intro p hp;rcases amZ.1 hp with hp|hp
 ·exact h.out p hp
 ·exact k.out p hp⟩
class Ns(l:HL)(S:outParam (List Nm)):Prop where
 out:S=l.map (·.1)
instance:Ns [] []:=⟨rfl⟩
instance (j:Nm)(o:bk)(l:HL)(S:amx Nm)[h:Ns l S]:Ns ((j,o)::l) (j::S):=⟨by simp[h.out]⟩
instance (a b:HL)(S T:amx Nm)[h:Ns a S][k:Ns b T]:Ns (a++b) (S++T):=⟨by simp[h.out,k.out]⟩
class UT(tm:Tm)(l:HL):Prop where
 iP:∀p∈tm,p.2.under (λj=>(aM l j).isSome=true)
 AK:∀p∈l,p.2.under (λj=>(aM l j).isSome=true)
def cB:{l:HL}->{j:Nm}->(aM l j).isSome=true↔j∈l.map (·.1)
 | [],j=>by simp[aM]
 |(i,o)::l,j=>by
  simp only[aM,amV,amE];split
  ·rename_i e;simp[e]
  ·rename_i e;rw[cB];simp[e]
def lZ:{l:HL}->{j:Nm}->{o:bk}->aM l j=some o->(j,o)∈l
 | [],j,o,h=>by simp[aM]at h
 |(i,p)::l,j,o,h=>by
  simp only[aM]at h;split at h
  ·rename_i e;subst e;simp at h;subst h;simp
  ·exact List.mem_cons_of_mem _ (lZ h)
instance (tm:Tm)(l:HL)(S:amx Nm)[n:Ns l S][h:SM S tm][k:UH S l]:UT tm l where
 iP p hp:=AV.cq (λj hj=>cB.2 (by rw[<-n.out];exact hj)) _ (h.out p hp)
 AK p hp:=bk.cq (λj hj=>cB.2 (by rw[<-n.out];exact hj)) (k.out p hp)
def fS(l:HL):HL->Prop
 | []=>True
 |(j,o)::r=>(match lk l j with
  |some p=>iL p o
  |none=>False)/\fS l r
def fS.spec:{r:HL}->fS l r->∀j o,aM r j=some o->∃p,aM l j=some p/\iL p o
 | [],_,j,o,h=>by simp[aM]at h
 |(i,q)::r,k,j,o,h=>by
  simp only[fS]at k;simp only[aM]at h;split at h
  ·rename_i e;subst e;simp at h;subst h;have:=k.1;split at this
   ·rename_i p hp;exact⟨p,by rw[cz];exact hp,this⟩
   ·exact this.elim
  ·exact fS.spec k.2 j o h
def iG(lo:HL):HL->amz
 | []=>true
 |(j,_)::r=>(Nat.ble 1 j.1|| !nk lo j)&&iG lo r
def oP{lo:HL}:{r:HL}->iG lo r=true->∀j,(aM r j).isSome=true->j.1<1->(aM lo j).isSome=true
 | [],_,j,h,_=>by simp[aM]at h
 |(i,q)::r,k,j,h,hj=>by
  simp only[iG,amC,anv]at k;simp only[aM]at h;split at h
  ·rename_i e;subst e;rcases k.1 with h1|h1
   ·have:=am4 h1;omega
   ·rw[cz];unfold nk at h1;split at h1
    ·simp at h1
    ·rename_i hp;simp[hp]
  ·exact oP k.2 j h hj
def jC(tm:Tm)(l:HL)(acE:Tm)(lo:HL):Prop:=iG lo l=true/\fS l lo/\nj tm acE
def jC.wk{acE:Tm}{lo:HL}[u:UT acE lo](h:jC tm l acE lo):Wk 1 N tm (aM l) acE (aM lo):=by
 intro g fr w tmps fi r v;obtain⟨h0,h1,h2⟩:=h
 let hq:Hp:=λj=>match aM lo j with
  |some o=>some o
  |none=>aM l j
 have hs:HSub (aM l) hq:=λj=>by
  simp only[hq];cases e:aM lo j with
  |none=>cases aM l j<;>simp[iL.refl]
  |some o=>
   obtain⟨p,hp,hso⟩:=h1.spec j o e;simp only[hp];exact hso
 have r1:de g w (bz hq fr):=r.rel.dW hs.bz;have hle:At (aM lo) hq:=λj o e=>by simp only[hq,e]
 have hdq:fe hq fr:=λj=>by
  rcases r.cw j with e|e
  ·left;have:=hs.isSome j;cases e2:hq j with
   |none=>rfl
   |some o=>rw[e,e2]at this;simp at this
  ·exact .inr e
 have hdl:fe (aM lo) fr:=λj=>by
  cases e:aM lo j with
  |none=>exact .inl rfl
  |some o=>exact .inr (hdq.none (hle j o e))
 let T:Nm->Prop:=λj=>(bz (aM lo) fr j).isSome=true
 have dW:∀j,(aM lo j).isSome=true->T j:=λj hj=>by
  cases e:aM lo j with
  |none=>simp[e]at hj
  |some o=>simp[T,bz,e]
 have acN:∀j,j.1<1->g.dc j->T j:=λj hj hg=>by
  have:=(r.rel.dc j).1 hg;cases e:aM l j with
  |some o=>
   exact dW j (oP h0 j (by simp[e]) hj)
  |none=>
   rw[bD e]at this;cases e2:aM lo j with
   |some o=>exact dW j (by simp[e2])
   |none=>simp only[T];rw[bD e2];exact this
 have hfr:∀j,(fr j).isSome=true->T j:=λj hj=>by
  cases e2:aM lo j with
  |some o=>exact dW j (by simp[e2])
  |none=>simp only[T];rw[bD e2];exact hj
 have aef:∀j o,bz (aM lo) fr j=some o->o.under T:=by
  intro j o hj;cases e:aM lo j with
  |some p=>
   rw[aH e]at hj;simp at hj;subst hj;exact bk.cq dW (u.AK _ (lZ e))
  |none=>
   rw[bD e]at hj;have hj2:bz (aM l) fr j=some o:=by
    rcases r.cw j with e2|e2
    ·rw[bD e2];exact hj
    ·rw[e2]at hj;simp at hj
   exact bk.cq (λi hi=>acN i hi.2 hi.1) (bk.iy (r.rel.eP j o hj2).under (fi.gT j o hj))
 exact⟨g.cut T,⟨rfl,rfl,λ_=>anf,acN,λ_ _ _=>rfl,λ_ _ _=>.inl rfl⟩,⟨r1.cut (At.bz fr hle hdq) aef,hdl⟩,v.1,λt=>by
  have:=V.sub (h2.sY t) _ (v.2 t);refine V.cut _ _ this ?_;exact AV.cq dW _ (p6 u.iP t)⟩
end
end Go.Ab

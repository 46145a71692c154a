/- The logic of the walk. -/
import Derived.Test.YtoknehglgeiopaaGreatDoorA3
set_option linter.all false
open Go Go.RowKit
namespace Go.Ab
section
variable {P:Program}{ge:GE}{F:Nm->Prop}{tm:Tm}{l:HL}{o:Oper}{ti:Nat->T TE}
def Ni(P:Program)(ge:GE)(tm:Tm)(l:HL)(o:Oper)(K:G->T Nm->Prop):Prop:=∃S x y,Ev P ge o tm S x/\Up S/\S (aN l)/\(∀hq:Hp,(∀j,y=some j->hq j=aN l j)->S hq)/\(∀j,y=some j->(aN l j).isSome=true/\∃t a off,o.op= .load t a/\bP ge tm a= .eU j off/\∀hq,fY P hq t (.eU j off)=some x->S hq)/\K x y
def Ni.of{K x}(e:Ev P ge o tm T1 x)(k:K x none):Ni P ge tm l o K:=⟨T1,x,none,e,aam,trivial,λ_ _=>trivial,λ_ h=>by simp at h,k⟩
theorem lC(a:ow P ti){t cs off K}(h:Qx ti t cs off K):∃x n y,gV P t=some x/\du P t=some n/\cut x n cs off=some y/\K y:=by
 unfold Qx at h;split at h
 .rename_i i b;have z:=a t i b
  grind [avk,z.Vy,z.size]
 .exact h.elim
def gH(x:ow P ti){t sz}(h:qJ ti t=some sz):∃e,cX P t=some (e,sz):=by
 unfold qJ at h;split at h
 .rename_i i y;split at h
  .rename_i e z;split at h
   .rename_i j a;simp at h;subst h;exact⟨e,by simp[cX,(x t i y).slice z,(x e j a).size]⟩
   .simp at h
  .simp at h
 .simp at h
def zk{x}(h:AQ ge tm x=some none):x=none:=by
 cases x with
 |none=>rfl
 |some y=>simp only[AQ]at h;split at h<;>simp at h
def ci(y:ow P ti){t u}(h:hZ ti t=u)(hu:u≠ .HB):∃i,ti t=some i/\i.jt=u/\mI P t i:=by
 unfold hZ at h;split at h
 .rename_i i x;exact⟨i,x,h,y t i x⟩
 grind
def zl(d:ow P ti):∀fl{x},wc x fl=true->∀{y},x.mapM (λf=>(P.info? f.type).map λi=>(f.offset,i.size))=some y->
 ∀n r,RG ti fl n=some r->y[n]?=some r
 | [],x,h,y,hp,n,r,e=>by simp[RG]at e
 |(o,t)::fl,[],h,y,hp,n,r,e=>by simp[wc]at h
 |(o,t)::fl,f::x,h,y,hp,n,r,e=>by
  simp only[wc,BR,HV]at h;rw[List.mapM_cons]at hp;cases z:P.info? f.type with
  |none=>simp[z]at hp
  |some g=>
   cases a:x.mapM (λf=>(P.info? f.type).map λi=>(f.offset,i.size))with
   |none=>simp[z,a]at hp
   |some rest=>
    simp[z,a]at hp;subst hp;cases n with
    |zero=>
     simp only[RG]at e;split at e
     .rename_i i b;have c:=(d t i b).size;simp only[Hs]at e;subst e;rw[<-h.1.2]at c;simp[du,z]at c;simp[h.1.1,c]
     .simp at e
    |succ n=>simpa using zl d fl h.2 a n r (by simpa[RG]using e)
def adk{S x y ts k e a c}(z:o.op= .call {callee:=.builtin .min,args:=#[x,y],argTypes:=ts})(hx:bP ge tm x= .int k a)(f:bP ge tm y= .int e c):Ev P ge o tm S (.int k (if c<a then c else a)):=by
 refine .df (λg w i _ _ r j v=>?_);have b:=v x Dn;have d:=v y Dn;rw[hx]at b;rw[f]at d;simp only[ac]at b d |-;exact⟨_,by simp[execOp,z,resolve,invoke,builtin,Builtin.min_,Builtin.min2,b,d],rfl⟩
def adt{S x y ts k e a c}(z:o.op= .call {callee:=.builtin .max,args:=#[x,y],argTypes:=ts})(hx:bP ge tm x= .int k a)(f:bP ge tm y= .int e c):Ev P ge o tm S (.int k (if a<c then c else a)):=by
 refine .df (λg w i _ _ r j v=>?_);have b:=v x Dn;have d:=v y Dn;rw[hx]at b;rw[f]at d;simp only[ac]at b d |-;exact⟨_,by simp[execOp,z,resolve,invoke,builtin,Builtin.max_,Builtin.max2,b,d],rfl⟩
def Kc.cb(C:ow P ti){K}(h:Kc ge ti tm l o K):Ni P ge tm l o K:=by
 unfold Kc at h;cases r:o.op<;>simp only[r]at h<;>try (exact h.elim)
 case move x=>exact .of (Ev.move r) (gz h)
 case assign x=>exact .of (Ev.assign r) (gz h)
 case pick c x y=>
  split at h
  .rename_i t hc;have h:=gz h;rw[avJ]at h;exact .of (Ev.pick r hc) h
  .exact h.elim
 case load t x=>
  split at h
  .rename_i j off hx;split at h
   .rename_i cs hj;obtain⟨ag,n,y,D,Q,h3,h4⟩:=lC C h;rw[<-cQ]at hj;refine⟨_,y,some j,hx▸Ev.load r,Up.load,?_,λhq hh=>?_,λj' e=>by simp at e;subst e;exact⟨by simp[hj],t,x,off,r,hx,λhq h=>h⟩,h4⟩
    .simp[fY,hj,D,Q,h3]
    .simp[fY,hh j rfl,hj,D,Q,h3]
   .rename_i sz xs hj;obtain⟨i,q,z,hm,hz,h⟩:=h;split at h
    .rename_i hsc;obtain⟨ag,n,y,D,Q,h3,h4⟩:=lC C h;rw[<-cQ]at hj;rw[dJ]at hz;refine⟨λhq=>hq j=some (.bD sz xs)\/fY P hq t (bP ge tm x)=some y,y,some j,λg w a hq hs=>?_,λa b hab hs=>?_,.inl hj,λhq hh=>.inl ((hh j rfl).trans hj),λj' e=>?_,h4⟩
     .rcases hs with hs|hs
      .exact afG r hx hm D Q hz hsc h3 g w a hq hs
      .exact Ev.load r g w a hq hs
     .rcases hs with hs|hs
      .exact .inl (hab _ _ hs)
      .exact .inr (mS hab hs)
     .simp at e;subst e;exact⟨by simp[hj],t,x,off,r,hx,λhq h=>.inr (by rw[hx];exact h)⟩
    .exact h.elim
   .exact h.elim
  .rename_i c cs off hx;obtain⟨ag,n,y,D,Q,h3,h4⟩:=lC C h;refine⟨_,y,none,hx▸Ev.load r,Up.load,?_,λhq hh=>?_,λ_ h=>by simp at h,h4⟩
   .simp[fY,D,Q,h3]
   .simp[fY,D,Q,h3]
  .exact h.elim
 case fieldAddr s x f=>
  split at h
  .rename_i i hi;split at h
   .rename_i hu;split at h
    .rename_i off t hf;split at h
     .rename_i i2 hi2;split at h
      .rename_i hb;have hs:=(C t i2 hi2).size;obtain⟨n,hn⟩:∃n,i2.sz=n+1:=⟨i2.sz-1,by have:=J1 hb;omega⟩;rw[hn]at hs;have hfo:=(C s i hi).field hu hf;split at h
       .rename_i j m hx;exact .of (Ev.fieldAddr r hfo hs (by rw[hx];rfl)) h
       .rename_i j m hx;exact .of (Ev.fieldAddr r hfo hs (by rw[hx];rfl)) h
       .exact h.elim
      .exact h.elim
     .exact h.elim
    .exact h.elim
   .exact h.elim
  .exact h.elim
 case field s x f=>
  split at h
  .rename_i i hi;split at h
   .rename_i hu;split at h
    .rename_i off t hf;split at h
     .rename_i cs hx;obtain⟨ag,n,y,D,Q,h3,h4⟩:=lC C h;exact .of (Ev.field r ((C s i hi).field hu hf) Q D hx h3) h4
     .exact h.elim
    .exact h.elim
   .exact h.elim
  .exact h.elim
 case extract x i=>
  split at h
  .rename_i cs hx;obtain⟨y,D,Q⟩:=qb _ _ h;exact .of (Ev.extract r hx D) Q
  .exact h.elim
 case makeFunc fn first aiQ=>exact .of (Ev.makeFunc r) h
 case build t aiO=>
  split at h
  .rename_i i hi;split at h
   .rename_i hu;obtain⟨cs,D,Q⟩:=qd _ _ (gi _ h);refine .of (Ev.build r ?_) Q;obtain⟨it,k1,k2,k3,z,k4,k5,k6⟩:=(C t i hi).p5;obtain⟨d,k7,k8,k9,k10⟩:=(C t i hi).jt;rw[hu]at k9;obtain⟨fs,rfl⟩:∃fs,d= .struct fs:=by cases d<;>simp[ou]at k9;exact⟨_,rfl⟩
    have hfl:=(k10 fs rfl).1;obtain⟨ps,hps⟩:=NX.1 (k10 fs rfl).2;simp only[sL,k1,k7,k4,hps];have key:∀(q:U (Nat×G))(c cs:U G),jR (RG ti i.za) c q=some cs->jR (ps.toArray[·]?) c q=some cs:=by
     intro q
     induction q with
     |nil=>intro c cs h;exact h
     |cons p q ih=>
      intro c cs h;obtain⟨n,v⟩:=p;simp only[jR]at h |-;split at h
      .simp at h
      .rename_i off size hp;have:=zl C i.za hfl hps n _ hp;have e2:ps.toArray[n]?=some (off,size):=by simpa using this
       simp only[e2];split at h
       .rename_i hc;rw[BX hc];exact ih _ _ h
       .simp at h
    rw[k5,key _ _ _ D];rfl
   .rename_i n e hu;split at h
    .rename_i j hj;obtain⟨cs,D,Q⟩:=qd _ _ (gi _ h);refine .of (Ev.build r ?_) Q;obtain⟨it,k1,k2,k3,z,k4,k5,k6⟩:=(C t i hi).p5;have k7:=(C t i hi).array hu;obtain⟨ie,m1,m2,_⟩:=(C e j hj).p5;simp only[sL,k1,k7,k4,m1,k5,m2,D];rfl
    .exact h.elim
   .exact h.elim
  .exact h.elim
 case buildSlice t len aiO=>
  split at h
  .rename_i i hi;split at h
   .rename_i e hu;split at h
    .rename_i j hj;split at h
     .rename_i hc;simp only[BR]at hc;obtain⟨⟨⟨⟨D,Q⟩,h3⟩,h3'⟩,h4⟩:=hc;have hs:cX P t=some (e,j.sz):=by simp[cX,(C t i hi).slice hu,(C e j hj).size]
      exact .of (Ev.buildSlice r hs (C e j hj).zc (FU D) (FU Q) (J1 h3) (J1 h3') h4) (gi _ h)
     .exact h.elim
    .exact h.elim
   .exact h.elim
  .exact h.elim
 case indexAddr t x y=>
  split at h
  .rename_i hs hx L;split at h
   .rename_i hb;obtain⟨xs',ez,z,hz,h⟩:=h;have e:=FU hb;subst e;obtain⟨e,he⟩:=gH C hs;obtain⟨k0,k1⟩:=p8 hz;split at h
    .rename_i hsc;exact .of (Ev.indexAddr r he hx ez L k0 k1 hsc) (gi _ h)
    .exact h.elim
   .exact h.elim
  .rename_i hs hx L;split at h
   .rename_i hb;obtain⟨h0,D,m,rfl,h⟩:=h;have e:=FU hb;subst e;obtain⟨e,he⟩:=gH C hs;exact .of (aeL r he hx L h0 D) h
   .exact h.elim
  .rename_i hs hx L;split at h
   .rename_i hb;obtain⟨h0,D,m,rfl,h⟩:=h;have e:=FU hb;subst e;obtain⟨e,he⟩:=gH C hs;exact .of (afZ r he hx L h0 D) h
   .exact h.elim
  .rename_i hs hx L;split at h
   .rename_i len e hu;split at h
    .rename_i te hte;obtain⟨h0,D,h⟩:=h;obtain⟨i2,_,A,X⟩:=ci C hu NP;obtain⟨m,rfl,h⟩:=vi _ _ h h0 (by simpa using D);exact .of (afP r (X.array A) (C e te hte).size hx L h0 D) h
    .exact h.elim
   .exact h.elim
  .rename_i hs hx L;split at h
   .rename_i len e hu;split at h
    .rename_i te hte;obtain⟨h0,D,m,rfl,h⟩:=h;obtain⟨i2,_,A,X⟩:=ci C hu NP;exact .of (aeO r (X.array A) (C e te hte).size hx L h0 D) h
    .exact h.elim
   .exact h.elim
  .exact h.elim
 case index t x y=>
  split at h
  .rename_i hu hx L;obtain⟨c,h0,D,k⟩:=h;obtain⟨i,_,A,X⟩:=ci C hu NP;exact .of (afy r (X.string A) hx L h0 D) k
  .rename_i n e cs _ i hu hx L;split at h
   .rename_i j hj;obtain⟨h0,D,z,Q,k⟩:=h;obtain⟨i2,_,A,X⟩:=ci C hu NP;exact .of (afz r (X.array A) hx L h0 D (C e j hj).size (C e j hj).Vy Q) (gz k)
   .exact h.elim
  .exact h.elim
 case slice t x lo hi mx=>
  cases mx with
  |some mx=>
   cases lo<;>cases hi<;>simp only at h<;>try (exact h.elim)
   split at h
   .rename_i sz N hs hx;split at h
    .rename_i hb;have e:=FU hb;subst e;obtain⟨e,he⟩:=gH C hs;split at h
     .rename_i D Q h3;obtain⟨k1,k2,k3,k4,k⟩:=h;exact .of (af2 r he hx D Q h3 k1 k2 k3 k4) k
     .exact h.elim
    .exact h.elim
   .exact h.elim
  |none=>
   simp only at h;split at h
   .rename_i hx hl hh;split at h
    .rename_i hu;obtain⟨i,_,A,X⟩:=ci C hu NP;obtain⟨h0,D,Q,k⟩:=h;exact .of (afA r (X.string A) hx hl hh h0 D Q) k
    .exact h.elim
   .rename_i hx hl hh;split at h
    .rename_i sz hs;split at h
     .rename_i hb;have e:=FU hb;subst e;obtain⟨e,he⟩:=gH C hs;obtain⟨xs',ez,h0,D,Q,k⟩:=h;exact .of (Ev.slice r he hx ez hl hh h0 D Q) k
     .exact h.elim
    .exact h.elim
   .rename_i hx hl hh;split at h
    .rename_i sz hs;split at h
     .rename_i hb;have e:=FU hb;subst e;obtain⟨e,he⟩:=gH C hs;obtain⟨h0,D,Q,a,rfl,b,rfl,k⟩:=h;exact .of (afV r he hx hl hh h0 D Q) k
     .exact h.elim
    .exact h.elim
   .rename_i hx hl hh;split at h
    .rename_i sz hs;split at h
     .rename_i hb;have e:=FU hb;subst e;obtain⟨e,he⟩:=gH C hs;obtain⟨h0,D,Q,a,rfl,b,rfl,k⟩:=h;exact .of (afX r he hx hl hh h0 D Q) k
     .exact h.elim
    .exact h.elim
   .rename_i hx hl hh;split at h
    .rename_i n e hu;obtain⟨i,_,A,X⟩:=ci C hu NP;split at h
     .rename_i te hte;split at h
      .rename_i hn;obtain⟨xs,D,Q,h3,k⟩:=h;obtain rfl:lo=none:=zk hl;obtain rfl:hi=none:=zk hh;refine .of (afO r (X.array A) (C e te hte).size hx D Q (J1 hn) λy L=>?_) k;have:=H0.1 h3 y L;simp only[BR]at this;exact⟨FU this.1,this.2⟩
      .exact h.elim
     .exact h.elim
    .exact h.elim
   .exact h.elim
 case typeAssert x s t ok=>
  cases ok<;>simp only at h
  .split at h
   .rename_i i hi;obtain⟨d,k1,_,k2,_⟩:=(C t i hi).jt;split at h
    .exact h.elim
    .rename_i hne;obtain⟨v,hv,h⟩:=h;refine .of (afL r k1 ?_ hv) h;cases d<;>first|rfl|skip
     cases hu:i.jt<;>rw[hu]at k2<;>simp[ou]at k2;exact absurd hu hne
   .exact h.elim
 case makeInterface t x=>
  split at h
  .rename_i i hi;obtain⟨d,k1,_,k2,_⟩:=(C t i hi).jt;split at h
   .exact h.elim
   .rename_i hne;refine .of (Ev.makeInterface r k1 ?_) h;cases d<;>first|rfl|skip
    cases hu:i.jt<;>rw[hu]at k2<;>simp[ou]at k2;exact absurd hu hne
  .exact h.elim
 case binOp op t x y t'=>
  split at h
  .rename_i hu;obtain⟨i,_,A,X⟩:=ci C hu NP;obtain⟨ms,hms⟩:=X.iface A;split at h
   .obtain⟨c,D,Q⟩:=h;rcases D with⟨a,b,u,v,e1,e2,e3,rfl⟩|⟨a,u,v,i',e1,e2,rfl,e4,e5,e6⟩
    .exact .of (afJ r hms e1 e2 e3) Q
    .obtain⟨it,k1,k2⟩:=(C a i' e4).Vx;exact .of (afK r hms e1 e2 k1 (k2.trans e6) ((C a i' e4).bool e5)) Q
   .exact h.elim
  .rename_i hu;obtain⟨i,_,A,X⟩:=ci C hu NP;obtain⟨e,he⟩:=X.pointer A;split at h
   .rename_i c hx L;split at h
    .exact .of (Sj (neg:=false) r he hx L) (by rw[Bool.bne_false];exact h)
    .exact .of (Sj (neg:=true) r he hx L) (by rw[Bool.bne_true];exact h)
    .exact h.elim
   .exact h.elim
  .rename_i hu;obtain⟨i,_,A,X⟩:=ci C hu NP;obtain⟨ps,rs,vr,he⟩:=X.func A;split at h
   .rename_i c hx L;split at h
    .exact .of (Si (neg:=false) r he hx L) (by rw[Bool.bne_false];exact h)
    .exact .of (Si (neg:=true) r he hx L) (by rw[Bool.bne_true];exact h)
    .exact h.elim
   .exact h.elim
  split at h
  .rename_i k a k' c hx L;split at h
   .rename_i hsh;have:=avC hsh;subst this;exact .of (aet r hx L h.1) h.2
   split at h
   .rename_i hsh;have:=avG hsh;subst this;exact .of (aeK r hx L h.1) h.2
   split at h
   .rename_i X;have X:=Du X;subst X;split at h
    .exact .of (Ev.quo r hx L h.1) h.2
    .exact .of (Ev.rem r hx L h.1) h.2
    .split at h
     .rename_i z hz;exact .of (aek r hx L hz) h
     .exact h.elim
   .exact h.elim
  .rename_i a c hx L;split at h
   .exact .of (aem r hx L h.1) h.2
   .split at h
    .rename_i z hz;exact .of (ael r hx L hz) h
    .exact h.elim
  .rename_i a c hx L;split at h
   .rename_i hu;obtain⟨i,_,A,X⟩:=ci C hu NP;split at h
    .exact .of (aeW r (X.bool A) hx L) h
    .exact .of (aeX r (X.bool A) hx L) h
    .exact h.elim
   .exact h.elim
  .exact h.elim
 case unOp op t x=>
  split at h
  .rename_i c hx;exact .of (aen r hx) h
  .rename_i k n hx;exact .of (aeo r hx) h
  .exact h.elim
 case nilCheck x=>
  split at h
  .rename_i hn;exact .of (Ev.nilCheck r hn) (gz h)
  .exact h.elim
 case convert s t x=>
  split at h
  .rename_i i k' k n hs hu hx;obtain⟨i2,_,A,X⟩:=ci C hu NP;obtain⟨d,hd,_⟩:=(C s i hs).jt;exact .of (ae1 r hd (X.int A) hx) h
  .exact h.elim
 case call c=>
  obtain⟨callee,args,argTypes⟩:=c;simp only at h;split at h
  .split at h
   .rename_i x t alO hty;have ha:args=#[x]:=by cases args;simp_all
    have hb:argTypes=#[t]:=by cases argTypes;simp_all
    subst ha hb;split at h
    .rename_i e sz tok xs hu hx;obtain⟨i,_,A,X⟩:=ci C hu NP;obtain⟨xs',ez,h⟩:=h;exact .of (Ev.len r (X.slice A) hx ez) h
    .rename_i hu hx;obtain⟨i,_,A,X⟩:=ci C hu NP;exact .of (afF r (X.slice A) hx) h
    .rename_i hu hx;obtain⟨i,_,A,X⟩:=ci C hu NP;exact .of (afY r (X.slice A) hx) h
    .rename_i s hu hx;obtain⟨i,_,A,X⟩:=ci C hu NP;exact .of (aeS r (X.string A) hx) h
    .exact h.elim
   .exact h.elim
  .split at h
   .rename_i x y alO;have ha:args=#[x,y]:=by cases args;simp_all
    subst ha;split at h
    .rename_i hx L;exact .of (adk r hx L) h
    .exact h.elim
   .exact h.elim
  .split at h
   .rename_i x y alO;have ha:args=#[x,y]:=by cases args;simp_all
    subst ha;split at h
    .rename_i hx L;exact .of (adt r hx L) h
    .exact h.elim
   .exact h.elim
  .exact h.elim
end
section
variable {P:Program}{ge:GE}{F:Nm->Prop}{N b:Nat}{tm:Tm}{l:HL}{o:Oper}{ti:Nat->T TE}
def bq{j p}(_:aN l j=none):cW (aN l) j p=aN ((j,p)::l):=by
 funext i;simp[cW,aN]
def fJ{j p q}(h:aN l j=some q):vg b l (dp j p l) [j]:=by
 rw[vg,<-bx];refine⟨λi _ y=>aZ _ _ Ee,λi y=>?_,λi y x=>?_⟩
 .by_cases e:i=j
  .subst e;simp[cW]
  .rw[aZ _ _ e];exact y
 .by_cases e:i=j
  .subst e;simp[h]at y
  .rw[aZ _ _ e]at x;rw[y]at x;simp at x
def ia{p}:vg b l (((1,nx b l),p)::l) []:=by
 have z:=hE l b 1 _ (Hq _);rw[vg,<-bq z];refine⟨λi y _=>aZ _ _ (λe=>by subst e;simp[z]at y),λi y=>?_,λi y x=>?_⟩
 .by_cases e:i=(1,nx b l)
  .subst e;simp[cW]
  .rw[aZ _ _ e];exact y
 .by_cases e:i=(1,nx b l)
  .subst e;exact⟨rfl,lB l b⟩
  .rw[aZ _ _ e]at x;rw[y]at x;simp at x
theorem vg.refl b l:vg b l l []:=⟨λ_ _ _=>rfl,λ_ h=>h,λj h x=>by rw[h]at x;simp at x⟩
def RH(F:Nm->Prop)(b:Nat):Prop:=∀j,F j->j.1<1\/(j.1=1/\j.2<b)
def RH.not(x:RH F b):¬F (1,nx b l):=λh=>by
 have:=lB l b;rcases x _ h with h|h
 .simp at h
 grind
def ZD.cb(D:ow P ti)(hF:RH F b){K}(h:ZD P ge ti b tm l o K):eW P ge F o tm (aN l) (CH b l K):=by
 have C:=hE l b 1 _ (Hq _);unfold ZD at h;cases d:o.op<;>simp only[d]at h<;>try (exact h.elim)
 case store t x y=>
  split at h
  .rename_i j off hx;split at h
   .rename_i cs g;rw[<-cQ]at g;split at h
    .rename_i p;unfold Kb at p;split at p
     .rename_i i w;simp only[BR]at p;obtain⟨L,h⟩:=nA _ _ _ (gi _ h);have h:=fd _ h;have e:=FU p.1;refine eW.store d hx g (D t i w).size p.2 e.symm (by rw[e];exact L) ?_;exact⟨_,[j],bx _ _ _,fJ g,h⟩
     .simp at p
    .exact h.elim
   .rename_i sz xs g;rw[<-cQ]at g;split at h
    .rename_i p;unfold Kb at p;split at p
     .rename_i i w;simp only[BR]at p;have e:=FU p.1;obtain⟨k,q,z,hm,hz,hle,h⟩:=h;obtain⟨z',hz',xs',ez,h⟩:=avF h;rw[dJ]at hz;have h:=fd _ h;refine afH d hx hm g hz (D t i w).size p.2 e.symm (by rw[e];exact J1 hle) ?_ ez ⟨_,[j],bx _ _ _,fJ g,h⟩;rcases hz' with L|⟨L,h2,h3⟩
      .exact .inl L
      .exact .inr ⟨L,h2,by rw[e];exact h3⟩
     .simp at p
    .exact h.elim
   .exact h.elim
  .exact h.elim
 case alloc t=>
  split at h
  .rename_i i w;obtain⟨k,rfl,h⟩:=gi _ h;exact eW.alloc _ d C hF.not (D t i w).zc ⟨_,[],bq C,ia,h⟩
  .exact h.elim
 case box t x=>
  split at h
  .rename_i hs;obtain⟨k,rfl,h⟩:=gi _ h;exact eW.box _ d C hF.not hs ⟨_,[],bq C,ia,h⟩
  .exact h.elim
 case range t x=>
  split at h
  .rename_i key elem i hu hx;obtain⟨i2,_,A,hk⟩:=ci D hu NP;split at h
   .rename_i es w;rw[<-cQ]at w;obtain⟨k,rfl,h⟩:=h;exact afQ _ d (hk.map A) hx w C hF.not ⟨_,[],bq C,ia,h⟩
   .exact h.elim
  .rename_i s hu hx;obtain⟨i2,_,A,hk⟩:=ci D hu NP;obtain⟨k,rfl,h⟩:=h;exact afR _ d (hk.string A) hx C hF.not ⟨_,[],bq C,ia,h⟩
  .exact h.elim
 case next x str=>
  split at h
  .rename_i j hx;split at h
   .rename_i i g;rw[<-cQ]at g;cases str<;>simp only at h
    .split at h
     .rename_i w;rw[<-cQ]at w;exact vd (afS d hx) (λa b hab hs=>⟨hab _ _ hs.1,hab _ _ hs.2⟩) ⟨g,w⟩ ⟨l,[],rfl,vg.refl b l,h⟩
     .exact h.elim
   .rename_i s pos g;rw[<-cQ]at g;cases str<;>simp only at h
    .by_cases hlt:pos<s.size
     .have h:=fd _ (h.1 hlt);exact afU d hx g hlt ⟨_,[j],bx _ _ _,fJ g,h⟩
     .exact vd (afT d hx B9) (λa b hab hs=>hab _ _ hs) g ⟨l,[],rfl,vg.refl b l,h.2 B9⟩
   .exact h.elim
  .exact h.elim
 case makeMap t r=>
  cases r<;>simp only at h;split at h
  .obtain⟨k,rfl,h⟩:=h;exact eW.makeMap _ d C hF.not ⟨_,[],bq C,ia,h⟩
  .exact h.elim
 case lookup t x y ok=>
  split at h
  .rename_i key elem hu;obtain⟨i,_,A,hk⟩:=ci D hu NP;split at h
   .rename_i te j s hke hte hx hy;obtain⟨i2,_,alP,hk2⟩:=ci D hke NP;split at h
    .rename_i es g;obtain⟨c,v,L,h2,h3⟩:=h;rw[<-cQ]at g;refine vd (afN d (hk.map A) (hk2.string alP) hx hy L λX=>?_) (λa b hab hs=>hab _ _ hs) g ⟨l,[],rfl,vg.refl b l,h3⟩;rcases h2 X with⟨ha,hz⟩|⟨ha,hz⟩
     case inr=>
      obtain⟨it,z,k1,k2,k3⟩:=(D elem te hte).aaF ha;exact⟨it,z,k1,k2,by rw[hz,k3]⟩
     obtain⟨it,z,k1,k2,k3,k4⟩:=(D elem te hte).JG ha;obtain⟨k5,k6⟩:=avn k3;refine⟨it,z,k1,k2,?_⟩;rw[k5,hz]at k4;rw[k6];simpa using k4.symm
    .exact h.elim
   .exact h.elim
  .exact h.elim
 case mapUpdate t x y z=>
  split at h
  .rename_i key elem hu;obtain⟨i,_,A,hk⟩:=ci D hu NP;split at h
   .rename_i j s hke hx hy;obtain⟨i2,_,alP,hk2⟩:=ci D hke NP;split at h
    .rename_i es g;rw[<-cQ]at g;obtain⟨es',L,h⟩:=h;have h:=fd _ h;exact eW.mapUpdate (.inl d) (hk.map A) (hk2.string alP) hx hy g L ⟨_,[j],bx _ _ _,fJ g,h⟩
    .exact h.elim
   .exact h.elim
  .exact h.elim
 case insert t x y z=>
  split at h
  .rename_i key elem hu;obtain⟨i,_,A,hk⟩:=ci D hu NP;split at h
   .rename_i j s hke hx hy;obtain⟨i2,_,alP,hk2⟩:=ci D hke NP;split at h
    .rename_i es g;rw[<-cQ]at g;obtain⟨es',L,h⟩:=h;have h:=fd _ h;exact eW.mapUpdate (.inr d) (hk.map A) (hk2.string alP) hx hy g L ⟨_,[j],bx _ _ _,fJ g,h⟩
    .exact h.elim
   .exact h.elim
  .exact h.elim
 case binOp op t x y t'=>
  split at h<;>try (first|exact h.elim|(rename_i he;injection he;done))
  rename_i he;cases he;split at h
  .rename_i hu hx;obtain⟨i,_,A,hk⟩:=ci D hu NP;exact afC d (hk.slice A) hx λc X=>⟨_,[],rfl,(by refine⟨λ_ _ _=>rfl,λ_ h=>h,λ_ h h'=>?_⟩;rw[h]at h';simp at h'),h c X⟩
  .exact h.elim
 case call c=>
  obtain⟨callee,args,argTypes⟩:=c;simp only at h;split at h
  .split at h
   .rename_i x y t t' ha hty;have ha:args=#[x,y]:=by cases args;simp_all
    have hty:argTypes=#[t,t']:=by cases argTypes;simp_all
    subst ha hty;split at h
    .rename_i hb;have e:=FU hb;subst e;unfold Qg at h;split at h
     .rename_i sz bytes u;unfold Qy at u;split at u
      .rename_i i w;split at u
       .rename_i e hu;split at u
        .rename_i j g;cases X:(j.zero.length.beq j.sz&&Nat.ble 1 j.sz&&Nat.ble 1 j.bytes)with
         |false=>rw[X]at u;simp at u
         |true=>
          rw[X]at u;cases u;simp only[BR]at X;obtain⟨it,k1,k2,k3,z,k4,k5,k6⟩:=(D e j g).p5;have k7:=FU X.1.1;have k8:=J1 X.1.2;have k9:=J1 X.2;have AU:oV P t' e j.sz j.bytes:=⟨(D t' i w).slice hu,⟨it,z,k1,k4,k2,k3,by rw[k6,k7]⟩,k8⟩;have big:∀n,n*j.bytes<=140737488355328->n<=4611686018427387904:=λn C=>by
           have:=Nat.le_mul_of_pos_right n k9;omega
          split at h
          .rename_i sz1 j' xs sz2 tok ys hx hy;split at h
           .rename_i f;simp only[BR]at f;have e1:=FU f.1;have e2:=FU f.2;subst e1;subst e2;split at h
            .rename_i sz3 n Q;rw[<-cQ]at Q;split at h
             .rename_i h3;have e3:=FU h3;subst e3;obtain⟨rfl,hb,h⟩:=h;have h:=fd _ h;refine eW.append d AU hx hy Q rfl hb (big _ hb) ⟨_,[j'],?_,fJ Q,h⟩;rw[bx];simp
             .exact h.elim
            .exact h.elim
           .exact h.elim
          .rename_i sz1 xs sz2 tok ys hx hy;split at h
           .rename_i f;simp only[BR,K5]at f;have e2:=FU f.1;subst e2;have hs:xs=[]\/sz1=j.sz:=by
             rcases f.2 with h|h
             .exact .inr (FU h)
             .exact .inl Do
            obtain⟨L,⟨k,rfl,h2⟩|⟨rfl,k,rfl,h2⟩⟩:=h
            .refine aeT _ C hF.not d AU hx hs hy L (big _ L) ⟨_,[],?_,ia,h2⟩;rw[bq C];simp
            .simp only[B1,LB]at L;refine eW.qa _ C hF.not d AU hx hy L (big _ L) ⟨_,[],?_,ia,h2⟩;rw[bq C]
           .exact h.elim
          .rename_i j1 sz1 ii N j2 sz2 lo m N' hx hy;split at h
           .rename_i f;simp only[BR]at f;have e1:=FU f.1.1;have e2:=FU f.1.2;have e4:=jB.1 f.2;subst e1;subst e2;subst e4;split at h
            .rename_i sz3 xs Q;rw[<-cQ]at Q;split at h
             .rename_i h3;have e3:=FU h3;subst e3;obtain⟨rfl,hN,hne,w,xs',rfl,h⟩:=h;have h:=fd _ h;exact af1 d AU hx hy Q hN hne w ⟨_,[j2],bx _ _ _,fJ Q,h⟩
             .exact h.elim
            .exact h.elim
           .exact h.elim
          .rename_i j1 sz1 n sz2 tok ys hx hy;split at h
           .rename_i f;simp only[BR]at f;have e1:=FU f.1;have e2:=FU f.2;subst e1;subst e2;split at h
            .rename_i sz3 xs Q;rw[<-cQ]at Q;split at h
             .rename_i h3;have e3:=FU h3;subst e3;obtain⟨rfl,hne,hb,k,rfl,h⟩:=h;obtain⟨q,rfl,h⟩:=fd _ h;have hn2:aN (dp j1 (.bD j.sz []) l) (1,nx b l)=none:=by
               rw[<-bx,aZ _ _ (λe=>by rw[e]at C;rw[C]at Q;simp at Q)];exact C
              refine eW.sX _ C hF.not d AU hx hy Q rfl hne hb (big _ hb) ⟨_,[j1],?_,?_,h⟩
              .rw[bx,bq hn2]
              .refine⟨λi w hni=>?_,λi w=>?_,λi w hi'=>?_⟩
               .rw[<-bq hn2,aZ _ _ (λe=>by subst e;simp[C]at w),<-bx,aZ _ _ (by simpa using hni)]
               .rw[<-bq hn2];by_cases e:i=(1,nx b l)
                .subst e;simp[cW]
                .rw[aZ _ _ e,<-bx];by_cases e':i=j1
                 .subst e';simp[cW]
                 .rw[aZ _ _ e'];exact w
               .rw[<-bq hn2]at hi';by_cases e:i=(1,nx b l)
                .subst e;exact⟨rfl,lB l b⟩
                .rw[aZ _ _ e,<-bx]at hi';by_cases e':i=j1
                 .subst e';simp[Q]at w
                 .rw[aZ _ _ e']at hi';rw[w]at hi';simp at hi'
             .exact h.elim
            .exact h.elim
           .exact h.elim
          .exact h.elim
        .simp at u
       .simp at u
      .simp at u
     .exact h.elim
    .exact h.elim
   .exact h.elim
  .split at h
   .rename_i x t ha hty;have ha:args=#[x]:=by cases args;simp_all
    have hty:argTypes=#[t]:=by cases argTypes;simp_all
    subst ha hty;split at h
    .rename_i i j sz lo n N w hx;split at h
     .rename_i e hu;split at h
      .rename_i te hte;split at h
       .rename_i X;simp only[BR]at X;have e1:=FU X.1.1;have e2:=FU X.1.2;subst e1;split at h
        .rename_i sz3 xs Q;rw[<-cQ]at Q;split at h
         .rename_i h3;have e3:=FU h3;subst e3;obtain⟨hN,zx,hzx,xs',ez,h⟩:=h;have h:=fd _ h;have hs:cX P t=some (e,te.sz):=by simp[cX,(D t i w).slice hu,(D e te hte).size]
          exact af0 d hs hx Q hN ⟨te.zero,(D e te hte).zc,e2,X.2,hzx⟩ ez ⟨_,[j],bx _ _ _,fJ Q,h⟩
         .exact h.elim
        .exact h.elim
       .exact h.elim
      .exact h.elim
     .exact h.elim
    .exact h.elim
   .exact h.elim
  .split at h
   .rename_i hx;exact af3 d hx h.1 hF h.2
   .exact h.elim
  .exact h.elim
def VG.cb(r:ow P ti)(X:RH F b){K}(h:VG ge ti b tm l o K):eW P ge F o tm (aN l) (CH b l K):=by
 have f:=hE l b 1 _ (Hq _);unfold VG at h;cases d:o.op<;>simp only[d]at h<;>try (exact h.elim)
 case buildSlice t len aiO=>
  split at h
  .rename_i i z;split at h
   .rename_i e hu;split at h
    .rename_i j y;split at h
     .rename_i hc;simp only[BR]at hc;obtain⟨⟨⟨⟨g,h2⟩,w⟩,A⟩,h4⟩:=hc;have hs:cX P t=some (e,j.sz):=by simp[cX,(r t i z).slice hu,(r e j y).size]
      obtain⟨C,k,rfl,n,rfl,h⟩:=gi _ h;refine afI _ f X.not d hs (r e j y).zc (FU g) (FU h2) (J1 w) (J1 A) h4 C ⟨_,[],bq f,ia,h⟩
     .exact h.elim
    .exact h.elim
   .exact h.elim
  .exact h.elim
 case slice t x lo z mx=>
  split at h<;>try (first|exact h.elim|(rename_i v;simp at v;done))
  rename_i v;cases v;split at h
  .rename_i sz sz' j xs k a D hx hl;split at h
   .rename_i hb;have e:=FU hb;subst e;split at h
    .rename_i sz3 n y;rw[<-cQ]at y;split at h
     .rename_i w;have e:=FU w;subst e;obtain⟨s,h0,g,q,rfl,h⟩:=h;have h:=fd _ h;obtain⟨e,hs⟩:=gH r D;rw[KP,s]at h;refine afB _ f X.not d hs hx hl y s h0 g ⟨_,[j],?_,?_,h⟩
      .have:aN (dp j (.bD 0 []) l) (1,nx b l)=none:=by
        rw[<-bx,aZ _ _ (λe=>by rw[e]at f;rw[f]at y;simp at y)];exact f
       rw[<-bq this,<-bx]
      .have g:=fJ (b:=b) (p:=.bD 0 []) y;refine⟨λi z L=>?_,λi z=>?_,λi z m=>?_⟩
       .simp only[aN];rw[BY (λe=>by rw[e,f]at z;simp at z)];exact g.1 i z L
       .simp only[aN];split
        .rfl
        .exact g.2.1 i z
       .simp only[aN]at m;split at m
        .rename_i e;rw[e];exact⟨rfl,lB l b⟩
        .exact g.2.2 i z m
     .exact h.elim
    .exact h.elim
   .exact h.elim
  .exact h.elim
 case call c=>
  obtain⟨callee,args,argTypes⟩:=c;simp only at h;split at h
  .split at h
   .rename_i x t ha u;have ha:args=#[x]:=by cases args;simp_all
    have u:argTypes=#[t]:=by cases argTypes;simp_all
    subst ha u;split at h
    .rename_i key elem j hu hx;obtain⟨i,_,N,hk⟩:=ci r hu NP;split at h
     .rename_i es y;rw[<-cQ]at y;exact vd (afM d (hk.map N) hx) (λa b Q hs=>Q _ _ hs) y ⟨l,[],rfl,vg.refl b l,h⟩
     .exact h.elim
    .exact h.elim
   .exact h.elim
  .exact h.elim
def SX.cb(y:ow P ti)(z:RH F b){K}(h:SX P ge ti b tm l o K):eW P ge F o tm (aN l) (CH b l K):=by
 have val:(Kc ge ti tm l o λx _=>K x l [])->eW P ge F o tm _ (CH b l K):=λh=>by
  obtain⟨S,x,a,c,d,e,g,_,f⟩:=Kc.cb y h;exact vd c d e ⟨l,[],rfl,vg.refl b l,f⟩
 unfold SX at h;split at h
 .exact h.cb y z
 .split at h
  .rcases h with h|h
   .exact val h
   .exact VG.cb y z h
  .exact val h
def kB(tm:Tm)(d:T Tmp)(x:G)(K:Tm->Prop):Prop:=match d with
 |none=>K tm
 |some d=>K ((d,x)::tm)
def eo{d x K}(h:kB tm d x K):K (put tm d x):=by cases d<;>exact h
def s8(x:U Oper)(j:Nat):T Tmp:=match fy x j with
 |some o=>o.dst
 |none=>none
def zm(x:Array Oper)j:s8 x.toList j=(x[j]?).bind (·.dst):=by
 unfold s8;rw[dJ]
 grind
def HZ(all:U Oper):U Oper->(U Nat->Prop)->Prop
 | [],K=>K []
 |o::r,K=>match o.guard with
  |some (j,_)=>match s8 all j with
   |some t=>HZ all r λx=>K (t::x)
   |none=>HZ all r K
  |none=>HZ all r K
def kC{all}:∀r{K},HZ all r K->∃x,K x
 | [],_,h=>⟨[],h⟩
 |o::r,K,h=>by
  simp[HZ]at h;split at h
  .split at h
   .obtain⟨x,h⟩:=kC r h;exact⟨_,h⟩
   .exact kC r h
  .exact kC r h
def RI:U Nat->Nat->At
 | [],_=>false
 |i::r,t=>cond (Nat.beq i t) true (RI r t)
def qe(P:Program)(ge:GE)(N:Nat)(x:Array Oper)(Q:fX)(l:U Oper)(tm:Tm)(hp:Hp):Prop:=∀g y fr w a,AF 1 fr->AV.nk (ol 1) y g->gh g w hp fr->oO g ge->VT g N tm a.tmps->a.defers=[]->wpList P x (ut 1 y fr N Q) l a w
def Qz(P:Program)(ge:GE)(ti:Nat->T TE)(N:Nat)(y:U Nat)(x:Array Oper)(Q:fX)(l:U Oper)(tm:Tm)(hp:Hp):Prop:=have _:=y;have _:=ti;qe P ge N x Q l tm hp
def qe.nil{x Q hp}(h:Q .normal tm hp):qe P ge N x Q [] tm hp:=λg _ _ _ _ _ l r _ v y=>⟨g,tm,hp,l,r,v,y,h⟩
def qe.step{y Q hp rest}(hd:iO N o.dst=true)(h:match o.guard with
  |none=>eW P ge (ol 1) o tm hp λx c=>qe P ge N y Q rest (put tm o.dst x) c
  |some (j,d)=>∃t,(y[j]?).bind (·.dst)=some t/\((∃b,get tm t= .bool b/\
   (b=d->eW P ge (ol 1) o tm hp λx c=>qe P ge N y Q rest (put tm o.dst x) c)/\
   (b≠d->qe P ge N y Q rest (put tm o.dst (.bZ [])) hp))\/(get tm t= .bZ []/\qe P ge N y Q rest (put tm o.dst (.bZ [])) hp))):qe P ge N y Q (o::rest) tm hp:=λg p fr w a f l r k v D=>by
 have hd:=lW hd;have run:(eW P ge (ol 1) o tm hp λx c=>qe P ge N y Q rest (put tm o.dst x) c)->o.wp P a w (wpList P y (ut 1 p fr N Q) rest) (ut 1 p fr N Q):=by
  intro L;refine MG (λa' w'⟨u,g',x,c,e,m,q,K,s⟩=>?_) (L g fr w a _ f.ay r k (v.Hm k o));subst e;refine s g' p fr w' _ f (l.trans (m.some _)) q (k.mono m) ((v.mono m).put K hd) ?_;cases o.dst<;>exact D
 simp[wpList];cases n:o.guard with
 |none=>
  simp[n]at h;have i:Region.wanted o (yielded y a.tmps)=true:=by simp[Region.wanted,n]
  rw[i];exact .inl (run h)
 |some X=>
  obtain⟨j,d⟩:=X;simp only[n]at h;obtain⟨t,m,h⟩:=h;have z:=v.get t;rcases h with⟨b,q,K,s⟩|⟨q,s⟩
  .rw[q]at z;simp only[ac]at z;have A:yielded y a.tmps j=some b:=by
    unfold yielded;rw[m];simp;rw[JA]at z;cases C:a.tmps[t]? with
    |none=>rw[C]at z;simp[undef]at z
    |some u=>rw[C]at z;simp at z;subst z;rfl
   by_cases e:b=d
   .have i:Region.wanted o (yielded y a.tmps)=true:=by simp[Region.wanted,n,A,e]
    rw[i];exact .inl (run (K e))
   .have i:Region.wanted o (yielded y a.tmps)=false:=by simp[Region.wanted,n,A,e]
    rw[i];refine s e g p fr w _ f l r k (v.put (nq g) hd) ?_;cases o.dst<;>exact D
  .rw[q]at z;obtain⟨bD,z,_⟩:=z;have A:yielded y a.tmps j=none:=by
    unfold yielded;rw[m];simp;rw[JA]at z;cases C:a.tmps[t]? with
    |none=>rfl
    |some u=>rw[C]at z;simp at z;subst z;rfl
   have i:Region.wanted o (yielded y a.tmps)=false:=by simp[Region.wanted,n,A]
   rw[i];refine s g p fr w _ f l r k (v.put (nq g) hd) ?_;cases o.dst<;>exact D
def af4{id x Q hp}(h:qe P ge N x Q x.toList tm hp):br P ge 1 N (.region id x false) Q tm hp:=λg fr w a f r k v y=>wp_region_list (h g g fr w a f (AV.nk.refl _ g) r k v y)
def LK(K:Tm->HL->Prop):fX:=λe tm hp=>e= .normal/\∃l,hp=aN l/\K tm l
def fk(y:U Nat)(dst:T Tmp)(x:G)(K:G->Prop):Prop:=
 match dst with
 |some t=>match RI y t with
  |true=>match x with
   |.bool b=>(b=true->K (.bool true))/\(b=false->K (.bool false))
   |_=>False
  |false=>K x
 |none=>K x
def fk.iK{y dst x K}(h:fk y dst x K):K x:=by
 unfold fk at h;split at h
 .split at h
  .split at h
   .rename_i b;cases b with
    |true=>exact h.1 rfl
    |false=>exact h.2 rfl
   .exact h.elim
  .exact h
 .exact h
def QA(y:U Nat)(dst:T Tmp)(x:G)(S:Prop)(K:G->Prop):Prop:=
 match dst with
 |some t=>match RI y t with
  |true=>match x with
   |.bool b=>((b=true->K (.bool true))/\(b=false->K (.bool false)))\/S
   |_=>False
  |false=>K x
 |none=>K x
def QA.iK{y dst x S K}(h:QA y dst x S K):K x\/S:=by
 unfold QA at h;split at h
 .split at h
  .split at h
   .rename_i b;rcases h with h|h
    .cases b with
     |true=>exact .inl (h.1 rfl)
     |false=>exact .inl (h.2 rfl)
    .exact .inr h
   .exact h.elim
  .exact .inl h
 .exact .inl h
noncomputable def uw(P:Program)(ge:GE)(ti:Nat->T TE)(N:Nat)(z:U Nat)(y:U Oper)(K K0:Tm->HL->Prop)(r:U Oper):Nat->Tm->HL->Prop:=
 List.rec (motive:=λ_=>Nat->Tm->HL->Prop) (λ_ tm l=>K tm l) (λo r a n tm l=>match n with
  |0=>K tm l
  |n+1=>match iO N o.dst with
   |true=>match o.guard with
    |none=>SX P ge ti 0 tm l o λx l' _=>fc x λx=>QA z o.dst x (Qz P ge ti N z (Array.mk y) (LK K0) r (put tm o.dst x) (aN l')) λx=>kB tm o.dst x λtm=>a n tm l'
    |some (j,c)=>match s8 y j with
     |some t=>match get tm t with
      |.bool b=>match b==c with
       |true=>SX P ge ti 0 tm l o λx l' _=>fc x λx=>QA z o.dst x (Qz P ge ti N z (Array.mk y) (LK K0) r (put tm o.dst x) (aN l')) λx=>kB tm o.dst x λtm=>a n tm l'
       |false=>kB tm o.dst (.bZ []) λtm=>a n tm l
      |.bZ []=>kB tm o.dst (.bZ []) λtm=>a n tm l
      |_=>False
     |none=>False
   |false=>False) r
def avz{z y K K0 r n}:uw P ge ti N z y K K0 (o::r) (n+1) tm l=(match iO N o.dst with
 |true=>match o.guard with
  |none=>SX P ge ti 0 tm l o λx l' _=>fc x λx=>QA z o.dst x (Qz P ge ti N z (Array.mk y) (LK K0) r (put tm o.dst x) (aN l')) λx=>kB tm o.dst x λtm=>uw P ge ti N z y K K0 r n tm l'
  |some (j,a)=>match s8 y j with
   |some t=>match get tm t with
    |.bool b=>match b==a with
     |true=>SX P ge ti 0 tm l o λx l' _=>fc x λx=>QA z o.dst x (Qz P ge ti N z (Array.mk y) (LK K0) r (put tm o.dst x) (aN l')) λx=>kB tm o.dst x λtm=>uw P ge ti N z y K K0 r n tm l'
     |false=>kB tm o.dst (.bZ []) λtm=>uw P ge ti N z y K K0 r n tm l
    |.bZ []=>kB tm o.dst (.bZ []) λtm=>uw P ge ti N z y K K0 r n tm l
    |_=>False
   |none=>False
 |false=>False):=rfl
def VI:RH (ol 1) 0:=λ_ h=>.inl h
def uw.cb(c:ow P ti){g y K K0}:∀r n,(∀tm l,K tm l->qe P ge N y (LK K0) (r.drop n) tm (aN l))->∀{tm l},uw P ge ti N g y.toList K K0 r n tm l->qe P ge N y (LK K0) r tm (aN l)
 | [],n,d,tm,l,h=>by have:=d tm l h;simpa using this
 |o::r,0,d,tm,l,h=>d tm l h
 |o::r,n+1,d,tm,l,h=>by
  have z:=λtm l h=>by simpa using d tm l h
  rw[avz]at h;have dG:∀{x:G}{l':HL},(fc x λx=>QA g o.dst x (Qz P ge ti N g _ _ r _ _) λx=>kB tm o.dst x λtm=>uw P ge ti N g y.toList K K0 r n tm l')->qe P ge N y _ r _ _:=λh=>by
   rcases(gz h).iK with h|h
   .exact uw.cb c r n z (eo h)
   .exact h
  split at h
  .rename_i hd;refine qe.step hd ?_;split at h
   .exact eW.mono (SX.cb c VI h) λx i⟨l',_,e,_,k⟩=>by subst e;exact dG k
   .rename_i j f p;split at h
    .rename_i t a;rw[zm]at a;split at h
     .rename_i b m;refine⟨t,a,.inl ⟨b,m,λe=>?_,λe=>?_⟩⟩
      .rw[show(b==f)=true by simpa using e]at h;exact eW.mono (SX.cb c VI h) λx i⟨l',_,e,_,k⟩=>by subst e;exact dG k
      .rw[show(b==f)=false by simpa using e]at h;exact uw.cb c r n z (eo h)
     .rename_i m;exact⟨t,a,.inr ⟨m,uw.cb c r n z (eo h)⟩⟩
     .exact h.elim
    .exact h.elim
  .exact h.elim
noncomputable def SR(P:Program)(ge:GE)(ti:Nat->T TE)(N:Nat)(y:U Nat)(x:U Oper)(K:Tm->HL->Prop)(r:U Oper):Tm->HL->Prop:=uw P ge ti N y x K K r r.length
def SR.cb(y:ow P ti){z x K r}(h:SR P ge ti N z x.toList K r tm l):qe P ge N x (LK K) r tm (aN l):=uw.cb y r r.length (λtm l k=>by rw[Ov];exact qe.nil ⟨rfl,l,rfl,k⟩) h
end
section
variable {P:Program}{ge:GE}{N b:Nat}{tm:Tm}{l:HL}{o:Oper}{ti:Nat->T TE}
def Ch:Un->HL
 | []=>[]
 |(_,j,cs)::r=>(j,.cells cs)::Ch r
def iF l:∀un,da (aN l) un=aN (Ch un++l)
 | []=>rfl
 |(i,j,cs)::r=>by simp only[da,iF l r];rfl
def A0(j:Nm):U Nm->At
 | []=>false
 |i::r=>wh i j||A0 j r
theorem pc{j}:∀{r},A0 j r=true↔j∈r
 | []=>by simp[A0]
 |i::r=>by
  simp only[A0,K5,jB,pc (r:=r),BV]
  grind
def Ci(j:Nm):Un->At
 | []=>true
 |u::r=> !wh u.2.1 j&&Ci j r
def s9{j}:∀{un},Ci j un=true->∀u∈un,u.2.1≠j
 | [],_,u,h=>by simp at h
 |v::r,h,u,hu=>by
  simp only[Ci,BR,Ko]at h;rcases BV.1 hu with rfl|hu
  .exact gR.1 h.1
  .exact s9 h.2 u hu
abbrev Pd:=U (Nm×Nat×Nat×G×Nat)
def ta(ti:Nat->T TE)(l:HL)(t off:Nat)(j:Nm)(y:G):Prop:=match lk l j with
 |some (.cells cs)=>Qx ti t cs off λz=>z=y
 |_=>False
def wj(ti:Nat->T TE)(l:HL)(ch:U Nm):Pd->Prop
 | []=>True
 |(j,t,off,y,_)::r=>match A0 j ch with
  |true=>ta ti l t off j y/\wj ti l ch r
  |false=>wj ti l ch r
def td(o:Oper):Pd->Pd
 | []=>[]
 |q::r=>match y4 o q.2.2.2.2 with
  |true=>td o r
  |false=>q::td o r
def qg{o}:{x:Pd}->∀q∈x,y4 o q.2.2.2.2=false->q∈td o x
 | [],q,h,_=>by simp at h
 |p::r,q,h,e=>by
  simp only[td];rcases BV.1 h with rfl|h
  .rw[e];simp
  .split
   .exact qg q h e
   .exact List.mem_cons_of_mem _ (qg q h e)
def H1(i:Nat)(ge:GE)(tm:Tm)(o:Oper)(x:G)(d:T Nm)(y:Pd):Pd:=match d with
 |some j=>match o.op with
  |.load t a=>match bP ge tm a with
   |.eU _ off=>(j,t,off,x,i)::y
   |_=>y
  |_=>y
 |none=>y
def qK(l:HL)(j:Nm):At:=match lk l j with
 |none=>true
 |some _=>false
def lD:HL->HL->(HL->Prop)->Prop
 | [],l,K=>K l
 |p::a,l,K=>lD a l λr=>K (p::r)
def eG:∀a{l K},lD a l K->K (a++l)
 | [],_,_,h=>h
 |_::a,_,_,h=>eG a h
def FV(P:Program)(ge:GE)(ti:Nat->T TE)(b:Nat)(A:U Nm)(z:U Nat)(k:DK)(i:Nat)(o:Oper)(y:Pd)(un:Un)(tm:Tm)(l:HL)(K:Pd->Un->Tm->HL->Prop):Prop:=
 match k with
 |.fl=>Kc ge ti tm l o λx d=>fc x λx=>fk z o.dst x λx=>kB tm o.dst x λa=>K (H1 i ge tm o x d y) un a l
 |.al j=>match o.op with
  |.alloc t=>match ti t with
   |some c=>match A0 j A&&Ci j un&&qK l j with
    |true=>FT c.zero λcs=>kB tm o.dst (.eU j 0) λtm=>K y ((i,j,cs)::un) tm l
    |false=>False
   |none=>False
  |_=>False
 |.ch=>SX P ge ti b tm l o λx l' ch=>wj ti l' ch (td o y)/\fc x λx=>fk z o.dst x λx=>kB tm o.dst x λtm=>K (td o y) un tm l'
 |.tl=>lD (Ch un) l λl=>SX P ge ti b tm l o λx l' _=>fc x λx=>fk z o.dst x λx=>kB tm o.dst x λtm=>K [] [] tm l'
 |.tp=>lD (Ch un) l λl=>SX P ge ti b tm l o λx l' ch=>wj ti l' ch y/\fc x λx=>fk z o.dst x λx=>kB tm o.dst x λtm=>K y [] tm l'
noncomputable def SD(P:Program)(ge:GE)(ti:Nat->T TE)(b:Nat)(A:U Nm)(N:Nat)(d:U Nat)(z:U Oper)(K:Tm->HL->Prop)(bA:U (Nat×DK)):Pd->Un->Tm->HL->Prop:=
 List.rec (motive:=λ_=>Pd->Un->Tm->HL->Prop) (λ_ un tm l=>lD (Ch un) l λl=>K tm l) (λp _ y x un tm l=>match p with
  |(i,k)=>match fy z i with
  |some o=>match iO N o.dst with
   |true=>match o.guard with
    |none=>FV P ge ti b A d k i o x un tm l λx un tm l=>y x un tm l
    |some (j,a)=>match s8 z j with
     |some t=>match get tm t with
      |.bool c=>match c==a with
       |true=>FV P ge ti b A d k i o x un tm l λx un tm l=>y x un tm l
       |false=>match k with
        |.al _=>False
        |.tp=>False
        |.tl=>lD (Ch un) l λl=>kB tm o.dst (.bZ []) λtm=>y [] [] tm l
        |_=>kB tm o.dst (.bZ []) λtm=>y x un tm l
      |.bZ []=>match k with
       |.al _=>False
       |.tp=>False
       |.tl=>lD (Ch un) l λl=>kB tm o.dst (.bZ []) λtm=>y [] [] tm l
       |_=>kB tm o.dst (.bZ []) λtm=>y x un tm l
      |_=>False
     |none=>False
   |false=>False
  |none=>False) bA
def awl{A z y K i k rest x un}:SD P ge ti b A N z y K ((i,k)::rest) x un tm l=(match fy y i with
 |some o=>match iO N o.dst with
  |true=>match o.guard with
   |none=>FV P ge ti b A z k i o x un tm l λx un tm l=>SD P ge ti b A N z y K rest x un tm l
   |some (j,a)=>match s8 y j with
    |some t=>match get tm t with
     |.bool c=>match c==a with
      |true=>FV P ge ti b A z k i o x un tm l λx un tm l=>SD P ge ti b A N z y K rest x un tm l
      |false=>match k with
       |.al _=>False
       |.tp=>False
       |.tl=>lD (Ch un) l λl=>kB tm o.dst (.bZ []) λtm=>SD P ge ti b A N z y K rest [] [] tm l
       |_=>kB tm o.dst (.bZ []) λtm=>SD P ge ti b A N z y K rest x un tm l
     |.bZ []=>match k with
      |.al _=>False
      |.tp=>False
      |.tl=>lD (Ch un) l λl=>kB tm o.dst (.bZ []) λtm=>SD P ge ti b A N z y K rest [] [] tm l
      |_=>kB tm o.dst (.bZ []) λtm=>SD P ge ti b A N z y K rest x un tm l
     |_=>False
    |none=>False
  |false=>False
 |none=>False):=rfl
structure aaM(A:List Nm)(l:HL)(un:Un):Prop where
 un:∀u∈un,u.2.1∈A/\aN l u.2.1=none
def au7(x:ow P ti){t off j y}(h:ta ti l t off j y):fY P (aN l) t (.eU j off)=some y:=by
 unfold ta at h;split at h
 .rename_i cs z
  grind [cQ,lC,fY]
 .exact h.elim
def Good(ti:Nat->T TE)(p:Hp->Prop)(q:Nm×Nat×Nat×G×Nat)(l:HL):Prop:=(aN l q.1).isSome=true/\∀l':HL,(aN l' q.1=aN l q.1\/ta ti l' q.2.1 q.2.2.1 q.1 q.2.2.2.1)->p (aN l')
def wj.iK{ch}:∀{x},wj ti l ch x->∀q∈x,q.1∈ch->ta ti l q.2.1 q.2.2.1 q.1 q.2.2.2.1
 | [],_,q,h,_=>by simp at h
 |(j,t,off,y,_)::r,k,q,h,z=>by
  simp only[wj]at k;rcases BV.1 h with rfl|h
  .rw[pc.2 z]at k;exact k.1
  .split at k
   .exact wj.iK k.2 q h z
   .exact wj.iK k q h z
def Good.step{p q l' ch}(h:Good ti p q l)(y:vg b l l' ch)(a:q.1∈ch->ta ti l' q.2.1 q.2.2.1 q.1 q.2.2.2.1):Good ti p q l':=by
 refine⟨y.2.1 _ h.1,λx hl=>?_⟩;by_cases z:q.1∈ch
 .refine h.2 x (.inr ?_)
  grind [ta,cQ]
 .refine h.2 x ?_;rcases hl with hl|hl
  .exact .inl (by rw[hl,y.1 _ h.1 z])
  .exact .inr hl
def vj{j}:∀{un},(∀u∈un,u.2.1≠j)->aN (Ch un++l) j=aN l j
 | [],_=>rfl
 |(i,k,cs)::un,h=>by
  simp only[Ch,LX,aN];rw[BY (λe=>h (i,k,cs) NP e.symm)];exact vj (λu hu=>h u (by simp[hu]))
def Good.app{p q un}(h:Good ti p q l)(y:∀u∈un,aN l u.2.1=none):Good ti p q (Ch un++l):=by
 have e:aN (Ch un++l) q.1=aN l q.1:=vj λu hu e=>by
  grind [h.1]
 exact⟨by rw[e];exact h.1,λl' x=>h.2 l' (by rw[e]at x;exact x)⟩
def agU{o}{pd:U (Nat×(Hp->Prop))}{p}(hp:p∈pd):p∈pd.filter (λp=> !y4 o p.1)\/y4 o p.1=true:=by
 grind
def SD.cb(z:ow P ti){gs A d K}(hA:∀j∈A,j.1=1/\j.2<b):∀rest{pend un tm l},
 SD P ge ti b A N gs d.toList K rest pend un tm l->aaM A l un->∀pd,(∀p∈pd,(∀h,p.2 h)\/∃q∈pend,q.2.2.2.2=p.1/\Good ti p.2 q l)->DR P ge 1 A N d (LK K) rest pd un tm (aN l)
 | [],pend,un,tm,l,h,_,pd,_=>⟨rfl,_,iF l un,eG _ h⟩
 |(i,k)::rest,pend,un,tm,l,h,y,pd,f=>by
  have hF:RH (FA 1 A) b:=λj h=>by
   rcases h with h|h
   .exact .inl h
   .exact .inr (hA j h)
  have s:∀p∈(i,λ_:Hp=>True)::pd,(∀h,p.2 h)\/∃q∈pend,q.2.2.2.2=p.1/\Good ti p.2 q l:=by
   intro p hp;rcases BV.1 hp with rfl|hp
   .exact .inl λ_=>trivial
   .exact f p hp
  rw[awl]at h;split at h
  .rename_i o ho;rw[dJ,anK]at ho;split at h
   .rename_i hd;simp only[DR];have JG:FV P ge ti b A gs k i o pend un tm l (λpend un tm l=>SD P ge ti b A N gs d.toList K rest pend un tm l)->
     match k with
     |.fl=>∃x S,Ev P ge o tm S x/\Up S/\S (aN l)/\DR P ge 1 A N d (LK K) rest ((i,S)::pd) un (put tm o.dst x) (aN l)
     |.al j=>j.1=1/\j∈A/\(∀u∈un,u.2.1≠j)/\∃cs t,o.op= .alloc t/\jK P t=some cs/\aN l j=none/\DR P ge 1 A N d (LK K) rest ((i,λ_=>True)::pd) ((i,j,cs)::un) (put tm o.dst (.eU j 0)) (aN l)
     |.ch=>eW P ge (FA 1 A) o tm (aN l) λx hp'=>(∀p∈pd.filter (λp=> !y4 o p.1),p.2 hp')/\(∀u∈un,hp' u.2.1=none)/\DR P ge 1 A N d (LK K) rest (pd.filter (λp=> !y4 o p.1)) un (put tm o.dst x) hp'
     |.tl=>eW P ge (FA 1 A) o tm (da (aN l) un) λx hp'=>DR P ge 1 A N d (LK K) rest [] [] (put tm o.dst x) hp'
     |.tp=>(∀p∈pd,p.2 (da (aN l) un))/\eW P ge (FA 1 A) o tm (da (aN l) un) λx hp'=>(∀p∈pd,p.2 hp')/\DR P ge 1 A N d (LK K) rest pd [] (put tm o.dst x) hp':=by
     intro h;unfold FV at h;cases k with
     |fl=>
      simp only at h |-;obtain⟨S,x,dep,h1,h2,h3,h4,hs,h5⟩:=Kc.cb z h;refine⟨x,S,h1,h2,h3,?_⟩;have h5:=eo (gz h5).iK;refine SD.cb z hA rest h5 y _ λp hp=>?_
      cases dep with
      |none=>
       rcases BV.1 hp with rfl|hp
       .exact .inl λhq=>h4 hq (λj hj=>by simp at hj)
       .exact f p hp
      |some j=>
       obtain⟨aob,t,a,off,v,ha,hS⟩:=hs j rfl;have aoc:H1 i ge tm o x (some j) pend=(j,t,off,x,i)::pend:=by simp[H1,v,ha]
       rw[aoc];rcases BV.1 hp with rfl|hp
       .refine .inr ⟨(j,t,off,x,i),by simp,rfl,aob,λl' hl=>?_⟩;rcases hl with hl|hl
        .exact h4 _ (λj' L=>by simp at L;subst L;exact hl)
        .exact hS _ (au7 z hl)
       .rcases f p hp with h|⟨q,hq,r,h⟩
        .exact .inl h
        .exact .inr ⟨q,by simp[hq],r,h⟩
     |al j=>
      simp only at h |-;split at h
      .rename_i t v;split at h
       .rename_i te hte;split at h
        .rename_i n;simp only[BR]at n;have w:=pc.1 n.1.1;have akc:=s9 n.1.2;have Q:aN l j=none:=by
          have:=n.2;rw[cQ];unfold qK at this;split at this
          .assumption
          .simp at this
         refine⟨(hA j w).1,w,akc,te.zero,t,v,(z t te hte).zc,Q,SD.cb z hA rest (eo (gi _ h)) ⟨λu hu=>?_⟩ _ s⟩;rcases BV.1 hu with rfl|hu
         .exact⟨w,Q⟩
         .exact y.un u hu
        .exact h.elim
       .exact h.elim
      .exact h.elim
     |ch=>
      simp only at h |-;refine eW.mono (SX.cb z hF h) λx hp'⟨l',ch,e,n,k⟩=>?_
      subst e;obtain⟨C,k⟩:=k;have C:=C.iK;have X:∀u∈un,aN l' u.2.1=none:=λu hu=>by
       obtain⟨h1,h2⟩:=y.un u hu;cases hh:aN l' u.2.1 with
       |none=>rfl
       |some q=>
        have:=n.2.2 u.2.1 (by simp[h2]) (by simp[hh]);have h3:=hA _ h1;omega
      have m:∀p∈pd.filter (λp=> !y4 o p.1),(∀h,p.2 h)\/∃q∈td o pend,q.2.2.2.2=p.1/\Good ti p.2 q l':=λp hp=>by
       obtain⟨hp,hk⟩:=Lk.1 hp;rcases f p hp with h|⟨q,hq,r,h⟩
       .exact .inl h
       .have hq:=qg (o:=o) q hq (by rw[r];simpa using hk);exact .inr ⟨q,hq,r,h.step n (C q hq)⟩
      refine⟨λp hp=>?_,X,SD.cb z hA rest (eo (gz k).iK) ⟨λu hu=>⟨(y.un u hu).1,X u hu⟩⟩ _ m⟩;rcases m p hp with h|⟨q,_,_,h⟩
      .exact h _
      .exact h.2 l' (.inl rfl)
     |tl=>
      simp only at h |-;rw[iF];refine eW.mono (SX.cb z hF (eG _ h)) λx hp'⟨l',ch,e,n,k⟩=>?_
      subst e;exact SD.cb z hA rest (eo (gz k).iK) ⟨by simp⟩ _ NP
     |tp=>
      simp only at h |-;rw[iF];have aod:∀p∈pd,(∀h,p.2 h)\/∃q∈pend,q.2.2.2.2=p.1/\Good ti p.2 q (Ch un++l):=λp hp=>by
       rcases f p hp with h|⟨q,hq,r,h⟩
       .exact .inl h
       .exact .inr ⟨q,hq,r,h.app λu hu=>(y.un u hu).2⟩
      refine⟨λp hp=>?_,eW.mono (SX.cb z hF (eG _ h)) λx hp'⟨l',ch,e,n,k⟩=>?_⟩
      .rcases aod p hp with h|⟨q,_,_,h⟩
       .exact h _
       .exact h.2 _ (.inl rfl)
      subst e;obtain⟨C,k⟩:=k;have C:=C.iK;have m:∀p∈pd,(∀h,p.2 h)\/∃q∈pend,q.2.2.2.2=p.1/\Good ti p.2 q l':=λp hp=>by
       rcases aod p hp with h|⟨q,hq,r,h⟩
       .exact .inl h
       .exact .inr ⟨q,hq,r,h.step n (C q hq)⟩
      refine⟨λp hp=>?_,SD.cb z hA rest (eo (gz k).iK) ⟨by simp⟩ _ m⟩;rcases m p hp with h|⟨q,_,_,h⟩
      .exact h _
      .exact h.2 l' (.inl rfl)
    split at h
    .rename_i hg;refine⟨o,ho,hd,true,by simp[ik,hg],?_⟩;have g:=JG h;cases k with
     |fl=>exact⟨by simp,λ_=>g⟩
     |al j=>exact⟨rfl,g⟩
     |ch=>exact⟨_,λp hp=>(Lk.1 hp).1,λp hp=>agU hp,by simp,λ_=>g⟩
     |tl=>exact⟨by simp,λ_=>g⟩
     |tp=>exact⟨g.1,by simp,λ_=>g.2⟩
    .rename_i j aji hg;split at h
     .rename_i t D;rw[zm]at D;split at h
      .rename_i c hb;refine⟨o,ho,hd,(c==aji),by simp[ik,hg,D,hb],?_⟩;cases hbw:(c==aji)with
       |true=>
        rw[hbw]at h;have g:=JG h;cases k with
        |fl=>exact⟨by simp,λ_=>g⟩
        |al j=>exact⟨rfl,g⟩
        |ch=>exact⟨_,λp hp=>(Lk.1 hp).1,λp hp=>agU hp,by simp,λ_=>g⟩
        |tl=>exact⟨by simp,λ_=>g⟩
        |tp=>exact⟨g.1,by simp,λ_=>g.2⟩
       |false=>
        rw[hbw]at h;cases k with
        |fl=>exact⟨λ_=>SD.cb z hA rest (eo h) y _ s,by simp⟩
        |al j=>exact h.elim
        |tp=>exact h.elim
        |ch=>exact⟨pd,λ_ hp=>hp,λ_ hp=>.inl hp,λ_=>SD.cb z hA rest (eo h) y _ f,by simp⟩
        |tl=>exact⟨λ_=>by rw[iF];exact SD.cb z hA rest (eo (eG _ h)) ⟨by simp⟩ _ NP,by simp⟩
      .rename_i hb;refine⟨o,ho,hd,false,by simp[ik,hg,D,hb],?_⟩;cases k with
       |fl=>exact⟨λ_=>SD.cb z hA rest (eo h) y _ s,by simp⟩
       |al j=>exact h.elim
       |tp=>exact h.elim
       |ch=>exact⟨pd,λ_ hp=>hp,λ_ hp=>.inl hp,λ_=>SD.cb z hA rest (eo h) y _ f,by simp⟩
       |tl=>exact⟨λ_=>by rw[iF];exact SD.cb z hA rest (eo (eG _ h)) ⟨by simp⟩ _ NP,by simp⟩
      .exact h.elim
     .exact h.elim
   .exact h.elim
  .exact h.elim
end
section
variable {P:Program}{ge:GE}{d N:Nat}{tm:Tm}{l:HL}{ti:Nat->T TE}{Q:fX}
abbrev KC:=Exit->Tm->HL->Prop
def LC(K:KC):fX:=λe tm hp=>∃l,hp=aN l/\K e tm l
structure DO where
 bA:List (Nat×DK)
 A:List Nm
 b:Nat
def DO.ok(q:DO)(x:Array Oper)(N:Nat):At:=AO x q.bA&&(x.all λo=>iO N o.dst)&&q.A.all λj=>Nat.beq j.1 1&&Nat.blt j.2 q.b
noncomputable def SC(P:Program)(ge:GE)(ti:Nat->T TE)(N:Nat)(c:Code):KC->Tm->HL->Prop:=
 Code.rec (motive:=λ_=>KC->Tm->HL->Prop)
  (λK tm l=>K .normal tm l)
  (λ_ z AP K tm l=>match AP with
   |false=>HZ z.toList z.toList λf=>SR P ge ti N f z.toList (λtm l=>K .normal tm l) z.toList tm l
   |true=>∃q:DO,q.ok z N=true/\HZ z.toList z.toList λf=>SD P ge ti q.b q.A N f z.toList (λtm l=>K .normal tm l) q.bA [] [] tm l)
  (λ_ _ a d K tm l=>a (λe tm l=>match e with
   |.normal=>d K tm l
   |e=>K e tm l) tm l)
  (λc x y a d K tm l=>(match bP ge tm c with
   |.bool b=>(b=true->a K tm l)/\(b=false->d K tm l)
   |_=>False)\/br P ge 1 N (.cond c x y) (LC K) tm (aN l))
  (λi c g K tm l=>g (λe tm l=>match e with
   |.exit j=>cond (Nat.beq j i) (K .normal tm l) (K (.exit j) tm l)
   |e=>K e tm l) tm l\/br P ge 1 N (.block i c) (LC K) tm (aN l))
  (λc _ K tm l=>br P ge 1 N (.loop c) (LC K) tm (aN l))
  (λ_ _ _ _ _ _ _ _ _=>False)
  (λi K tm l=>K (.exit i) tm l)
  (λ_ _ _ _ _=>False)
  (λ_ K tm l=>K .normal tm l)
  (λ_ _ _ _=>False)
  (λK tm l=>K .ret tm l)
  (λ_ _ _ _=>False) c
section
variable {K:KC}
def avq{id x AP}:SC P ge ti N (.region id x AP) K tm l=(match AP with
 |false=>HZ x.toList x.toList λy=>SR P ge ti N y x.toList (K .normal) x.toList tm l
 |true=>∃q:DO,q.ok x N=true/\HZ x.toList x.toList λy=>SD P ge ti q.b q.A N y x.toList (K .normal) q.bA [] [] tm l):=rfl
def aba{x y}:SC P ge ti N (.seq x y) K tm l=SC P ge ti N x (λe tm l=>match e with
 |.normal=>SC P ge ti N y K tm l
 |e=>K e tm l) tm l:=rfl
def awk{c x y}:SC P ge ti N (.cond c x y) K tm l=((match bP ge tm c with
 |.bool b=>(b=true->SC P ge ti N x K tm l)/\(b=false->SC P ge ti N y K tm l)
 |_=>False)\/br P ge 1 N (.cond c x y) (LC K) tm (aN l)):=rfl
def aaQ{i c}:SC P ge ti N (.block i c) K tm l=(SC P ge ti N c (λe tm l=>match e with
 |.exit j=>cond (Nat.beq j i) (K .normal tm l) (K (.exit j) tm l)
 |e=>K e tm l) tm l\/br P ge 1 N (.block i c) (LC K) tm (aN l)):=rfl
end
structure zn(P:Program)(ti:Nat->Option TE):Prop where
 tt:ow P ti
 QB:P.follows .mixedOrders=true
def SC.cb(E:zn P ti):∀c{K tm l},SC P ge ti N c K tm l->br P ge 1 N c (LC K) tm (aN l)
 |.skip,K,tm,l,h=>br.skip ⟨l,rfl,h⟩
 |.label _,K,tm,l,h=>br.label ⟨l,rfl,h⟩
 |.exit i,K,tm,l,h=>br.exit ⟨l,rfl,h⟩
 |.ret,K,tm,l,h=>br.ret ⟨l,rfl,h⟩
 |.region id a AP,K,tm,l,h=>by
  rw[avq]at h;split at h
  .obtain⟨d,h⟩:=kC _ h;refine(af4 (SR.cb E.tt h)).mono ?_;rintro e tm hp ⟨rfl,l,rfl,h⟩;exact⟨l,rfl,h⟩
  .obtain⟨q,hq,h⟩:=h;obtain⟨d,h⟩:=kC _ h;simp only[DO.ok,BR,u6]at hq;have hA:∀j∈q.A,j.1=1/\j.2<q.b:=λj f=>by
    have:=H0.1 hq.2 j f;simp only[BR]at this;exact⟨FU this.1,J1 this.2⟩
   refine(aeU q.bA q.A E.QB hq.1.1 hq.1.2 (SD.cb E.tt hA q.bA h ⟨by simp⟩ [] NP)).mono ?_;rintro e tm hp ⟨rfl,l,rfl,h⟩;exact⟨l,rfl,h⟩
 |.seq x y,K,tm,l,h=>by
  rw[aba]at h;refine br.seq ((SC.cb E x h).mono ?_);rintro e tm hp ⟨l,rfl,h⟩;cases e with
  |normal=>exact SC.cb E y h
  |_=>exact⟨l,rfl,h⟩
 |.cond c x y,K,tm,l,h=>by
  rw[awk]at h;rcases h with h|h
  .split at h
   .rename_i b z;exact br.cond z (λe=>SC.cb E x (h.1 e)) (λe=>SC.cb E y (h.2 e))
   .exact h.elim
  .exact h
 |.block i c,K,tm,l,h=>by
  rw[aaQ]at h;rcases h with h|h
  .refine br.block ((SC.cb E c h).mono ?_);rintro e tm hp ⟨l,rfl,h⟩;cases e with
   |exit j=>
    simp only[ky];cases z:Nat.beq j i with
    |true=>rw[BX (FU z)];dsimp only at h;rw[z]at h;exact⟨l,rfl,h⟩
    |false=>rw[BY (λe=>by subst e;simp at z)];dsimp only at h;rw[z]at h;exact⟨l,rfl,h⟩
   |_=>exact⟨l,rfl,h⟩
  .exact h
 |.loop c,K,tm,l,h=>h
 |.rangeFunc ..,K,tm,l,h=>h.elim
 |.scope ..,K,tm,l,h=>h.elim
 |.goto ..,K,tm,l,h=>h.elim
 |.refuse ..,K,tm,l,h=>h.elim
def Wk(d N:Nat)(tm:Tm)(hp:Hp)(x:Tm)(y:Hp):Prop:=∀g fr w tmps,AF d fr->gh g w hp fr->VT g N tm tmps->∃g',AV.nk (ol d) g g'/\gh g' w y fr/\VT g' N x tmps
def hT{c z hp}(h:br P ge d N c z tm hp)(hq:∀e tm hp,z e tm hp->∃x y,Wk d N tm hp x y/\Q e x y):br P ge d N c Q tm hp:=
 λg fr w a f r k v b=>LS (h g fr w a f r k v b) λe i w'⟨g',tm,hp,j,l,m,n,o⟩=>by
  obtain⟨x,y,p,q⟩:=hq e tm hp o;obtain⟨s,k1,t,u⟩:=p g' fr w' i.tmps f l m;exact⟨s,x,y,j.trans k1,t,u,n,q⟩
mutual
theorem AK {S D:Nm->Prop}:(x:G)->x.aM S->x.aM D->x.aM (λj=>S j/\D j)
 |.bool _,_,_=>trivial
 |.int _ _,_,_=>trivial
 |.str _,_,_=>trivial
 |.eM,_,_=>trivial
 |.eU j off,e,f=>by simp only[G.aM]at e f |-;exact⟨e,f⟩
 |.aS cs off,e,f=>by simp only[G.aM]at e f |-;exact px cs e f
 |.sl sz tok xs,e,f=>by
  simp only[G.aM]at e f |-;refine⟨?_,px xs e.2 f.2⟩;cases tok<;>simp only[jV.aM]at e f |-
  grind
 |.ms j _ _,e,f=>by simp only[G.aM]at e f |-;exact⟨e,f⟩
 |.sub j _ _ _ _,e,f=>by simp only[G.aM]at e f |-;exact⟨e,f⟩
 |.dP,_,_=>trivial
 |.map j,e,f=>by simp only[G.aM]at e f |-;exact⟨e,f⟩
 |.fn _ a b,e,f=>by simp only[G.aM]at e f |-;exact⟨px a e.1 f.1,px b e.2 f.2⟩
 |.bX,_,_=>trivial
 |.iface t v,e,f=>by simp only[G.aM]at e f |-;exact AK v e f
 |.nilIface,_,_=>trivial
 |.agg cs,e,f=>by simp only[G.aM]at e f |-;exact px cs e f
 |.bZ cs,e,f=>by simp only[G.aM]at e f |-;exact px cs e f
 |.any,_,_=>trivial
 |.mR _,_,_=>trivial
theorem px {S D:Nm->Prop}:(xs:U G)->hH S xs->hH D xs->hH (λj=>S j/\D j) xs
 | [],_,_=>trivial
 |x::xs,e,f=>by simp only[hH]at e f |-;exact⟨AK x e.1 f.1,px xs e.2 f.2⟩
end
def af5{S D}{o:bB}(e:o.aM S)(f:o.aM D):o.aM (λj=>S j/\D j):=by
 cases o with
 |cells cs=>exact px cs e f
 |map y=>exact λx hx=>⟨AK _ (e x hx).1 (f x hx).1,AK _ (e x hx).2 (f x hx).2⟩
 |tail=>trivial
 |sG=>trivial
 |yB i=>exact⟨e,f⟩
 |bD sz xs=>exact px xs e f
def vo{S}:∀{y},(∀p∈y,p.2.aM S)->∀t,(get y t).aM S
 | [],_,t=>trivial
 |(i,x)::y,h,t=>by
  rw[ff];split
  .exact h (i,x) NP
  .exact vo (λp hp=>h p (by simp[hp])) t
theorem dr d N tm hp:Wk d N tm hp tm hp:=λg _ _ _ _ r v=>⟨g,AV.nk.refl _ g,r,v⟩
def br.wk{c hp x y}(k:Wk d N tm hp y x)(h:br P ge d N c Q y x):br P ge d N c Q tm hp:=u4 h k
class pf(j:Nm)(S:List Nm):Prop where
 out:j∈S
instance (j:Nm)S:pf j (j::S):=⟨by simp⟩
instance (i j:Nm)S[h:pf j S]:pf j (i::S):=⟨by simp[h.out]⟩
instance (j:Nm)S AU[h:pf j S]:pf j (S++AU):=⟨by simp[h.out]⟩
instance (j:Nm)S AU[h:pf j AU]:pf j (S++AU):=⟨by simp[h.out]⟩
class UN(S:List Nm)(x:G):Prop where
 out:x.aM (λj=>j∈S)
class eL(S:List Nm)(xs:List G):Prop where
 out:hH (λj=>j∈S) xs
class UO(S:List Nm)(o:bB):Prop where
 out:o.aM (λj=>j∈S)
class Pl{X:Type}(f:X->G):Prop where
 out:∀x,(f x).aM p9
variable {S:U Nm}
instance (b:At):UN S (.bool b):=⟨trivial⟩
instance (k:IntKind)n:UN S (.int k n):=⟨trivial⟩
instance (s:Z):UN S (.str s):=⟨trivial⟩
instance:UN S .eM:=⟨trivial⟩
instance:UN S .bX:=⟨trivial⟩
instance:UN S .any:=⟨trivial⟩
instance (l:U (U Value)):UN S (.mR l):=⟨trivial⟩
instance (j:Nm)n[h:pf j S]:UN S (.eU j n):=⟨by simp only[G.aM];exact h.out⟩
instance (j:Nm)a n[h:pf j S]:UN S (.ms j a n):=⟨by simp only[G.aM];exact h.out⟩
instance (j:Nm)a b n m[h:pf j S]:UN S (.sub j a b n m):=⟨by simp only[G.aM];exact h.out⟩
instance (j:Nm)[h:pf j S]:UN S (.map j):=⟨by simp only[G.aM];exact h.out⟩
instance (a:Nat)xs[h:eL S xs]:UN S (.sl a .no xs):=⟨by simp only[G.aM];exact⟨trivial,h.out⟩⟩
instance (a:Nat)xs[h:eL S xs]:UN S (.sl a .fu xs):=⟨by simp only[G.aM];exact⟨trivial,h.out⟩⟩
instance (a:Nat)j xs[m:pf j S][h:eL S xs]:UN S (.sl a (.tail j) xs):=⟨by simp only[G.aM];exact⟨m.out,h.out⟩⟩
instance (xs:U G)n[h:eL S xs]:UN S (.aS xs n):=⟨by simp only[G.aM];exact h.out⟩
instance (xs:U G)[h:eL S xs]:UN S (.agg xs):=⟨by simp only[G.aM];exact h.out⟩
instance (xs:U G)[h:eL S xs]:UN S (.bZ xs):=⟨by simp only[G.aM];exact h.out⟩
instance (f:Fn)xs ys[h:eL S xs][k:eL S ys]:UN S (.fn f xs ys):=⟨by simp only[G.aM];exact⟨h.out,k.out⟩⟩
instance:eL S []:=⟨trivial⟩
instance (x:G)xs[h:UN S x][k:eL S xs]:eL S (x::xs):=⟨by simp only[hH];exact⟨h.out,k.out⟩⟩
theorem eP{S}:∀{xs},hH S xs↔∀x∈xs,x.aM S
 | []=>by simp[hH]
 |x::xs=>by simp[hH,eP (xs:=xs)]
instance {z}f(xs:U z)[h:Pl f]:eL S (xs.map f):=⟨by
 rw[eP];intro x hx;obtain⟨y,_,rfl⟩:=Hr.1 hx;exact lA (λ_ h=>h.elim) _ (h.out y)⟩
instance (xs ys:U G)[h:eL S xs][k:eL S ys]:eL S (xs++ys):=⟨by
 rw[eP];intro x hx;rcases Hy.1 hx with hx|hx
 .exact eP.1 h.out x hx
 .exact eP.1 k.out x hx⟩
instance:Pl G.str:=⟨λ_=>trivial⟩
instance (k:IntKind):Pl (G.int k):=⟨λ_=>trivial⟩
instance (cs:U G)[h:eL S cs]:UO S (.cells cs):=⟨h.out⟩
instance (a n:Nat):UO S (.tail a n):=⟨trivial⟩
instance (s:Z)n:UO S (.sG s n):=⟨trivial⟩
instance (j:Nm)[h:pf j S]:UO S (.yB j):=⟨h.out⟩
instance (m:Nat)cs[h:eL S cs]:UO S (.bD m cs):=⟨h.out⟩
class ZE(S:List Nm)(tm:Tm):Prop where
 out:∀p∈tm,p.2.aM (λj=>j∈S)
instance:ZE S []:=⟨by simp⟩
instance (i:Nat)x tm[h:UN S x][k:ZE S tm]:ZE S ((i,x)::tm):=⟨by
 intro p hp;rcases BV.1 hp with rfl|hp
 .exact h.out
 .exact k.out p hp⟩
class UH(S:List Nm)(l:HL):Prop where
 out:∀p∈l,p.2.aM (λj=>j∈S)
instance:UH S []:=⟨by simp⟩
instance (j:Nm)o l[h:UO S o][k:UH S l]:UH S ((j,o)::l):=⟨by
 intro p hp;rcases BV.1 hp with rfl|hp
 .exact h.out
 .exact k.out p hp⟩
instance (a b:HL)[h:UH S a][k:UH S b]:UH S (a++b):=⟨by
 intro p hp;rcases Hy.1 hp with hp|hp
 .exact h.out p hp
 .exact k.out p hp⟩
class Ns(l:HL)(S:outParam (List Nm)):Prop where
 out:S=l.map (·.1)
instance:Ns [] []:=⟨rfl⟩
instance (j:Nm)o l S[h:Ns l S]:Ns ((j,o)::l) (j::S):=⟨by simp[h.out]⟩
instance (a b:HL)S AU[h:Ns a S][k:Ns b AU]:Ns (a++b) (S++AU):=⟨by simp[h.out,k.out]⟩
class UT(tm:Tm)(l:HL):Prop where
 kO:∀p∈tm,p.2.aM (λj=>(aN l j).isSome=true)
 FX:∀p∈l,p.2.aM (λj=>(aN l j).isSome=true)
def db:∀{l j},(aN l j).isSome=true↔j∈l.map (·.1)
 | [],j=>by simp[aN]
 |(i,o)::l,j=>by
  simp only[aN,Hx,BV];split
  .rename_i e;simp[e]
  .rename_i e;rw[db];simp[e]
def pg:∀{l j o},aN l j=some o->(j,o)∈l
 | [],j,o,h=>by simp[aN]at h
 |(i,p)::l,j,o,h=>by
  simp only[aN]at h;split at h
  .rename_i e;subst e;simp at h;subst h;simp
  .exact List.mem_cons_of_mem _ (pg h)
instance (tm:Tm)(l:HL)(S:U Nm)[n:Ns l S][h:ZE S tm][k:UH S l]:UT tm l where
 kO p hp:=lA (λj x=>db.2 (by rw[<-n.out];exact x)) _ (h.out p hp)
 FX p hp:=qs (λj x=>db.2 (by rw[<-n.out];exact x)) (k.out p hp)
def hU(l:HL):HL->Prop
 | []=>True
 |(j,o)::r=>(match lk l j with
  |some p=>jk p o
  |none=>False)/\hU l r
def hU.iK:∀{r},hU l r->∀j o,aN r j=some o->∃p,aN l j=some p/\jk p o
 | [],_,j,o,h=>by simp[aN]at h
 |(i,q)::r,k,j,o,h=>by
  simp only[hU]at k;simp only[aN]at h;split at h
  .rename_i e;subst e;simp at h;subst h;have:=k.1;split at this
   .rename_i p hp;exact⟨p,by rw[cQ];exact hp,this⟩
   .exact this.elim
  .exact hU.iK k.2 j o h
def kD(lo:HL):HL->At
 | []=>true
 |(j,_)::r=>(Nat.ble 1 j.1|| !qK lo j)&&kD lo r
def tf{lo}:∀{r},kD lo r=true->∀j,(aN r j).isSome=true->j.1<1->(aN lo j).isSome=true
 | [],_,j,h,_=>by simp[aN]at h
 |(i,q)::r,k,j,h,x=>by
  simp only[kD,BR,K5]at k;simp only[aN]at h;split at h
  .rename_i e;subst e;rcases k.1 with h1|h1
   .have:=J1 h1;omega
   .rw[cQ];unfold qK at h1;split at h1
    .simp at h1
    .rename_i hp;simp[hp]
  .exact tf k.2 j h x
def lQ(tm:Tm)(l:HL)(x:Tm)(lo:HL):Prop:=kD lo l=true/\hU l lo/\kA tm x
def lQ.wk{y lo}[u:UT y lo](h:lQ tm l y lo):Wk 1 N tm (aN l) y (aN lo):=by
 intro g fr w tmps n r v;obtain⟨q,s,A⟩:=h
 let hq:Hp:=λj=>match aN lo j with
  |some o=>some o
  |none=>aN l j
 have hs:HSub (aN l) hq:=λj=>by
  simp only[hq];cases e:aN lo j with
  |none=>cases aN l j<;>simp[jk.refl]
  |some o=>
   obtain⟨p,hp,c⟩:=s.iK j o e;simp only[hp];exact c
 have C:dy g w (bG hq fr):=r.rel.ez hs.bG;have z:AD (aN lo) hq:=λj o e=>by simp only[hq,e]
 have a:gp hq fr:=λj=>by
  rcases r.cM j with e|e
  .left;have:=hs.isSome j;cases e2:hq j with
   |none=>rfl
   |some o=>rw[e,e2]at this;simp at this
  .exact .inr e
 have d:gp (aN lo) fr:=λj=>by
  cases e:aN lo j with
  |none=>exact .inl rfl
  |some o=>exact .inr (a.none (z j o e))
 let X:Nm->Prop:=λj=>(bG (aN lo) fr j).isSome=true
 have ez:∀j,(aN lo j).isSome=true->X j:=λj x=>by
  cases e:aN lo j with
  |none=>simp[e]at x
  |some o=>simp[X,bG,e]
 have b:∀j,j.1<1->g.dC j->X j:=λj x D=>by
  have:=(r.rel.dC j).1 D;cases e:aN l j with
  |some o=>
   exact ez j (tf q j CD x)
  |none=>
   rw[bM e]at this;cases e2:aN lo j with
   |some o=>exact ez j (by simp[e2])
   |none=>simp only[X];rw[bM e2];exact this
 have K:∀j,(fr j).isSome=true->X j:=λj x=>by
  cases e2:aN lo j with
  |some o=>exact ez j (by simp[e2])
  |none=>simp only[X];rw[bM e2];exact x
 have f:∀j o,bG (aN lo) fr j=some o->o.aM X:=by
  intro j o x;cases e:aN lo j with
  |some p=>
   rw[aK e]at x;simp at x;subst x;exact qs ez (u.FX _ (pg e))
  |none=>
   rw[bM e]at x;have k:bG (aN l) fr j=some o:=by
    rcases r.cM j with e2|e2
    .rw[bM e2];exact x
    .rw[e2]at x;simp at x
   exact qs (λi m=>b i m.2 m.1) (af5 (r.rel.fR j o k).aM (n.jt j o x))
 exact⟨g.cut X,⟨rfl,rfl,λ_=>K4,b,λ_ _ _=>rfl,λ_ _ _=>.inl rfl⟩,⟨C.cut (AD.bG fr z a) f,d⟩,v.1,λt=>by
  have:=ac.sub (A.yW t) _ (v.2 t);refine ac.cut _ _ this ?_;exact lA ez _ (vo u.kO t)⟩
end
section
variable {P:Program}{ge:GE}{N b:Nat}{tm:Tm}{l:HL}{ti:Nat->T TE}{α σ ρ τ:Type}
def VJ(y:α->Tm)(lo:α->HL)(x:α⊕ρ)(K:KC):KC:=λe tm l=>match e with
 |.normal=>∃v,x= .inl v/\lQ tm l (y v) (lo v)
 |e=>∃r,x= .inr r/\K e tm l
def br.jn(E:zn P ti){c K}y lo[u:∀a,UT (y a) (lo a)]{x:α⊕ρ}(h:SC P ge ti N c (VJ y lo x K) tm l)
 (k:∀v,x= .inl v->K .normal (y v) (lo v)):br P ge 1 N c (LC K) tm (aN l):=
 hT (SC.cb E c h) λe tm hp⟨l,e1,q⟩=>by
  subst e1;cases e with
  |normal=>obtain⟨v,z,b⟩:=q;exact⟨_,_,b.wk,_,rfl,k v z⟩
  |_=>obtain⟨r,_,q⟩:=q;exact⟨tm,_,dr _ _ _ _,l,rfl,q⟩
def vu:U Oper->Nat->(U Oper->Prop)->Prop
 |r,0,K=>K r
 | [],_+1,K=>K []
 |_::r,n+1,K=>vu r n K
def tg:∀r n{K},vu r n K->K (r.drop n)
 | [],0,_,h=>h
 |_::_,0,_,h=>h
 | [],_+1,_,h=>h
 |_::r,n+1,_,h=>tg r n h
def qe.wk{x Q r y hp z}(k:Wk 1 N tm hp y z)(h:qe P ge N x Q r y z):qe P ge N x Q r tm hp:=
 λg c fr w a f l r d v e=>by
  obtain⟨g',b,i,j⟩:=k g fr w a.tmps f r v;exact h g' c fr w a f (l.trans b) i (d.sH b) j e
def qe.jn(E:zn P ti){b y K0 r}n(z:α->Tm)(lo:α->HL)[u:∀a,UT (z a) (lo a)]{x}
 (h:uw P ge ti N b y.toList (λtm l=>lQ tm l (z x) (lo x)) K0 r n tm l) (k:vu r n λr=>SR P ge ti N b y.toList K0 r (z x) (lo x)):qe P ge N y (LK K0) r tm (aN l):=
 uw.cb E.tt r n (λ_ _ c=>qe.wk c.wk (SR.cb E.tt (tg r n k))) h
def af6(E:zn P ti){b z K0 r t c}n(y:α->Tm)(lo:α->HL)[u:∀a,UT (y a) (lo a)]x
 (d:c=true->uw P ge ti N b z.toList (λtm l=>lQ tm l (y x) (lo x)) K0 r n ((t,.bool true)::tm) l) (e:c=false->uw P ge ti N b z.toList (λtm l=>lQ tm l (y x) (lo x)) K0 r n ((t,.bool false)::tm) l)
 (k:vu r n λr=>SR P ge ti N b z.toList K0 r (y x) (lo x)):Qz P ge ti N b z (LK K0) r ((t,.bool c)::tm) (aN l):=
 qe.jn E n y lo (x:=x) (by cases c with|true=>exact d rfl|false=>exact e rfl) k
def qX(id:Nat)(z:σ->Tm)(lo:σ->HL)(a:α->Tm)(b:α->HL)(x:α⊕ρ)(y:σ⊕(α⊕ρ))(K:KC):KC:=λe tm l=>match e with
 |.normal=>∃s,y= .inl s/\lQ tm l (z s) (lo s)
 |.exit i=>cond (Nat.beq i id) (∃v,y= .inr (.inl v)/\lQ tm l (a v) (b v)) (∃r,y= .inr (.inr r)/\(x= .inr r->K (.exit i) tm l))
 |e=>∃r,y= .inr (.inr r)/\(x= .inr r->K e tm l)
def A4{id d lo z f}[j:∀a,UT (z a) (f a)]{x}{y:σ⊕(α⊕ρ)}{K e}(g:e≠ .normal)(q:qX id d lo z f x y K e tm l)(hx:∀q,y= .inr q->q=x)(after:∀v,x= .inl v->K .normal (z v) (f v)):∃b hp',Wk 1 N tm (aN l) b hp'/\ky id (LC K) e b hp':=by
 cases e with
 |normal=>exact absurd rfl g
 |exit i=>
  simp only[qX]at q;cases c:Nat.beq i id with
  |true=>
   rw[c]at q;obtain⟨v,e1,k⟩:=q;refine⟨_,_,k.wk,?_⟩;simp only[ky];rw[BX (FU c)];exact⟨_,rfl,after v (hx _ e1).symm⟩
  |false=>
   rw[c]at q;obtain⟨r,e1,q⟩:=q;refine⟨_,_,dr _ _ _ _,?_⟩;simp only[ky];rw[BY (λe=>by subst e;simp at c)];exact⟨l,rfl,q (hx _ e1).symm⟩
 |_=>
  obtain⟨r,e1,q⟩:=q;exact⟨_,_,dr _ _ _ _,l,rfl,q (hx _ e1).symm⟩
def AC(E:zn P ti){id c K}z lo b f[u:∀s,UT (z s) (lo s)][uA:∀a,UT (b a) (f a)]
 {step:σ->T (σ⊕(α⊕ρ))} {n} {s} {x} (h:aV step n s=some x) (hs:lQ tm l (z s) (lo s))
 (round:∀s y,step s=some y->SC P ge ti N c (qX id z lo b f x y K) (z s) (lo s))
 (after:∀v,x= .inl v->K .normal (b v) (f v)):br P ge 1 N (.block id (.loop c)) (LC K) tm (aN l):=by
 refine br.wk hs.wk (br.block (br.loop (λm tm hp=>∃s,tm=z s/\hp=aN (lo s)/\aV step m s=some x) n ⟨s,rfl,rfl,h⟩ ?_));rintro m tm hp ⟨s,rfl,rfl,h⟩;cases m with
 |zero=>simp[aV]at h
 |succ m=>
  simp only[aV]at h;cases hx:step s with
  |none=>simp[hx]at h
  |some y=>
   simp only[hx,B2]at h;refine hT (SC.cb E c (round s y hx)) λe tm hp⟨l,e1,q⟩=>?_
   subst e1;by_cases d:e= .normal
   .subst d;obtain⟨j,rfl,k⟩:=q;exact⟨_,_,k.wk,m,Nat.lt_succ_self _,j,rfl,rfl,h⟩
   .obtain⟨g,i,o,p⟩:=A4 (N:=N) d q (λq e=>by subst e;exact GZ h) after;refine⟨g,i,o,?_⟩;cases e<;>first|exact p|exact absurd rfl d
def bo(f:Nat->τ->σ->T (σ⊕(α⊕ρ)))(p:σ->α):Nat->U τ->σ->T (α⊕ρ)
 |_,[],s=>some (.inl (p s))
 |i,x::xs,s=>(f i x s).bind λ
  |.inl s=>bo f p (i+1) xs s
  |.inr q=>some q
def ux(id:Nat)(x:α->Tm)(y:α->HL)(v:α):KC:=λe tm l=>match e with
 |.exit i=>match Nat.beq i id with
  |true=>lQ tm l (x v) (y v)
  |false=>False
 |_=>False
def VT.qL{g tmps t sz tok L}(v:VT g N tm tmps)(h:Ab.get tm t= .sl sz tok L):L.length<=4611686018427387904:=by
 have:=v.2 t;rw[h]at this;simp only[ac]at this
 grind
def br.qL{d t sz tok L c Q hp}(h:get tm t= .sl sz tok L)(k:L.length<=4611686018427387904->br P ge d N c Q tm hp):br P ge d N c Q tm hp:=λg fr w a f r x v y=>k (v.qL h) g fr w a f r x v y
theorem af7{j i sz tok cs L c Q}(h:lk l j=some (.cells cs))(x:fy cs i=some (.sl sz tok L))(k:L.length<=4611686018427387904->br P ge 1 N c Q tm (aN l)):br P ge 1 N c Q tm (aN l):=
 λg fr w a f r z v b=>k (by
  rw[<-cQ]at h;rw[dJ]at x;obtain⟨vs,_,_,o1,_⟩:=r.rel.fR j _ (aK h);obtain⟨u,_,y⟩:=VL.get cs vs o1 i _ x;simp only[ac]at y;obtain⟨_,_,_,d,_⟩:=y;exact d.2) g fr w a f r z v b
def gq(tm:Tm)(l:HL)(L:U G):Prop:=(∃t sz tok,get tm t= .sl sz tok L)\/∃j i cs sz tok,lk l j=some (.cells cs)/\fy cs i=some (.sl sz tok L)
def Sd{L c Q}(h:gq tm l L)(k:L.length<=4611686018427387904->br P ge 1 N c Q tm (aN l)):br P ge 1 N c Q tm (aN l):=by
 rcases h with⟨t,sz,tok,h⟩|⟨j,i,cs,sz,tok,x,y⟩
 .exact br.qL h k
 grind [af7]
def Ng(E:zn P ti){id c K}(z:Nat->σ->Tm)(lo:Nat->σ->HL)b n[u:∀i s,UT (z i s) (lo i s)][uA:∀a,UT (b a) (n a)]
 {f:Nat->τ->σ->T (σ⊕(α⊕ρ))} {p} {xs} {s} {x} (h:bo f p 0 xs s=some x) (hs:lQ tm l (z 0 s) (lo 0 s))
 {en} (hx:gq (z 0 s) (lo 0 s) (xs.map en))
 (round:∀i v s y,xs[i]?=some v->i<(xs.map en).length->i+1<=4611686018427387904->f i v s=some y->SC P ge ti N c (qX id (z (i+1)) (lo (i+1)) b n x y K) (z i s) (lo i s))
 (stop:∀s,SC P ge ti N c (ux id b n (p s)) (z (xs.map en).length s) (lo (xs.map en).length s))
 (after:∀v,x= .inl v->K .normal (b v) (n v)):br P ge 1 N (.block id (.loop c)) (LC K) tm (aN l):=by
 refine br.wk hs.wk (Sd hx λA=>?_);simp only[B7]at A;refine br.block (br.loop (λm tm hp=>∃i s,i<=xs.length/\m=xs.length+1-i/\tm=z i s/\hp=aN (lo i s)/\bo f p i (xs.drop i) s=some x) (xs.length+1) ⟨0,s,K8 _,rfl,rfl,rfl,by simpa using h⟩ ?_);rintro m tm hp ⟨i,s,hi,rfl,rfl,rfl,h⟩;by_cases d:i<xs.length
 .have C:xs[i]?=some xs[i]:=K6 d;rw[NW d]at h;simp only[bo]at h;cases o:f i xs[i] s with
  |none=>simp[o]at h
  |some y=>
   simp only[o,B2]at h;refine hT (SC.cb E c (round i xs[i] s y C (by simpa using d) B9 o)) λe tm hp⟨l,e1,q⟩=>?_
   subst e1;by_cases g:e= .normal
   .subst g;obtain⟨D,rfl,L⟩:=q;exact⟨_,_,L.wk,xs.length+1-(i+1),by omega,i+1,D,by omega,rfl,rfl,rfl,h⟩
   .obtain⟨r,t,Q,X⟩:=A4 (N:=N) g q (λq e=>by subst e;exact GZ h) after;refine⟨r,t,Q,?_⟩;cases e<;>first|exact X|exact absurd rfl g
 .have w:i=xs.length:=by omega
  subst w;simp only[Ov,bo,Hs]at h;have k:=stop s;simp only[B7]at k;refine hT (SC.cb E c k) λe tm hp⟨l,e1,q⟩=>?_
  subst e1;cases e with
  |exit j=>
   simp only[ux]at q;split at q
   .rename_i hj;have:=FU hj;subst this;refine⟨_,_,q.wk,?_⟩;simp only[uX,ky,J0];exact⟨_,rfl,after _ h.symm⟩
   .exact q.elim
  |_=>exact q.elim
def FY(ti:Nat->T TE)(tm:Tm)(l:HL)(K:U G->Prop):U ResultVar->Prop
 | []=>K []
 |.tmp t::r=>FY ti tm l (λxs=>K (get tm t::xs)) r
 |.cell a t::r=>match get tm a with
  |.eU j off=>match lk l j with
   |some (.cells cs)=>Qx ti t cs off λy=>FY ti tm l (λxs=>K (y::xs)) r
   |_=>False
  |_=>False
def zo:U G->G
 | [x]=>x
 |xs=>.bZ xs
def nB(x:ow P ti):∀r{K},FY ti tm l K r->∃xs,gZ P tm (aN l) r=some xs/\K xs
 | [],K,h=>⟨[],rfl,h⟩
 |.tmp t::r,K,h=>by
  obtain⟨xs,z,b⟩:=nB x r h;exact⟨_,by simp[gZ,oY,z],b⟩
 |.cell a t::r,K,h=>by
  simp only[FY]at h;split at h
  .rename_i j off d;split at h
   .rename_i cs c;rw[<-cQ]at c;obtain⟨g,n,y,k1,e,f,h⟩:=lC x h;obtain⟨xs,z,b⟩:=nB x r h;exact⟨_,by simp[gZ,oY,d,fY,c,k1,e,f,z],b⟩
   .exact h.elim
  .exact h.elim
def qM(k:Nat):U G->(Tm->Prop)->Prop
 | [],K=>K []
 |x::xs,K=>fc x λx=>qM (k+1) xs λr=>K ((k,x)::r)
def mb:∀k xs{K},qM k xs K->K (qH k xs)
 |_,[],_,h=>h
 |k,x::xs,K,h=>mb (k+1) xs (gz (K:=λx=>qM (k+1) xs λr=>K ((k,x)::r)) h)
def Om(ti:Nat->T TE)(rs:U ResultVar)(x1:G)(x:HL):KC:=λe tm l=>(e= .normal\/e= .ret)/\hU l x/\FY ti tm (x++l) (λxs=>Sub (zo xs) x1) rs
def dB(P:Program)(ge:GE)(f:FuncId)(args:U G)(y rw:HL)(x1:G)(z:HL):Prop:=bW P f=true/\dW P ge 1 f args (aN (y++rw)) λx a=>x=x1/\a=aN (y++z)
def dD:∀a b,aN (a++b)=bG (aN a) (aN b)
 | [],b=>by funext j;simp[aN,bG]
 |(i,o)::a,b=>by
  funext j;have:=congrFun (dD a b) j
  grind [aN,bG]
def qh(l0 x:HL):At:=(l0.all λp=>Nat.beq p.1.1 0&& !qK x p.1)
def qN{hp rs xs}(h:gZ P tm hp rs=some xs):mT P tm hp rs=some (zo xs):=by
 simp only[mT,h,Jm]
 match xs with
 | []=>rfl
 | [x]=>rfl
 |x::y::r=>rfl
def dB.enter(E:zn P ti){f fn c args z rw rv x1}(s:P.funcs[f]?=some fn)(t:fn.body=some c)(A:bW P f=true)(C:Nat.ble args.length fn.ntmps=true)(D:qh (z++rw) (z++rv)=true)[u:UT [(0,x1)] (z++rv)](h:lD z rw λl0=>lD z rv λx=>qM 0 args λtm=>SC P ge ti fn.ntmps c (Om ti fn.results.toList x1 x) tm l0):dB P ge f args z rw x1 rv:=by
 have h:=mb _ _ (eG _ (eG _ h));generalize b:z++rv=x at*;generalize d:z++rw=l0 at*;simp only[dB,d,b];have i:∀p∈l0,p.1.1=0/\(aN x p.1).isSome=true:=λp hp=>by
  have:=H0.1 D p hp;simp only[BR]at this
  grind [Nat.eq_of_beq_eq_true,this.1,this.2,qK,cQ]
 have a:∀j,(aN l0 j).isSome=true->j.1<1/\(aN x j).isSome=true:=λj y=>by
  obtain⟨p,hp,rfl⟩:=Hr.1 (db.1 y);obtain⟨n,k⟩:=i p hp;exact⟨by omega,k⟩
 refine⟨A,dW.enter (λj y=>(a j y).1) s t (J1 C) ?_⟩;refine hT (SC.cb E c h) λe tm hp⟨l,e1,q⟩=>?_
 subst e1;obtain⟨K,L,N⟩:=q;obtain⟨xs,n,k⟩:=nB E.tt _ N;refine⟨tm,aN (x++l),?_,K,zo xs,x1,qN n,k,aN x,?_,λj y=>(a j y).2,u.kO (0,x1) NP,λj o y=>.inr (u.FX _ (pg y)),rfl,rfl⟩
 .intro g fr w tmps Q r v;have hs:HSub (aN l) (aN (x++l)):=λj=>by
   rw[dD];simp only[bG];cases e:aN x j with
   |none=>cases aN l j<;>simp[jk.refl]
   |some o=>
    obtain⟨p,hp,m⟩:=L.iK j o e;simp only[hp];exact m
  refine⟨g,AV.nk.refl _ g,⟨r.rel.ez hs.bG,λj=>?_⟩,v⟩;rcases r.cM j with e|e
  .left;have:=hs.isSome j;cases e2:aN (x++l) j with
   |none=>rfl
   |some o=>rw[e,e2]at this;simp at this
  .exact .inr e
 .intro j o y;rw[dD];exact aK y
def H4{f args y x1 K}(C:dB P ge f args [] [] x1 [])(s:bF y args)[d:eL [] args][i:UN [] x1](hd:(l.all λp=>Nat.ble p.1.1 1)=true)(k:K x1 l []):
 bW P f=true/\ox P ge b f y (aN l) (CH b l K):=by
 refine⟨C.1,?_⟩;have m:dW P ge 1 f args ej (λx n=>n=ej/\x=x1):=by
  have:=C.2
  grind [avM,this.mono]
 have no:∀{S:Nm->Prop}{x:G},x.aM (λj=>j∈([]:U Nm))->x.aM S:=λh=>lA (λj z=>by simp at z) _ h
 have a:∀{S:Nm->Prop}{x:U G},hH (λj=>j∈([]:U Nm)) x->hH S x:=λh=>ln (λj z=>by simp at z) _ h
 have o:=m.up (hp:=aN l) (a d.out) (λx e=>by subst e;exact no i.out) (avT (by
  rw[H0]at hd |-;intro p hp;have:=J1 (hd p hp);simp;omega))
 intro g fr w vs q r t v;refine(o.sub s g fr w vs (λj z=>?_) r t v).mono λe w'⟨u,g',x,c,e1,k1,A,D,k4⟩=>⟨u,g',x,c,e1,k1,A,D,?_⟩
 .rcases q j z with h|h<;>simp only[ol]<;>omega
 .obtain⟨rfl,rfl⟩:=k4;exact⟨l,[],rfl,vg.refl b l,k⟩
end
section
variable {P:Program}{ge:GE}{N b:Nat}{tm:Tm}{l:HL}{ti:Nat->T TE}
def zp(ν:U Nm)(x:Nm->Nm):Prop:=∀i j,ν[i]?=some j->x (0,i)=j
class zq(ν:List Nm)(i:Nat)(j:outParam Nm):Prop where
 out:ν[i]?=some j
instance (j:Nm)ν:zq (j::ν) 0 j:=⟨rfl⟩
instance (k j:Nm)ν[h:zq ν 0 j]:zq (k::ν) 1 j:=⟨by simpa using h.out⟩
instance (k j:Nm)ν[h:zq ν 1 j]:zq (k::ν) 2 j:=⟨by simpa using h.out⟩
instance (k j:Nm)ν[h:zq ν 2 j]:zq (k::ν) 3 j:=⟨by simpa using h.out⟩
instance (k j:Nm)ν[h:zq ν 3 j]:zq (k::ν) 4 j:=⟨by simpa using h.out⟩
instance (k j:Nm)ν[h:zq ν 4 j]:zq (k::ν) 5 j:=⟨by simpa using h.out⟩
class Rn(ν:List Nm)(x:G)(y:outParam G):Prop where
 out:∀X,zp ν X->x.bm X=y
class yC(ν:List Nm)(x:List G)(y:outParam (List G)):Prop where
 out:∀X,zp ν X->hO X x=y
class UX(ν:List Nm)(x:bB)(y:outParam bB):Prop where
 out:∀X,zp ν X->x.bm X=y
class Hb(ν:List Nm)(x:HL)(y:outParam HL):Prop where
 out:∀X,zp ν X->x.map (λp=>(X p.1,p.2.bm X))=y
variable {ν:U Nm}
def dA{x:G}(h:x.aM (λj=>j∈([]:U Nm))):x.aM p9:=lA (λj y=>by simp at y) _ h
instance (x:G)[h:UN [] x]:Rn ν x x:=⟨λ_ _=>zL (dA h.out)⟩
instance (i n:Nat)j[h:zq ν i j]:Rn ν (.eU (0,i) n) (.eU j n):=⟨λx hs=>by simp only[G.bm];rw[hs i j h.out]⟩
instance (i n a:Nat)j[h:zq ν i j]:Rn ν (.ms (0,i) a n) (.ms j a n):=⟨λx hs=>by simp only[G.bm];rw[hs i j h.out]⟩
instance (i:Nat)j[h:zq ν i j]:Rn ν (.map (0,i)) (.map j):=⟨λx hs=>by simp only[G.bm];rw[hs i j h.out]⟩
instance (f:Fn)a c x y[h:yC ν a x][k:yC ν c y]:Rn ν (.fn f a c) (.fn f x y):=⟨λz hs=>by simp only[G.bm];rw[h.out z hs,k.out z hs]⟩
instance (a x:U G)[h:yC ν a x]:Rn ν (.agg a) (.agg x):=⟨λy hs=>by simp only[G.bm];rw[h.out y hs]⟩
instance (a x:U G)[h:yC ν a x]:Rn ν (.bZ a) (.bZ x):=⟨λy hs=>by simp only[G.bm];rw[h.out y hs]⟩
instance (a x:U G)n[h:yC ν a x]:Rn ν (.aS a n) (.aS x n):=⟨λy hs=>by simp only[G.bm];rw[h.out y hs]⟩
instance (a i:Nat)j xs ys[m:zq ν i j][h:yC ν xs ys]:Rn ν (.sl a (.tail (0,i)) xs) (.sl a (.tail j) ys):=⟨λx hs=>by simp only[G.bm,jV.bm];rw[h.out x hs,hs i j m.out]⟩
instance (xs:U G)[h:eL [] xs]:yC ν xs xs:=⟨λ_ _=>zW (ln (λj x=>by simp at x) _ h.out)⟩
instance:yC ν [] []:=⟨λ_ _=>rfl⟩
instance (x y:G)xs ys[h:Rn ν x y][k:yC ν xs ys]:yC ν (x::xs) (y::ys):=⟨λz hs=>by simp only[hO];rw[h.out z hs,k.out z hs]⟩
instance (a x:U G)[h:yC ν a x]:UX ν (.cells a) (.cells x):=⟨λy hs=>by simp only[bB.bm];rw[h.out y hs]⟩
instance (a n:Nat):UX ν (.tail a n) (.tail a n):=⟨λ_ _=>rfl⟩
instance (m:Nat)a x[h:yC ν a x]:UX ν (.bD m a) (.bD m x):=⟨λy hs=>by simp only[bB.bm];rw[h.out y hs]⟩
instance:Hb ν [] []:=⟨λ_ _=>rfl⟩
instance (i:Nat)j o o' l l'[m:zq ν i j][h:UX ν o o'][k:Hb ν l l']:Hb ν (((0,i),o)::l) ((j,o')::l'):=⟨λx hs=>by simp only[Hx];rw[h.out x hs,hs i j m.out,k.out x hs]⟩
def wa.inj{x y}(B:wa x y){i j}(h:x i=x j):i=j:=by rw[<-B.ts i,h,B.ts]
def mc{x y}(B:wa x y):∀l,(aN l).bm x y=aN (l.map λp=>(x p.1,p.2.bm x))
 | []=>rfl
 |(i,o)::l=>by
  funext j;have z:=congrFun (mc B l) j;simp only[Hp.bm,aN,Hx]at z |-;by_cases e:y j=i
  .rw[BX e,BX (by rw[<-e,B.st])];rfl
  .rw[BY e,BY (λh=>e (by rw[h,B.ts]))];exact z
def qO(l:HL):HL->Prop
 | []=>True
 |(j,o)::r=>lk l j=some o/\qO l r
def qO.iK:∀{r},qO l r->∀j o,aN r j=some o->aN l j=some o
 | [],_,j,o,h=>by simp[aN]at h
 |(i,q)::r,k,j,o,h=>by
  simp only[aN]at h;split at h
  .rename_i e;subst e;simp at h;subst h;rw[cQ];exact k.1
  .exact qO.iK k.2 j o h
def th:HL->HL->(HL->Prop)->Prop
 | [],l,K=>K l
 |(j,o)::r,l,K=>pb j o l λl'=>th r l' K
def oc:HL->HL->HL
 | [],l=>l
 |(j,o)::r,l=>oc r (dp j o l)
def oy:∀r{l K},th r l K->K (oc r l)
 | [],_,_,h=>h
 |(_,_)::r,_,_,h=>oy r (fd _ h)
def jm:∀r l,(∀p∈r,∀q∈r,p.1=q.1->p=q)->∀j,aN (oc r l) j=match aN r j with|some o=>some o|none=>aN l j
 | [],l,_,j=>by simp[oc,aN]
 |(i,o)::r,l,hd,j=>by
  simp only[oc];rw[jm r _ (λp hp q hq=>hd p (by simp[hp]) q DS) j,<-bx];simp only[aN,cW];cases e:aN r j with
  |some p=>
   by_cases h:j=i
   .subst h;have:=hd (j,o) NP (j,p) (by simp[pg e]) rfl;simp at this;simp[this]
   .simp[h]
  |none=>by_cases h:j=i<;>simp[h]
def m0:U Nm->At
 | []=>true
 |j::r=> !A0 j r&&m0 r
def kQ:∀{r},m0 r=true->r.Nodup
 | [],_=>.nil
 |j::r,h=>by
  simp only[m0,BR,Ko]at h;refine MF.2 ⟨λx=>?_,kQ h.2⟩
  grind [pc.2]
def zr(k:Nat):HL->At
 | []=>true
 |p::l=>wh p.1 (0,k)&&zr (k+1) l
def oz:∀l k,zr k l=true->l.map (·.1)=(List.range' k l.length).map λi=>((0,i):Nm)
 | [],k,_=>rfl
 |p::l,k,h=>by
  simp only[zr,BR]at h;simp only[Hx,B0,List.range'_succ];rw[jB.1 h.1,oz l (k+1) h.2]
def wl:{r:HL}->(r.map (·.1)).Nodup->∀p∈r,∀q∈r,p.1=q.1->p=q
 | [],_,p,hp,_,_,_=>by simp at hp
 |x::r,h,p,hp,q,hq,e=>by
  simp only[Hx,MF]at h;rcases BV.1 hp with h1|h1<;>rcases BV.1 hq with h2|h2
  .rw[h1,h2]
  .exact absurd (by rw[<-h1,e];exact Lt (f:=(·.1)) h2) h.1
  .exact absurd (by rw[<-h2,<-e];exact Lt (f:=(·.1)) h1) h.1
  .exact wl h.2 p h1 q h2 e
def aaN(P:Program)(ge:GE)(f:FuncId)(ν:U Nm)(z:U G)(a:G)(c x d:HL):Prop:=∀{b:Nat}{l:HL}{K:KX}{y:U G},bF y z->(l.all λp=>Nat.ble p.1.1 1)=true->qO l c->hU l x->(th d l λl'=>K a l' (x.map (·.1)))->bW P f=true/\ox P ge b f y (aN l) (CH b l K)
def iR{f args N m rw rv y z rv' x1 Q}ν(C:dB P ge f args m rw x1 rv)[ra:yC ν args N][rr:Rn ν x1 Q][r1:Hb ν m y][r2:Hb ν rw z][r3:Hb ν rv rv']
 (hn:(m0 ν&&zr 0 (m++rw)&&Nat.beq ν.length (m++rw).length&&(ν.all λj=>Nat.ble j.1 1)&&((m++rw).map (·.1)==(m++rv).map (·.1)))=true):aaN P ge f ν N Q y z rv':=by
 intro b l K aiS s h5 D X k;refine⟨C.1,?_⟩;simp only[BR,HV]at hn;obtain⟨⟨⟨⟨h1,h2⟩,h3⟩,h4⟩,h6⟩:=hn;have h3:=FU h3;have apU:∀j∈ν,j.1<2:=λj a=>by
  have:=J1 (H0.1 h4 j a);omega
 have aoe:∀j,(aN l j).isSome=true->j.1<2:=λj a=>by
  obtain⟨p,hp,rfl⟩:=Hr.1 (db.1 a);have:=J1 (H0.1 h5 p hp);omega
 obtain⟨σ,τ,B,hd,hs⟩:=au6 ν (kQ h1) apU;have c:zp ν σ:=λi j h=>hs i j h
 have e1:=r1.out σ c;have e2:=r2.out σ c;have e3:=r3.out σ c;have nm:=oz _ _ h2;have nmw:(y++z).map (·.1)=((m++rw).map (·.1)).map σ:=by rw[<-e1,<-e2,HO,HO,HO,JD,JD,JD,JD];rfl
 have nmv:(y++rv').map (·.1)=(y++z).map (·.1):=by
  rw[nmw,h6,<-e1,<-e3,HO,HO,HO,JD,JD,JD,JD];rfl
 have t:rv'.map (·.1)=z.map (·.1):=by
  rw[HO,HO]at nmv;exact List.append_cancel_left nmv
 have nd:((y++z).map (·.1)).Nodup:=by
  rw[nmw,nm,JD];refine List.pairwise_map.2 (List.Pairwise.imp (λ{i j}hne h=>hne ?_) (List.nodup_range' (s:=0) (n:=(m++rw).length)));have:=B.inj h;simpa using this
 have ndv:(rv'.map (·.1)).Nodup:=by
  rw[t];rw[HO]at nd;exact(Lc.1 nd).2.1
 have y5:∀j,(aN y j).isSome=true->aN rv' j=none:=λj a=>by
  cases e:aN rv' j with
  |none=>rfl
  |some o=>
   have m2:=db.1 (show(aN rv' j).isSome=true by simp[e]);rw[t]at m2;have m1:=db.1 a;rw[HO]at nd;exact absurd rfl ((Lc.1 nd).2.2 j m1 j m2)
 have A:∀p∈rv',∀q∈rv',p.1=q.1->p=q:=wl ndv;have hsv:∀j,(aN rv' j).isSome=(aN z j).isSome:=λj=>by
  rw[M8,db,db,t]
 have C2:=C.2.bm B hd;rw[ra.out σ c,mc B,HO,e1,e2]at C2
 let hq:Hp:=λj=>if(aN (y++z) j).isSome=true then none else aN l j
 have amj:∀j,(aN (y++z) j).isSome=true->(aN l j).isSome=true:=λj a=>by
  rw[dD]at a;cases e:aN y j with
  |some o=>simp[D.iK j o e]
  |none=>
   rw[bM e]at a;obtain⟨o,ho⟩:=NX.1 a;obtain⟨p,hp,_⟩:=X.iK j o ho;simp[hp]
 have C3:=C2.y0 (hq:=hq) (λj a=>by
  simp only[hq]at a;split at a
  .simp at a
  .exact aoe j a) (λj=>by
  simp only[hq];cases e:aN (y++z) j with
  |none=>exact .inl rfl
  |some o=>right;simp)
 intro g fr w vs fi r kk v;have ez:HSub (aN l) (bG (aN (y++z)) hq):=λj=>by
  simp only[bG,hq];cases e:aN (y++z) j with
  |none=>simp only[Option.isSome_none,anz,JU];exact HSub.refl (aN l) j
  |some o=>
   rw[dD]at e;cases e4:aN y j with
   |some q=>
    rw[aK e4]at e;simp at e;subst e;simp only[D.iK j q e4];exact .refl _
   |none=>
    rw[bM e4]at e;obtain⟨p,hp,hso⟩:=X.iK j o e;simp only[hp];exact hso
 have hdj:gp (bG (aN (y++z)) hq) fr:=λj=>by
  rcases r.cM j with e|e
  .left;have:=ez.isSome j;cases e2:bG (aN (y++z)) hq j with
   |none=>rfl
   |some o=>rw[e,e2]at this;simp at this
  .exact .inr e
 have k:=oy _ k;refine(C3.sub s g fr w vs (λj a=>?_) ⟨r.rel.ez ez.bG,hdj⟩ kk v).mono λe w'⟨u,g',x,hp',q1,q2,q3,q4,q5⟩=>?_
 .rcases fi j a with h|h<;>simp only[ol]<;>omega
 .obtain⟨hh,rfl,_,x0,h0,rfl,rfl,rfl,rfl⟩:=q5;have am3:bG ((aN (m++rv)).bm σ τ) hq=aN (oc rv' l):=by
   rw[mc B,HO,e1,e3];funext j;rw[jm _ _ A];simp only[bG,dD,hq];cases e4:aN y j with
   |some o=>simp only[y5 j (by simp[e4]),D.iK j o e4]
   |none=>
    cases L:aN rv' j with
    |some o=>rfl
    |none=>
     have:aN z j=none:=by
      have:=hsv j;rw[L]at this;cases e6:aN z j with
      |none=>rfl
      |some o=>rw[e6]at this;simp at this
     simp[this]
  rw[am3]at q3;refine⟨u,g',_,_,q1,q2,q3,q4,oc rv' l,z.map (·.1),rfl,⟨λj a hjn=>?_,λj a=>?_,λj a d=>?_⟩,?_⟩
  .rw[jm _ _ A];cases L:aN rv' j with
   |none=>rfl
   |some o=>exact absurd (by rw[<-t];exact db.1 (by simp[L])) hjn
  .rw[jm _ _ A];cases L:aN rv' j with
   |none=>exact a
   |some o=>rfl
  .rw[jm _ _ A]at d;cases L:aN rv' j with
   |none=>rw[L]at d;dsimp only at d;rw[a]at d;simp at d
   |some o=>
    have h7:=hsv j;rw[L]at h7;have h8:=amj j (by
     rw[dD];cases e4:aN y j with
     |some o=>simp[bG,e4]
     |none=>rw[bM e4,<-h7];rfl)
    rw[a]at h8;simp at h8
  .rw[rr.out σ c];exact k
end
section
variable {P:Program}{ge:GE}{N:Nat}{tm:Tm}{l:HL}{Q:fX}{c:Code}
def ac.FZ{g a sz xs v}(h:ac g (.sl a .fu xs) v)(hs:xs=[]\/a=sz):ac g (.sl sz .fu xs) v:=by
 rcases hs with rfl|rfl
 .exact ac.sub (.nil (.inl rfl)) _ h
 .exact h
def F0{a sz}{xs:U G}(h:(Nat.beq a sz||xs.isEmpty)=true):xs=[]\/a=sz:=by
 simp only[K5]at h
 grind [Nat.eq_of_beq_eq_true]
def nU{fr}(x:AF 1 fr)k:fr (1,k)=none:=by
 cases e:fr (1,k)with
 |none=>rfl
 |some o=>have:=x.ay (1,k) CD;simp[ol]at this
def gc t sz m{a xs}(h:get tm t= .sl a .fu xs)(hs:(Nat.beq a sz||xs.isEmpty)=true)(d:nx 0 l=m)
 (k:br P ge 1 N c Q ((t,.sl sz (.tail (1,m)) xs)::tm) (aN (((1,m),.tail sz xs.length)::l))):br P ge 1 N c Q tm (aN l):=by
 subst d;refine u4 k λg fr w tmps y r v=>?_
 have x:=hE l 0 1 _ (Hq _);have z:=v.2 t;rw[h]at z;obtain⟨e,f,b,j⟩:=r.rel.jW (cm x (nU y _)) (z.FZ (F0 hs));rw[bz,bq x]at b;refine⟨e,f.some _,⟨b,?_⟩,v.1,λi=>?_⟩
 .rw[<-bq x];exact r.cM.cW (nU y _)
 .rw[ff]
  grind [ac.mono,v.2]
def dy.pi{g w hp}(r:dy g w hp){j cs cs'}(d:hp j=some (.cells cs))(h:ey g w j (.cells cs')):dy g w (cW hp j (.cells cs')):=by
 have key:∀i p,cW hp j (.cells cs') i=some p->(i=j/\p= .cells cs')\/(i≠j/\hp i=some p):=by
  intro i p h;by_cases e:i=j
  .subst e;rw[bp]at h;simp at h;exact .inl ⟨rfl,h.symm⟩
  .rw[aZ _ _ e]at h;exact .inr ⟨e,h⟩
 refine⟨λi=>?_,r.jI,r.size,r.fz,λi p x=>?_,λi p b x o=>?_,λi k p q b x s y z=>?_⟩
 .by_cases e:i=j
  .subst e;rw[bp,r.dC i,d];simp
  .rw[aZ _ _ e];exact r.dC i
 .rcases key i p x with⟨rfl,rfl⟩|⟨_,x⟩
  .exact h
  .exact r.fR i p x
 .rcases key i p x with⟨rfl,rfl⟩|⟨_,x⟩
  .exact r.el _ _ b d o
  .exact r.el i p b x o
 .rcases key i p x with⟨f,l⟩|⟨f,a⟩<;>rcases key k q s with⟨m,n⟩|⟨m,c⟩
  .rw[f,m]
  .subst f l;exact r.jH _ k _ q b d c y z
  .subst m n;exact r.jH i _ p _ b a d y z
  .exact r.jH i k p q b a c y z
def eH:U G->Nat->G->U G
 | [],_,_=>[]
 |_::r,0,x=>x::r
 |y::r,n+1,x=>y::eH r n x
theorem eR:∀xs i x,eH xs i x=xs.set i x
 | [],i,x=>by simp[eH]
 |y::r,0,x=>rfl
 |y::r,n+1,x=>by simp[eH,eR r n x]
theorem md{g cs vs i x v}(h:VL g cs vs)(y:vs[i]?=some v)(hx:ac g x v):VL g (cs.set i x) vs:=by
 have:=VL.set cs vs h i x v hx;have e:vs.set i v=vs:=by
  apply Lf
  grind
 rwa [e]at this
def ga j i sz m{a cs xs}(h:lk l j=some (.cells cs))(s:fy cs i=some (.sl a .fu xs))(hs:(Nat.beq a sz||xs.isEmpty)=true)(C:nx 0 l=m)
 (k:br P ge 1 N c Q tm (aN (dp j (.cells (eH cs i (.sl sz (.tail (1,m)) xs))) (((1,m),.tail sz xs.length)::l)))):br P ge 1 N c Q tm (aN l):=by
 subst C;refine u4 k λg fr w tmps t r v=>?_
 have z:=hE l 0 1 _ (Hq _);rw[<-cQ]at h;rw[dJ]at s;obtain⟨vs,rest,elem,o1,o2⟩:=r.rel.fR j _ (aK h);obtain⟨u,hu,D⟩:=VL.get cs vs o1 i _ s;obtain⟨K,d,f,L⟩:=r.rel.jW (cm z (nU t _)) (D.FZ (F0 hs));have n:j≠(1,nx 0 l):=λe=>by rw[e,z]at h;simp at h
 rw[bz,bq z]at f;have b:Ab.bG (aN (((1,nx 0 l),.tail sz xs.length)::l)) fr j=some (.cells cs):=by
  refine aK ?_;rw[<-bq z,aZ _ _ n];exact h
 have o:=r.rel.dl (aK h);obtain⟨x,ajc,p,X,y,p3⟩:=f.fR j _ b;have q:x=vs:=by
  rw[d.cC j o,o2.1]at y;have y:=GZ y;simp only[Ls]at y;have e:=y.1;have e:vs++rest=x++ajc:=by simpa using e
  grind [VL.length,List.append_inj]
 subst q;have A:=f.pi b (cs':=eH cs i (.sl sz (.tail (1,nx 0 l)) xs)) ⟨x,ajc,p,by rw[eR];exact md X hu L,y,p3⟩;rw[bz,bx]at A;refine⟨K,d.some _,⟨A,?_⟩,v.mono d⟩;rw[<-bx];refine gp.cW ?_ (r.cM.none h);rw[<-bq z];exact r.cM.cW (nU t _)
end
section
variable {X D K ρ L:Type}
def bs{x:T X}{f}{r:D}(h:x.bind f=some r):∃v,x=some v/\f v=some r:=Lg.1 h
def bt{b}{x y z:X}(a:b=true)(h:(bif b then x else y)=z):x=z:=by subst a;exact h
def bf{b}{x y z:X}(a:b=false)(h:(bif b then x else y)=z):y=z:=by subst a;exact h
def oi{x y:X}(h:some x=some y):y=x:=(GZ h).symm
def jL{f g}{x:X⊕ρ}{v:X}{r:D}(e:x= .inl v)(h:Sum.elim f g x=some r):f v=some r:=by subst e;exact h
def agm{f}{x:X⊕ρ}{y r}(h:some (Sum.inr y)=some x)(k:Sum.elim f some x=some r):some y=some r:=by cases h;exact k
def lO{f}{x:X⊕ρ}{y r}(h:x=Sum.inr y)(k:Sum.elim f some x=some r):some y=some r:=by subst h;exact k
def eA{i n:Nat}{p:Prop}(h:i<n)(x:decide ((i:Int)<n)=false):p:=by simp at x;omega
def eC{n:Nat}{p:Prop}(x:decide ((n:Int)<n)=true):p:=by simp at x
def nv{f:X->G}{xs:U X}{i:Nat}{v}(h:xs[i]?=some v):aA (xs.map f) i=some (f v):=by
 show(xs.map f)[i]?=_
 simp[h]
def oA{f}{xs:U X}{i:Nat}{v}{y:G}(h:xs[i]?=some v)(e:f v=y):aA (xs.map f) i=some y:=e▸nv h
def nm{f:X->G}{xs i v}(h:aA xs i=some v):aA (xs.map f) i=some (f v):=y8 f h
def km{f:X->G}{xs i v y}(h:aA xs i=some v)(e:f v=y):aA (xs.map f) i=some y:=e▸y8 f h
def wi{i:Nat}(h:i+1<=4611686018427387904):Sub (.int .i64 (IntKind.i64.wrap (i+1))) (.int .i64 ((i+1:Nat):Int)):=by
 have:IntKind.i64.wrap ((i:Int)+1)=((i+1:Nat):Int):=by
  grind [IntKind.wrap,IntKind.signed,IntKind.bits]
 rw[this];exact .refl _
def rr x:Sub x x:=.refl x
def rl x:bF x x:=.refl x
def rm f(xs:U X):bF (xs.map f) (xs.map f):=.refl _
def cn{x y xs ys}(h:Sub x y)(k:bF xs ys):bF (x::xs) (y::ys):=.cons h k
def nl{n m t}:Sub (.sl n t []) (.sl m .no []):=.nil (.inr rfl)
def nf{n m t}:Sub (.sl n t []) (.sl m t []):=.nil (.inl rfl)
def ls{n t xs ys}(h:bF xs ys):Sub (.sl n t xs) (.sl n .no ys):=.sl h (.inr rfl)
def lt{n t xs ys}(h:bF xs ys):Sub (.sl n t xs) (.sl n t ys):=.sl h (.inl rfl)
def bF.app:∀{a y b b'},bF a y->bF b b'->bF (a++b) (y++b')
 | [],y,b,b',h,k=>by have:=h.sR;subst this;exact k
 |x::a,y,b,b',h,k=>by
  cases h with
  |refl=>exact .cons (.refl _) (bF.app (.refl _) k)
  |cons z c=>exact .cons z (bF.app c k)
def ap{f a b}{xs ys:U X}(h:bF a (xs.map f))(k:bF b (ys.map f)):bF (a++b) ((xs++ys).map f):=by rw[HO];exact h.app k
def sc{f a}{xs:U X}{i j}(h:bF a (xs.map f)):bF ((a.drop i).take j) (((xs.drop i).take j).map f):=by
 rw[MC,NH];have hd:∀(n:Nat){a b:U G},bF a b->bF (a.drop n) (b.drop n):=by
  intro n
  induction n with
  |zero=>intro a b h;simpa using h
  |succ n x=>intro a b h;cases h with
   |refl=>exact .refl _
   |cons _ h=>simpa using x h
 have y:∀(n:Nat){a b:U G},bF a b->bF (a.take n) (b.take n):=by
  intro n
  induction n with
  |zero=>intro a b h;simpa using .refl _
  |succ n x=>intro a b h;cases h with
   |refl=>exact .refl _
   |cons z h=>simpa using .cons z (x h)
 exact y _ (hd _ h)
def ck(n b:Nat):T Unit:=if n*b<=140737488355328 then some ()else none
def UY{f g a b}{xs:U X}{ys:U D}{w u}(c:ck (xs.length+ys.length) w=some u)(h:bF a (xs.map f))(k:bF b (ys.map g)):(a.length+b.length)*w<=140737488355328:=by
 have h:=h.length;have k:=k.length;simp only[B7]at h k;unfold ck at c
 grind
def ed(n:Nat):T Unit:=if n<=9223372036854775807 then some ()else none
def cS{n u}(c:ed n=some u):n<=9223372036854775807:=by
 grind [ed]
def jp(s:Z)(i:Int):T UInt8:=if 0<=i then s[i.toNat]? else none
def iS{s i c}(h:jp s i=some c):0<=i/\s[i.toNat]?=some c:=by
 grind [jp]
def lo{n xs ys}(h:bF xs ys):jk (.tail n xs.length) (.tail n ys.length):=by rw[h.length];exact .refl _
def co{xs ys}(h:bF xs ys):jk (.cells xs) (.cells ys):=.cells h
def ajS{f xs r w n m t}(h:((ck (([]:U X).length+xs.length) w).bind λ_=>some (([]:U X)++xs))=some r)(e:xs.map f=[]):Sub (.sl n t []) (.sl m .no (r.map f)):=by
 have e:=List.map_eq_nil_iff.1 e;subst e;obtain⟨_,_,h⟩:=bs h;have h:[]=r:=by simpa using h
 subst h;exact nl
end
end Go.Ab

/- The logic of the walk. -/
import Derived.Lib.AppendZerosOnto
import Derived.Lib.SliceRun
import Derived.Test.YtoknehglgeiopaaGreatDoorA6
set_option linter.all false
open Go Go.RowKit
namespace Go.Ab
section
open Go Go.RowKit Go.Proofs
variable {N b:Nat}{tm tm' c r:Tm}{l l' d q:HL}{α β γ σ ρ τ:Type}
class ZU(ks:List Nat)(tm c:Tm)(r:outParam Tm):Prop
class ZV(tm:Tm)(i:Nat)(x:outParam G):Prop
instance (p:Nat×G)i x[ZV tm i x]:ZV (p::tm) i x:=⟨⟩
instance (i:Nat)x:ZV ((i,x)::tm) i x:=⟨⟩
instance:ZU [] tm c c:=⟨⟩
instance (k:Nat)ks x[ZV tm k x][ZU ks tm c r]:ZU (k::ks) tm c ((k,x)::r):=⟨⟩
class We(l:HL)(j:Nm)(o:bB)(r:outParam HL):Prop
class ZW(l:HL)(j:Nm)(r:outParam HL):Prop
class ZX(l c:HL)(r:outParam HL):Prop
class ZY(js:List Nm)(l c:HL)(r:outParam HL):Prop
instance (p:Nm×bB)j o[We l j o q]:We (p::l) j o (p::q):=⟨⟩
instance (j:Nm)o p:We ((j,p)::l) j o ((j,o)::l):=⟨⟩
instance (p:Nm×bB)j[ZW l j q]:ZW (p::l) j (p::q):=⟨⟩
instance (j:Nm)o:ZW ((j,o)::l) j l:=⟨⟩
instance:ZX l [] l:=⟨⟩
instance (j:Nm)o[We l j o l'][ZX l' d q]:ZX l ((j,o)::d) q:=⟨⟩
instance [ZX l d q]:ZY [] l d q:=⟨⟩
instance (j:Nm)js[ZW l j l'][ZY js l' d q]:ZY (j::js) l d q:=⟨⟩
class U7(l:HL)(r:outParam HL):Prop
instance:U7 [] []:=⟨⟩
instance (p:Nm×bB)[U7 l q]:U7 (p::l) (p::q):=⟨⟩
instance (j:Nm)o[U7 l l'][We l' j o q]:U7 (dp j o l) q:=⟨⟩
class nC(ks:List Nat)(js:List Nm)(tm:Tm)(l:HL)(c:Tm)(d:HL)(r:outParam Tm)(q:outParam HL):Prop
instance (ks:U Nat)js[ZU ks tm c r][U7 l l'][ZY js l' d q]:nC ks js tm l c d r q:=⟨⟩
theorem I{ks js}{ch x:α->Tm}{co lo:α->HL}[i:∀a,nC ks js tm l (ch a) (co a) (x a) (lo a)]:∀a,nC ks js tm l (ch a) (co a) (x a) (lo a):=i
theorem aa{ks js}{ch x:α->β->Tm}{co lo:α->β->HL}[i:∀a b,nC ks js tm l (ch a b) (co a b) (x a b) (lo a b)]:∀a b,nC ks js tm l (ch a b) (co a b) (x a b) (lo a b):=i
def iI{m n w u}(c:ck n w=some u)(e:m=n):m*w<=140737488355328:=by
 subst e;unfold ck at c;split at c
 .assumption
 .simp at c
theorem aa9{t:Nat}{k:IntKind}{n:Int}{e:Tm}(u:UT e l):UT ((t,.int k n)::e) l where
 kO p hp:=by
  rcases BV.1 hp with rfl|hp
  .trivial
  .exact u.kO p hp
 FX:=u.FX
instance (S:U Nm)i x cs[h:eL S cs][k:UN S x]:eL S (eH cs i x):=⟨by
 have h:=h.out;have k:=k.out
 induction cs generalizing i with
 |nil=>exact h
 |cons c cs y=>
  simp only[hH]at h;cases i with
  |zero=>simp only[eH,hH];exact⟨k,h.2⟩
  |succ i=>simp only[eH,hH];exact⟨h.1,y i h.2⟩⟩
def sT{X}{Q:U G->Prop}(k:Q X):∃ys,bF X ys/\Q ys:=⟨_,.refl _,k⟩
def sU{n:Nat}{D X B}(k:X):((decide ((n:Int)<n)=true->D)/\(decide ((n:Int)<n)=false->X))\/B:=.inl ⟨λc=>eC c,λ_=>k⟩
def sV{i n:Nat}{D X B}(x:i<n)(k:D):((decide ((i:Int)<n)=true->D)/\(decide ((i:Int)<n)=false->X))\/B:=.inl ⟨λ_=>k,λc=>eA x c⟩
def rX{A B}(a:A)(b:B):(Exit.ret= .normal\/Exit.ret= .ret)/\A/\B:=⟨.inr rfl,a,b⟩
def rN{A B}(a:A)(b:B):(Exit.normal= .normal\/Exit.normal= .ret)/\A/\B:=⟨.inl rfl,a,b⟩
def R{x:T α}{g}{y:β}{D:Prop}(h:x.bind g=some y)(k:∀v,x=some v->g v=some y->D):D:=let⟨v,a,b⟩:=bs h;k v a b
def zS{x}:Sub x x:=.refl _
abbrev o1:U Nm:=[(0,0)]
abbrev o2:U Nm:=[(0,0),(0,1)]
abbrev o3:U Nm:=[(0,0),(0,1),(0,2)]
abbrev o4:U Nm:=[(0,0),(0,1),(0,2),(0,3)]
abbrev Ac(f:FuncId)(args:U G)(x rw:HL)(x1:G)(y:HL):Prop:=dB Tryz.prog gE f args x rw x1 y
def tv:True:=trivial
def B{x}:bF x x:=.refl _
def zA{x}:Sub x x:=.refl _
def E(a:Nat):Nat->U (Nat×DK)->U (Nat×DK)
 |0,r=>r
 |n+1,r=>(a,.fl)::E (a+1) n r
def qc(a:Nat):Nat->U (Nat×DK)->U (Nat×DK)
 |0,r=>r
 |n+1,r=>(a,.ch)::qc (a+1) n r
def qt(a:Nat):Nat->U (Nat×DK)->U (Nat×DK)
 |0,r=>r
 |n+1,r=>(a,.tl)::qt (a+1) n r
def bi{a}{x y z:T α}{X D}(h:(bif a then x else y)=z)(f:x=z->X)(g:y=z->D):(a=true->X)/\(a=false->D):=⟨λe=>f (bt e h),λe=>g (bf e h)⟩
def oj{x y:α}(h:some x=some y):x=y:=GZ h
def no{x:α}{X:Prop}(h:none=some x):X:=by cases h
def cP{P ge f args z x g}{y:β}{x1:α->G}{K}(h:x.bind g=some y)(C:∀{v},x=some v->dB P ge f args [] [] (x1 v) [])(s:bF z args)[c:eL [] args][d:∀v,UN [] (x1 v)](hd:(l.all λp=>Nat.ble p.1.1 1)=true)(k:∀v,g v=some y->K (x1 v) l []):bW P f=true/\ox P ge b f z (aN l) (CH b l K):=by
 obtain⟨v,a,h⟩:=bs h;exact H4 (C a) s hd (k v h)
def jo{mk:α->β}{v y}{x:α->Tm}{lo:α->HL}(h:some (mk v)=some y)(k0:kD (lo v) l=true)(z:hU l (lo v))(ks:kA tm (x v)):∃v,y=mk v/\lQ tm l (x v) (lo v):=⟨v,(GZ h).symm,k0,z,ks⟩
def jx{f}{x:α⊕ρ}{y r Q}(h:some (Sum.inr y)=some x)(z:Sum.elim f some x=some r)(k:some y=some r->Q):∃a,x= .inr a/\Q:=⟨y,(GZ h).symm,k (agm h z)⟩
def lx{f}{x:α⊕ρ}{y:σ⊕(α⊕ρ)}{z r Q}(h:some (Sum.inr (Sum.inr z))=some y)(b:Sum.elim f some x=some r)(k:some z=some r->Q):∃a,y= .inr (.inr a)/\(x= .inr a->Q):=⟨z,(GZ h).symm,λe=>k (lO e b)⟩
abbrev W{α β}:α->U β:=λ_=>[]
abbrev zb(t:Nat):At->Tm:=λs=>[(t,.bool s)]
abbrev zi(t:Nat):Int->Tm:=λs=>[(t,.int .i64 s)]
def bj{a}{x y z:T α}{X A D}(h:(bif a then x else y)=z)(f:x=z->X)(g:y=z->A):((a=true->X)/\(a=false->A))\/D:=.inl (bi h f g)
class RA(X:List Nm)(args:List G)(ro rw:HL)(x1:α->G)(rv:α->HL)(aiU:outParam (List G))(ro' rw':outParam HL)(x1':outParam (α->G))(rv':outParam (α->HL)):Prop where
 a:yC X args aiU
 b:Hb X ro ro'
 c:Hb X rw rw'
 d:∀v,Rn X (x1 v) (x1' v)
 e:∀v,Hb X (rv v) (rv' v)
instance (x:U Nm)args y i rw z f(x1 g:α->G)j rv'[a:yC x args y][b:Hb x i z][c:Hb x rw f][d:∀v,Rn x (x1 v) (g v)][e:∀v,Hb x (j v) (rv' v)]:RA x args i rw x1 j y z f g rv':=⟨a,b,c,d,e⟩
theorem M{b args x c rw y z x1 a}{d rv':α->HL}[i:RA b args c rw x1 d x y z a rv']:RA b args c rw x1 d x y z a rv':=i
def cH{P ge f args n m rw o z x}{g:α->T β}{y x1 q w r K t}(h:x.bind g=some y)u(C:∀{v},x=some v->dB P ge f args m rw (x1 v) (w v))
 (i:RA u args m rw x1 w n o z q r) (L:(λv=>(m0 u&&zr 0 (m++rw)&&Nat.beq u.length (m++rw).length&&(u.all λj=>Nat.ble j.1 1)&&((m++rw).map (·.1)==(m++w v).map (·.1))))=λ_=>true)
 (s:bF t n) (N:(l.all λp=>Nat.ble p.1.1 1)=true) (A:qO l o) (D:hU l z) (k:∀v,g v=some y->th (r v) l λl'=>K (q v) l' (z.map (·.1))):bW P f=true/\ox P ge b f t (aN l) (CH b l K):=by
 obtain⟨v,Q,h⟩:=bs h;have:=i.a;have:=i.b;have:=i.c;have:=i.d v;have:=i.e v;exact iR u (C Q) (congrFun L v) s N A D (k v h)
def He{b f}{z:β}(h:b.bind (Sum.elim f some)=some z){c K}ks(ch:α->Tm)js(co:α->HL){y lo}(i:∀a,nC ks js tm l (ch a) (co a) (y a) (lo a))[u:∀a,UT (y a) (lo a)]
 (body:∀{x},b=some x->Sum.elim f some x=some z->SC Tryz.prog gE tr.find N c (VJ y lo x K) tm l) (k:∀v,f v=some z->K .normal (y v) (lo v)):br Tryz.prog gE 1 N c (LC K) tm (aN l):=by
 obtain⟨x,hx,h⟩:=bs h;exact br.jn eS y lo (body hx h) λv e=>k v (jL e h)
def jn{A b f}{z:β}(h:b.bind (Sum.elim f some)=some z){c K}ks(ch:α->Tm)js(co:α->HL){y lo}(i:∀a,nC ks js tm l (ch a) (co a) (y a) (lo a))[u:∀a,UT (y a) (lo a)]
 (body:∀{x},b=some x->Sum.elim f some x=some z->SC Tryz.prog gE tr.find N c (VJ y lo x K) tm l) (k:∀v,f v=some z->K .normal (y v) (lo v)):A\/br Tryz.prog gE 1 N c (LC K) tm (aN l):=.inr (He h ks ch js co i body k)
def Qh{c K}(h:br Tryz.prog gE 1 N c (LC λe tm l=>match e with|.normal=>∃tm' l',Wk 1 N tm (aN l) tm' (aN l')/\K .normal tm' l'|e=>K e tm l) tm (aN l)):br Tryz.prog gE 1 N c (LC K) tm (aN l):=by
 refine hT h λe tm hp⟨l,e1,q⟩=>?_
 subst e1;cases e with
 |normal=>obtain⟨tm',l',x,y⟩:=q;exact⟨_,_,x,_,rfl,y⟩
 |_=>exact⟨tm,_,dr _ _ _ _,l,rfl,q⟩
def Wf{b f}{z:β}(h:b.bind (Sum.elim f some)=some z){c K}ks(ch:α->Tm)js(co:α->HL){y lo}(i:∀a,nC ks js tm l (ch a) (co a) (y a) (lo a))[u:∀a,UT (y a) (lo a)]
 (body:∀{x},b=some x->Sum.elim f some x=some z->SC Tryz.prog gE tr.find N c (VJ y lo x K) tm l) (k:∀v,f v=some z->∃tm' l',Wk 1 N (y v) (aN (lo v)) tm' (aN l')/\K .normal tm' l'):br Tryz.prog gE 1 N c (LC K) tm (aN l):=by
 obtain⟨x,hx,h⟩:=bs h;exact adC eS y lo (body hx h) λv e=>k v (jL e h)
def jb{A e g}{z:β}(h:e.bind g=some z){d b K0 r t c}n ks(ch:α->Tm)js(co:α->HL){y:α->Tm}{lo:α->HL}(i:∀a,nC ks js tm l (ch a) (co a) (y a) (lo a))[u:∀a,UT (y a) (lo a)]
 (f:∀{x},e=some x->(c=true->uw Tryz.prog gE tr.find N d b.toList (λtm l=>lQ tm l (y x) (lo x)) K0 r n ((t,.bool true)::tm) l)/\(c=false->uw Tryz.prog gE tr.find N d b.toList (λtm l=>lQ tm l (y x) (lo x)) K0 r n ((t,.bool false)::tm) l))
 (k:∀v,g v=some z->vu r n λr=>SR Tryz.prog gE tr.find N d b.toList K0 r (y v) (lo v)):A\/Qz Tryz.prog gE tr.find N d b (LK K0) r ((t,.bool c)::tm) (aN l):=by
 obtain⟨x,hx,h⟩:=bs h;exact .inr (af6 eS n y lo x (f hx).1 (f hx).2 (k x h))
def uD{step n s f}{z:β}(h:(aV step n s).bind (Sum.elim f some)=some z){id c K}ks(ch:σ->Tm)js(co:σ->HL)j(k:α->Tm)m(o:α->HL)
 {b} {lo} {d} {g} (i:∀a,nC ks js tm l (ch a) (co a) (b a) (lo a)) (p:∀a,nC j m tm l (k a) (o a) (d a) (g a)) [u:∀s,UT (b s) (lo s)] [uA:∀a,UT (d a) (g a)]
 (hs:lQ tm l (b s) (lo s)) (round:∀{x y},Sum.elim f some x=some z->∀s,step s=some y->SC Tryz.prog gE tr.find N c (qX id b lo d g x y K) (b s) (lo s))
 (after:∀v,f v=some z->K .normal (d v) (g v)):br Tryz.prog gE 1 N (.block id (.loop c)) (LC K) tm (aN l):=by
 obtain⟨x,hx,h⟩:=bs h;exact AC eS b lo d g hx hs (λs y e=>round h s e) λv e=>after v (jL e h)
def lp{A step n s f}{z:β}(h:(aV step n s).bind (Sum.elim f some)=some z){id c K}ks(ch:σ->Tm)js(co:σ->HL)e(g:α->Tm)j(k:α->HL)
 {b} {lo} {d} {m} (i:∀a,nC ks js tm l (ch a) (co a) (b a) (lo a)) (o:∀a,nC e j tm l (g a) (k a) (d a) (m a)) [u:∀s,UT (b s) (lo s)] [uA:∀a,UT (d a) (m a)]
 (hs:lQ tm l (b s) (lo s)) (round:∀{x y},Sum.elim f some x=some z->∀s,step s=some y->SC Tryz.prog gE tr.find N c (qX id b lo d m x y K) (b s) (lo s))
 (after:∀v,f v=some z->K .normal (d v) (m v)):A\/br Tryz.prog gE 1 N (.block id (.loop c)) (LC K) tm (aN l):=.inr (uD h ks ch js co e g j k i o hs round after)
def Oh{w:Nat->τ->σ->T (σ⊕(α⊕β))}{p xs s f z}(h:(bo w p 0 xs s).bind (Sum.elim f some)=some z){id c K}ks(ch:Nat->σ->Tm)js(co:Nat->σ->HL)k(m:α->Tm)n(o:α->HL)
 {d:Nat->σ->Tm} {lo:Nat->σ->HL} {g} {j} (i:∀i a,nC ks js tm l (ch i a) (co i a) (d i a) (lo i a)) (r:∀a,nC k n tm l (m a) (o a) (g a) (j a)) [u:∀i s,UT (d i s) (lo i s)] [uA:∀a,UT (g a) (j a)]
 (hs:lQ tm l (d 0 s) (lo 0 s)) {en} (hx:gq (d 0 s) (lo 0 s) (xs.map en))
 (round:∀{x y},Sum.elim f some x=some z->∀i v s,xs[i]?=some v->i<(xs.map en).length->i+1<=4611686018427387904->w i v s=some y->SC Tryz.prog gE tr.find N c (qX id (d (i+1)) (lo (i+1)) g j x y K) (d i s) (lo i s))
 (stop:∀s,SC Tryz.prog gE tr.find N c (ux id g j (p s)) (d (xs.map en).length s) (lo (xs.map en).length s))
 (after:∀v,f v=some z->K .normal (g v) (j v)):br Tryz.prog gE 1 N (.block id (.loop c)) (LC K) tm (aN l):=by
 obtain⟨x,q,h⟩:=bs h;exact Ng eS d lo g j q hs hx (λi v s y a b c e=>round h i v s a b c e) stop λv e=>after v (jL e h)
def alK{A}{w:Nat->τ->σ->T (σ⊕(α⊕β))}{p xs s f z}(h:(bo w p 0 xs s).bind (Sum.elim f some)=some z){id c K}ks(ch:Nat->σ->Tm)js(co:Nat->σ->HL)e(g:α->Tm)j(k:α->HL)
 {b:Nat->σ->Tm} {lo:Nat->σ->HL} {d} {m} (i:∀i a,nC ks js tm l (ch i a) (co i a) (b i a) (lo i a)) (n:∀a,nC e j tm l (g a) (k a) (d a) (m a)) [u:∀i s,UT (b i s) (lo i s)] [uA:∀a,UT (d a) (m a)]
 (hs:lQ tm l (b 0 s) (lo 0 s)) {en} (hx:gq (b 0 s) (lo 0 s) (xs.map en))
 (round:∀{x y},Sum.elim f some x=some z->∀i v s,xs[i]?=some v->i<(xs.map en).length->i+1<=4611686018427387904->w i v s=some y->SC Tryz.prog gE tr.find N c (qX id (b (i+1)) (lo (i+1)) d m x y K) (b i s) (lo i s))
 (stop:∀s,SC Tryz.prog gE tr.find N c (ux id d m (p s)) (b (xs.map en).length s) (lo (xs.map en).length s))
 (after:∀v,f v=some z->K .normal (d v) (m v)):A\/br Tryz.prog gE 1 N (.block id (.loop c)) (LC K) tm (aN l):=.inr (Oh h ks ch js co e g j k i n hs hx round stop after)
def lqA{step n s f}{z:β}(h:(aV step n s).bind (Sum.elim f some)=some z){id c K}ks(ch:σ->Tm)js(co:σ->HL)
 {b} {lo} (i:∀a,nC ks js tm l (ch a) (co a) (b a) (lo a)) [u:∀s,UT (b s) (lo s)]
 (hs:lQ tm l (b s) (lo s)) (round:∀{x y},Sum.elim f some x=some z->∀s,step s=some y->SC Tryz.prog gE tr.find N c (qX id b lo b lo x y K) (b s) (lo s))
 (after:∀v,f v=some z->K .normal (b v) (lo v)):br Tryz.prog gE 1 N (.block id (.loop c)) (LC K) tm (aN l):=uD h ks ch js co ks ch js co i i hs round after
def lq{A step n s f}{z:β}(h:(aV step n s).bind (Sum.elim f some)=some z){id c K}ks(ch:σ->Tm)js(co:σ->HL)
 {b} {lo} (i:∀a,nC ks js tm l (ch a) (co a) (b a) (lo a)) [u:∀s,UT (b s) (lo s)]
 (hs:lQ tm l (b s) (lo s)) (round:∀{x y},Sum.elim f some x=some z->∀s,step s=some y->SC Tryz.prog gE tr.find N c (qX id b lo b lo x y K) (b s) (lo s))
 (after:∀v,f v=some z->K .normal (b v) (lo v)):A\/br Tryz.prog gE 1 N (.block id (.loop c)) (LC K) tm (aN l):=.inr (lqA h ks ch js co i hs round after)
def Og{w:Nat->τ->σ->T (σ⊕(σ⊕β))}{p xs s f z}(h:(bo w p 0 xs s).bind (Sum.elim f some)=some z){id c K}t ks(ch:σ->Tm)js(co:σ->HL)
 {d} {lo} (i:∀a,nC ks js tm l (ch a) (co a) (d a) (lo a)) [u:∀s,UT (d s) (lo s)] (hs:lQ tm l ((t,.int .i64 0)::d s) (lo s)) {en} (hx:gq ((t,.int .i64 0)::d s) (lo s) (xs.map en))
 (round:∀{x y},Sum.elim f some x=some z->∀i v s,xs[i]?=some v->i<(xs.map en).length->i+1<=4611686018427387904->w i v s=some y->SC Tryz.prog gE tr.find N c (qX id (λs=>(t,.int .i64 (i+1:Nat))::d s) lo d lo x y K) ((t,.int .i64 i)::d s) (lo s))
 (stop:∀s,SC Tryz.prog gE tr.find N c (ux id d lo (p s)) ((t,.int .i64 (xs.map en).length)::d s) (lo s))
 (after:∀v,f v=some z->K .normal (d v) (lo v)):br Tryz.prog gE 1 N (.block id (.loop c)) (LC K) tm (aN l):=by
 obtain⟨x,g,h⟩:=bs h;exact Ng eS (λi s=>(t,.int .i64 (i:Nat))::d s) (λ_=>lo) d lo (u:=λi s=>aa9 (u s)) g hs hx (λi v s y a b c e=>round h i v s a b c e) stop λv e=>after v (jL e h)
def ajm{A}{w:Nat->τ->σ->T (σ⊕(σ⊕β))}{p xs s f z}(h:(bo w p 0 xs s).bind (Sum.elim f some)=some z){id c K}t ks(ch:σ->Tm)js(co:σ->HL)
 {b} {lo} (i:∀a,nC ks js tm l (ch a) (co a) (b a) (lo a)) [u:∀s,UT (b s) (lo s)] (hs:lQ tm l ((t,.int .i64 0)::b s) (lo s)) {en} (hx:gq ((t,.int .i64 0)::b s) (lo s) (xs.map en))
 (round:∀{x y},Sum.elim f some x=some z->∀i v s,xs[i]?=some v->i<(xs.map en).length->i+1<=4611686018427387904->w i v s=some y->SC Tryz.prog gE tr.find N c (qX id (λs=>(t,.int .i64 (i+1:Nat))::b s) lo b lo x y K) ((t,.int .i64 i)::b s) (lo s))
 (stop:∀s,SC Tryz.prog gE tr.find N c (ux id b lo (p s)) ((t,.int .i64 (xs.map en).length)::b s) (lo s))
 (after:∀v,f v=some z->K .normal (b v) (lo v)):A\/br Tryz.prog gE 1 N (.block id (.loop c)) (LC K) tm (aN l):=.inr (Og h t ks ch js co i hs hx round stop after)
def abi:(Tryz.prog.funcs.all λf=> !(f.name== "runtime.NumGoroutine"))=true:=by decide+kernel
def Ok{f fn c}(x:Tryz.prog.funcs[f]?=some fn)(y:fn.body=some c):bW Tryz.prog f=true:=by
 have:=ME.1 abi fn (NJ x);unfold bW;rw[x];simp only[y,Option.isSome_some,Bool.true_and];exact this
def Ol{o:T Code}{x y}(h:(o.isSome&&x&&y)=true):∃c,o=some c/\x=true/\y=true:=by
 cases o with
 |none=>simp at h
 |some c=>simp at h;exact⟨c,rfl,h.1,h.2⟩
def en{f args x rw rv x1}(fn:Func)[u:UT [(0,x1)] (x++rv)](h:lD x rw λl0=>lD x rv λb=>qM 0 args λtm=>SC Tryz.prog gE tr.find fn.ntmps (fn.body.getD .skip) (Om tr.find fn.results.toList x1 b) tm l0)(a:(fn.body.isSome&&Nat.ble args.length fn.ntmps&&qh (x++rw) (x++rv))=true:=by rfl)(z:Tryz.prog.funcs[f]?=some fn:=by rfl):dB Tryz.prog gE f args x rw x1 rv:=
 have⟨c,y,d,e⟩:=Ol a;dB.enter eS z y (Ok z y) d e (by rw[y]at h;exact h)
def eN{f args x rw rv x1}(fn:Func)[u:UT [(0,x1)] (x++rv)](h:lD x rw λl0=>lD x rv λb=>qM 0 args λtm=>SC Tryz.prog gE tr.find fn.ntmps (fn.body.getD .skip) (ZI tr.find fn.ntmps fn.results.toList x1 b) tm l0)(a:(fn.body.isSome&&Nat.ble args.length fn.ntmps&&qh (x++rw) (x++rv))=true:=by rfl)(z:Tryz.prog.funcs[f]?=some fn:=by rfl):dB Tryz.prog gE f args x rw x1 rv:=
 have⟨c,y,d,e⟩:=Ol a;lR eS z y (Ok z y) d e (by rw[y]at h;exact h)
section
abbrev Sa(x:G):Prop:=Sub x x
abbrev So(x:bB):Prop:=jk x x
def Cq{x}:So x:=.refl _
variable {a b c d e f g h i j k l m n o p q r s t u v w x:G}{z:Prop}{A B:U G}
def mC:Sa a/\True:=⟨zA,trivial⟩
def UM(y:z):Sa a/\z:=⟨zA,y⟩
def cV(y:bF A B):bF (a::A) (a::B):=.cons zA y
def jU:Sa a/\Sa b/\True:=⟨zA,mC⟩
def O7(y:z):Sa a/\Sa b/\z:=⟨zA,UM y⟩
def kq(y:bF A B):bF (a::b::A) (a::b::B):=.cons zA (cV y)
def wy:Sa a/\Sa b/\Sa c/\True:=⟨zA,jU⟩
def Se(y:z):Sa a/\Sa b/\Sa c/\z:=⟨zA,O7 y⟩
def ja(y:bF A B):bF (a::b::c::A) (a::b::c::B):=.cons zA (kq y)
def In:Sa a/\Sa b/\Sa c/\Sa d/\True:=⟨zA,wy⟩
def UL(y:z):Sa a/\Sa b/\Sa c/\Sa d/\z:=⟨zA,Se y⟩
def di(y:bF A B):bF (a::b::c::d::A) (a::b::c::d::B):=.cons zA (ja y)
def QP:Sa a/\Sa b/\Sa c/\Sa d/\Sa e/\True:=⟨zA,In⟩
def KE5(y:z):Sa a/\Sa b/\Sa c/\Sa d/\Sa e/\z:=⟨zA,UL y⟩
def tD(y:bF A B):bF (a::b::c::d::e::A) (a::b::c::d::e::B):=.cons zA (di y)
def Io:Sa a/\Sa b/\Sa c/\Sa d/\Sa e/\Sa f/\True:=⟨zA,QP⟩
def O6(y:z):Sa a/\Sa b/\Sa c/\Sa d/\Sa e/\Sa f/\z:=⟨zA,KE5 y⟩
def Wg(y:bF A B):bF (a::b::c::d::e::f::A) (a::b::c::d::e::f::B):=.cons zA (tD y)
def Av:Sa a/\Sa b/\Sa c/\Sa d/\Sa e/\Sa f/\Sa g/\True:=⟨zA,Io⟩
def O5(y:z):Sa a/\Sa b/\Sa c/\Sa d/\Sa e/\Sa f/\Sa g/\z:=⟨zA,O6 y⟩
def Oc(y:bF A B):bF (a::b::c::d::e::f::g::A) (a::b::c::d::e::f::g::B):=.cons zA (Wg y)
def Ip:Sa a/\Sa b/\Sa c/\Sa d/\Sa e/\Sa f/\Sa g/\Sa h/\True:=⟨zA,Av⟩
def KE8(y:z):Sa a/\Sa b/\Sa c/\Sa d/\Sa e/\Sa f/\Sa g/\Sa h/\z:=⟨zA,O5 y⟩
def ano(y:bF A B):bF (a::b::c::d::e::f::g::h::A) (a::b::c::d::e::f::g::h::B):=.cons zA (Oc y)
def agZ:Sa a/\Sa b/\Sa c/\Sa d/\Sa e/\Sa f/\Sa g/\Sa h/\Sa i/\True:=⟨zA,Ip⟩
def UJ(y:z):Sa a/\Sa b/\Sa c/\Sa d/\Sa e/\Sa f/\Sa g/\Sa h/\Sa i/\z:=⟨zA,KE8 y⟩
def kC9(y:bF A B):bF (a::b::c::d::e::f::g::h::i::A) (a::b::c::d::e::f::g::h::i::B):=.cons zA (ano y)
def Bh:Sa a/\Sa b/\Sa c/\Sa d/\Sa e/\Sa f/\Sa g/\Sa h/\Sa i/\Sa j/\True:=⟨zA,agZ⟩
def abn(y:z):Sa a/\Sa b/\Sa c/\Sa d/\Sa e/\Sa f/\Sa g/\Sa h/\Sa i/\Sa j/\z:=⟨zA,UJ y⟩
def abo(y:bF A B):bF (a::b::c::d::e::f::g::h::i::j::A) (a::b::c::d::e::f::g::h::i::j::B):=.cons zA (kC9 y)
def abp:Sa a/\Sa b/\Sa c/\Sa d/\Sa e/\Sa f/\Sa g/\Sa h/\Sa i/\Sa j/\Sa k/\True:=⟨zA,Bh⟩
def abq(y:z):Sa a/\Sa b/\Sa c/\Sa d/\Sa e/\Sa f/\Sa g/\Sa h/\Sa i/\Sa j/\Sa k/\z:=⟨zA,abn y⟩
def abr(y:bF A B):bF (a::b::c::d::e::f::g::h::i::j::k::A) (a::b::c::d::e::f::g::h::i::j::k::B):=.cons zA (abo y)
def abs:Sa a/\Sa b/\Sa c/\Sa d/\Sa e/\Sa f/\Sa g/\Sa h/\Sa i/\Sa j/\Sa k/\Sa l/\True:=⟨zA,abp⟩
def abt(y:z):Sa a/\Sa b/\Sa c/\Sa d/\Sa e/\Sa f/\Sa g/\Sa h/\Sa i/\Sa j/\Sa k/\Sa l/\z:=⟨zA,abq y⟩
def Wh(y:bF A B):bF (a::b::c::d::e::f::g::h::i::j::k::l::A) (a::b::c::d::e::f::g::h::i::j::k::l::B):=.cons zA (abr y)
def abu:Sa a/\Sa b/\Sa c/\Sa d/\Sa e/\Sa f/\Sa g/\Sa h/\Sa i/\Sa j/\Sa k/\Sa l/\Sa m/\True:=⟨zA,abs⟩
def abv(y:z):Sa a/\Sa b/\Sa c/\Sa d/\Sa e/\Sa f/\Sa g/\Sa h/\Sa i/\Sa j/\Sa k/\Sa l/\Sa m/\z:=⟨zA,abt y⟩
def abw(y:bF A B):bF (a::b::c::d::e::f::g::h::i::j::k::l::m::A) (a::b::c::d::e::f::g::h::i::j::k::l::m::B):=.cons zA (Wh y)
def uE:Sa a/\Sa b/\Sa c/\Sa d/\Sa e/\Sa f/\Sa g/\Sa h/\Sa i/\Sa j/\Sa k/\Sa l/\Sa m/\Sa n/\True:=⟨zA,abu⟩
def Wi(y:z):Sa a/\Sa b/\Sa c/\Sa d/\Sa e/\Sa f/\Sa g/\Sa h/\Sa i/\Sa j/\Sa k/\Sa l/\Sa m/\Sa n/\z:=⟨zA,abv y⟩
def Wj(y:bF A B):bF (a::b::c::d::e::f::g::h::i::j::k::l::m::n::A) (a::b::c::d::e::f::g::h::i::j::k::l::m::n::B):=.cons zA (abw y)
def Wl(y:bF A B):bF (a::b::c::d::e::f::g::h::i::j::k::l::m::n::o::A) (a::b::c::d::e::f::g::h::i::j::k::l::m::n::o::B):=.cons zA (Wj y)
end
section
variable {a b c d e f g h i j k l m n o:bB}{z:Prop}
def dk:So a/\True:=⟨Cq,trivial⟩
def uj(y:z):So a/\z:=⟨Cq,y⟩
def kF:So a/\So b/\True:=⟨Cq,dk⟩
def uF(y:z):So a/\So b/\z:=⟨Cq,uj y⟩
def yI:So a/\So b/\So c/\True:=⟨Cq,kF⟩
def O4(y:z):So a/\So b/\So c/\z:=⟨Cq,uF y⟩
def uk:So a/\So b/\So c/\So d/\True:=⟨Cq,yI⟩
def UI(y:z):So a/\So b/\So c/\So d/\z:=⟨Cq,O4 y⟩
def ku:So a/\So b/\So c/\So d/\So e/\True:=⟨Cq,uk⟩
def vE:So a/\So b/\So c/\So d/\So e/\So f/\True:=⟨Cq,ku⟩
def Sf:So a/\So b/\So c/\So d/\So e/\So f/\So g/\True:=⟨Cq,vE⟩
def anp:So a/\So b/\So c/\So d/\So e/\So f/\So g/\So h/\True:=⟨Cq,Sf⟩
def ZZ:So a/\So b/\So c/\So d/\So e/\So f/\So g/\So h/\So i/\True:=⟨Cq,anp⟩
def uG:So a/\So b/\So c/\So d/\So e/\So f/\So g/\So h/\So i/\So j/\True:=⟨Cq,ZZ⟩
end
section
variable {a b c d e f g h i j k l m n o p q r s t u v w x:Nat}{t0 t1 t2 t3 t4 t5 t6 t7 t8 t9 t10 Z1:jV}{A B:U G}
def fm(y:bF A B):bF (.sl a t0 []::A) (.sl m .no []::B):=.cons nl y
def ee(y:bF A B):bF (.sl a t0 []::.sl b t1 []::A) (.sl m .no []::.sl n .no []::B):=.cons nl (fm y)
def gM(y:bF A B):bF (.sl a t0 []::.sl b t1 []::.sl c t2 []::A) (.sl m .no []::.sl n .no []::.sl o .no []::B):=.cons nl (ee y)
def N9(y:bF A B):bF (.sl a t0 []::.sl b t1 []::.sl c t2 []::.sl d t3 []::A) (.sl m .no []::.sl n .no []::.sl o .no []::.sl p .no []::B):=.cons nl (gM y)
end
section
variable {ai0:Tm}{lo:HL}
instance:SA (zo []) (.bZ []):=⟨.refl _⟩
instance {x y}[h:SA x y]:SA (zo [x]) y:=⟨h.o⟩
instance {x z y r}[h:SA (.bZ (x::z::r)) y]:SA (zo (x::z::r)) y:=⟨h.o⟩
instance {x y t}[e:LT tm t x][h:SA x y]:SA (get tm t) y:=⟨by rw[e.o];exact h.o⟩
class K0(lo l:HL):Prop where o:kD lo l=true
instance:K0 lo []:=⟨rfl⟩
instance {k o}[h:K0 lo l]:K0 lo (((1,k),o)::l):=⟨by simp[kD,h.o]⟩
instance {k o p}[e:LH lo (0,k) p][h:K0 lo l]:K0 lo (((0,k),o)::l):=⟨by simp[kD,h.o,qK,e.o]⟩
def tE{j o}(h:kD lo [(j,o)]=true):∀{l},kD lo l=true->kD lo (dp j o l)=true
 | [],_=>h
 |(i,p)::l,k=>by
  simp only[kD,BR,Bool.and_true]at h k;simp only[dp];split<;>simp only[kD,BR]
  .exact⟨h,k.2⟩
  .exact⟨k.1,tE (by simpa only[kD,Bool.and_true]using h) k.2⟩
instance {j o}[h:K0 lo [(j,o)]][k:K0 lo l]:K0 lo (dp j o l):=⟨tE h.o k.o⟩
class AT(tm:Tm)(l:HL)(ai0:Tm)(lo:HL):Prop where o:lQ tm l ai0 lo
instance [a:K0 lo l][h:KH l lo][k:KT tm ai0]:AT tm l ai0 lo:=⟨a.o,h.o,k.o⟩
def qB[a:K0 lo l][h:KH l lo][k:KT tm ai0]:kD lo l=true/\hU l lo/\kA tm ai0:=⟨a.o,h.o,k.o⟩
def S{P ge f args z x g}{y:β}{x1:α->G}{K}(h:x.bind g=some y)(C:∀{v},x=some v->dB P ge f args [] [] (x1 v) [])[a:eL [] args][c:∀v,UN [] (x1 v)](k:∀v,g v=some y->K (x1 v) l [])(e:z=args:=by rfl)(hd:(l.all λp=>Nat.ble p.1.1 1)=true:=by rfl):bW P f=true/\ox P ge b f z (aN l) (CH b l K):=cP h C (e▸ .refl _) hd k
def cU{P ge f args x x1 K}(C:dB P ge f args [] [] x1 [])(s:bF x args)[y:eL [] args][z:UN [] x1](k:K x1 l [])(hd:(l.all λp=>Nat.ble p.1.1 1)=true:=by rfl):bW P f=true/\ox P ge b f x (aN l) (CH b l K):=H4 C s hd k
def cY{P ge f args z x g}{y:β}{x1:α->G}{K}(h:x.bind g=some y)(C:∀{v},x=some v->dB P ge f args [] [] (x1 v) [])(s:bF z args)[a:eL [] args][c:∀v,UN [] (x1 v)](k:∀v,g v=some y->K (x1 v) l [])(hd:(l.all λp=>Nat.ble p.1.1 1)=true:=by rfl):bW P f=true/\ox P ge b f z (aN l) (CH b l K):=cP h C s hd k
def qA[h:AT tm l ai0 lo]:lQ tm l ai0 lo:=h.o
def jA{mk:α->β}{v y}{x:α->Tm}{lo:α->HL}(h:some (mk v)=some y)[k:AT tm l (x v) (lo v)]:∃v,y=mk v/\lQ tm l (x v) (lo v):=⟨v,(oj h).symm,k.o⟩
def rW{x y}[a:KH l l'][h:SA x y]:(Exit.ret= .normal\/Exit.ret= .ret)/\hU l l'/\Sub x y:=⟨.inr rfl,a.o,h.o⟩
def ai9{x y}[a:KH l l'][h:SA x y]:(Exit.normal= .normal\/Exit.normal= .ret)/\hU l l'/\Sub x y:=⟨.inl rfl,a.o,h.o⟩
def li{w:Nat->τ->σ->T (σ⊕(α⊕β))}{p xs s f z}(h:(bo w p 0 xs s).bind (Sum.elim f some)=some z){id c K}ks(ch:Nat->σ->Tm)js(co:Nat->σ->HL)j(m:α->Tm)n(o:α->HL)
 {b:Nat->σ->Tm} {lo:Nat->σ->HL} {g} {q} (i:∀i a,nC ks js tm l (ch i a) (co i a) (b i a) (lo i a)) (r:∀a,nC j n tm l (m a) (o a) (g a) (q a)) [u:∀i s,UT (b i s) (lo i s)] [uA:∀a,UT (g a) (q a)]
 (hs:lQ tm l (b 0 s) (lo 0 s)) {en} (hx:gq (b 0 s) (lo 0 s) (xs.map en))
 (round:∀{x y},Sum.elim f some x=some z->∀i v s,xs[i]?=some v->i<(xs.map en).length->Rm i->w i v s=some y->SC Tryz.prog gE tr.find N c (qX id (b (i+1)) (lo (i+1)) g q x y K) (b i s) (lo i s))
 (stop:∀s,SC Tryz.prog gE tr.find N c (ux id g q (p s)) (b (xs.map en).length s) (lo (xs.map en).length s))
 (after:∀v,f v=some z->K .normal (g v) (q v)):br Tryz.prog gE 1 N (.block id (.loop c)) (LC K) tm (aN l):=Oh h ks ch js co j m n o i r hs hx (λa i v s c d e k=>round a i v s c d ⟨e⟩ k) stop after
def je{A}{w:Nat->τ->σ->T (σ⊕(α⊕β))}{p xs s f z}(h:(bo w p 0 xs s).bind (Sum.elim f some)=some z){id c K}ks(ch:Nat->σ->Tm)js(co:Nat->σ->HL)j(m:α->Tm)n(o:α->HL)
 {b:Nat->σ->Tm} {lo:Nat->σ->HL} {g} {q} (i:∀i a,nC ks js tm l (ch i a) (co i a) (b i a) (lo i a)) (r:∀a,nC j n tm l (m a) (o a) (g a) (q a)) [u:∀i s,UT (b i s) (lo i s)] [uA:∀a,UT (g a) (q a)]
 (hs:lQ tm l (b 0 s) (lo 0 s)) {en} (hx:gq (b 0 s) (lo 0 s) (xs.map en))
 (round:∀{x y},Sum.elim f some x=some z->∀i v s,xs[i]?=some v->i<(xs.map en).length->Rm i->w i v s=some y->SC Tryz.prog gE tr.find N c (qX id (b (i+1)) (lo (i+1)) g q x y K) (b i s) (lo i s))
 (stop:∀s,SC Tryz.prog gE tr.find N c (ux id g q (p s)) (b (xs.map en).length s) (lo (xs.map en).length s))
 (after:∀v,f v=some z->K .normal (g v) (q v)):A\/br Tryz.prog gE 1 N (.block id (.loop c)) (LC K) tm (aN l):=alK h ks ch js co j m n o i r hs hx (λa i v s c d e k=>round a i v s c d ⟨e⟩ k) stop after
def zI{w:Nat->τ->σ->T (σ⊕(σ⊕β))}{p xs s f z}(h:(bo w p 0 xs s).bind (Sum.elim f some)=some z){id c K}t ks(ch:σ->Tm)js(co:σ->HL)
 {b} {lo} (i:∀a,nC ks js tm l (ch a) (co a) (b a) (lo a)) [u:∀s,UT (b s) (lo s)] (hs:lQ tm l ((t,.int .i64 0)::b s) (lo s)) {en} (hx:gq ((t,.int .i64 0)::b s) (lo s) (xs.map en))
 (round:∀{x y},Sum.elim f some x=some z->∀i v s,xs[i]?=some v->i<(xs.map en).length->Rm i->w i v s=some y->SC Tryz.prog gE tr.find N c (qX id (λs=>(t,.int .i64 (i+1:Nat))::b s) lo b lo x y K) ((t,.int .i64 i)::b s) (lo s))
 (stop:∀s,SC Tryz.prog gE tr.find N c (ux id b lo (p s)) ((t,.int .i64 (xs.map en).length)::b s) (lo s))
 (after:∀v,f v=some z->K .normal (b v) (lo v)):br Tryz.prog gE 1 N (.block id (.loop c)) (LC K) tm (aN l):=Og h t ks ch js co i hs hx (λa i v s c d e k=>round a i v s c d ⟨e⟩ k) stop after
def Bi{A}{w:Nat->τ->σ->T (σ⊕(σ⊕β))}{p xs s f z}(h:(bo w p 0 xs s).bind (Sum.elim f some)=some z){id c K}t ks(ch:σ->Tm)js(co:σ->HL)
 {b} {lo} (i:∀a,nC ks js tm l (ch a) (co a) (b a) (lo a)) [u:∀s,UT (b s) (lo s)] (hs:lQ tm l ((t,.int .i64 0)::b s) (lo s)) {en} (hx:gq ((t,.int .i64 0)::b s) (lo s) (xs.map en))
 (round:∀{x y},Sum.elim f some x=some z->∀i v s,xs[i]?=some v->i<(xs.map en).length->Rm i->w i v s=some y->SC Tryz.prog gE tr.find N c (qX id (λs=>(t,.int .i64 (i+1:Nat))::b s) lo b lo x y K) ((t,.int .i64 i)::b s) (lo s))
 (stop:∀s,SC Tryz.prog gE tr.find N c (ux id b lo (p s)) ((t,.int .i64 (xs.map en).length)::b s) (lo s))
 (after:∀v,f v=some z->K .normal (b v) (lo v)):A\/br Tryz.prog gE 1 N (.block id (.loop c)) (LC K) tm (aN l):=ajm h t ks ch js co i hs hx (λa i v s c d e k=>round a i v s c d ⟨e⟩ k) stop after
def cB{P ge f args x x1 K}(C:dB P ge f args [] [] x1 [])[s:SL x args][y:eL [] args][z:UN [] x1](k:K x1 l [])(hd:(l.all λp=>Nat.ble p.1.1 1)=true:=by rfl):bW P f=true/\ox P ge b f x (aN l) (CH b l K):=H4 C s.o hd k
class HH(l q:HL):Prop where o:qO l q
instance:HH l []:=⟨trivial⟩
instance {j o}[h:LH l j o][k:HH l q]:HH l ((j,o)::q):=⟨h.o,k.o⟩
def cG{P ge f args aiU a rw c z x}{g:α->T β}{y x1 d r m K n}(h:x.bind g=some y)q(C:∀{v},x=some v->dB P ge f args a rw (x1 v) (r v))
 (i:RA q args a rw x1 r aiU c z d m) [s:HH l c] [t:KH l z] (k:∀v,g v=some y->th (m v) l λl'=>K (d v) l' (z.map (·.1)))
 (u:(λv=>(m0 q&&zr 0 (a++rw)&&Nat.beq q.length (a++rw).length&&(q.all λj=>Nat.ble j.1 1)&&((a++rw).map (·.1)==(a++r v).map (·.1))))=λ_=>true:=by rfl)
 (e:n=aiU:=by rfl) (w:(l.all λp=>Nat.ble p.1.1 1)=true:=by rfl):bW P f=true/\ox P ge b f n (aN l) (CH b l K):=cH h q C i u (e▸ .refl _) w s.o t.o k
def cJ{P ge f args c a rw d z x}{g:α->T β}{y x1 e r m K n}(h:x.bind g=some y)q(C:∀{v},x=some v->dB P ge f args a rw (x1 v) (r v))
 (i:RA q args a rw x1 r c d z e m) (s:bF n c) [t:HH l d] [u:KH l z] (k:∀v,g v=some y->th (m v) l λl'=>K (e v) l' (z.map (·.1)))
 (w:(λv=>(m0 q&&zr 0 (a++rw)&&Nat.beq q.length (a++rw).length&&(q.all λj=>Nat.ble j.1 1)&&((a++rw).map (·.1)==(a++r v).map (·.1))))=λ_=>true:=by rfl)
 (A:(l.all λp=>Nat.ble p.1.1 1)=true:=by rfl):bW P f=true/\ox P ge b f n (aN l) (CH b l K):=cH h q C i w s A t.o u.o k
def nV{f}{xs:U α}{i:Nat}{v}{Q:G->Prop}(h:xs[i]?=some v)(k:Q (f v)):∃ys,bF (xs.map f) ys/\∃z,aA ys i=some z/\Q z:=⟨_,.refl _,_,nv h,k⟩
def aaT{f xs i}{v:α}{Q:G->Prop}(h:aA xs i=some v)(k:Q (f v)):∃ys,bF (xs.map f) ys/\∃z,aA ys i=some z/\Q z:=⟨_,.refl _,_,nm h,k⟩
def nM{f xs i}{g:α->T β}{y}{Q:G->Prop}(h:(aA xs i).bind g=some y)(k:∀v,g v=some y->Q (f v)):∃ys,bF (xs.map f) ys/\∃z,aA ys i=some z/\Q z:=let⟨v,a,b⟩:=bs h;aaT a (k v b)
def dO{c:DO->At}{Q:DO->Prop}w(x:Q w)(e:c w=true:=by decide+kernel):∃w,c w=true/\Q w:=⟨w,e,x⟩
def tV{p}(x:p):True/\p:=⟨trivial,x⟩
def aR{A}{X:γ}{m n w g}{y:β}(h:(ck n w).bind g=some y)(k:g ()=some y->A)(e:m=n:=by simp):X=X/\m*w<=140737488355328/\A:=let⟨_,a,b⟩:=bs h;⟨rfl,iI a e,k b⟩
def kS{A p:Prop}[Decidable p]{g}{y:β}(h:(aU p).bind g=some y)(k:p->g ()=some y->A):A:=let⟨_,a,b⟩:=bs h;k (aY a) b
def kT{A p}[Decidable p]{g}{y:β}(h:(aU p).bind g=some y)(k:g ()=some y->A):p/\A:=let⟨_,a,b⟩:=bs h;⟨aY a,k b⟩
def jz{A e g}{z:β}(h:e.bind g=some z){d b K0 r t c}n ks f{y:At->Tm}{lo:At->HL}(i:∀a,nC ks [] tm l (zb f a) [] (y a) (lo a))[u:∀a,UT (y a) (lo a)]
 (j:∀{x},e=some x->(c=true->uw Tryz.prog gE tr.find N d b.toList (λtm l=>lQ tm l (y x) (lo x)) K0 r n ((t,.bool true)::tm) l)/\(c=false->uw Tryz.prog gE tr.find N d b.toList (λtm l=>lQ tm l (y x) (lo x)) K0 r n ((t,.bool false)::tm) l))
 (k:∀v,g v=some z->vu r n λr=>SR Tryz.prog gE tr.find N d b.toList K0 r (y v) (lo v)):A\/Qz Tryz.prog gE tr.find N d b (LK K0) r ((t,.bool c)::tm) (aN l):=jb h n ks (zb f) [] W i j k
def bn{a y}{w:α}{X A D}(h:(bif a then none else y)=some w)(g:y=some w->A):((a=true->X)/\(a=false->A))\/D:=.inl (bi h no g)
def bw{a}{x y z:T α}{X A D}(h:(bif a then x else y)=z)(g:y=z->A)(f:x=z->X:=by exact λh=>oj h▸rW):((a=true->X)/\(a=false->A))\/D:=.inl (bi h f g)
def ba{a}{x y z:T α}{X A D}(h:(bif a then x else y)=z)(g:y=z->A)(f:x=z->X:=by exact λh=>jA h):((a=true->X)/\(a=false->A))\/D:=.inl (bi h f g)
def bv{a}{x y z:T α}{X A D}(h:(bif a then x else y)=z)(f:x=z->X)(g:y=z->A:=by exact λh=>oj h▸rW):((a=true->X)/\(a=false->A))\/D:=.inl (bi h f g)
def bu{a}{x y z:T α}{X A D}(h:(bif a then x else y)=z)(f:x=z->X)(g:y=z->A:=by exact λh=>jA h):((a=true->X)/\(a=false->A))\/D:=.inl (bi h f g)
def sq t{sz tok L}(h:get tm t= .sl sz tok L):gq tm l L:=.inl ⟨t,_,_,h⟩
def so j i{cs sz tok L}(h:lk l j=some (.cells cs))(k:fy cs i=some (.sl sz tok L)):gq tm l L:=.inr ⟨j,i,_,_,_,h,k⟩
def wz{w:Nat->τ->σ->T (σ⊕(α⊕β))}{p xs s f z}(h:(bo w p 0 xs s).bind (Sum.elim f some)=some z){id c K}ks(ch:Nat->σ->Tm)js(co:Nat->σ->HL)e(g:α->Tm)j(k:α->HL)
 {b:Nat->σ->Tm} {lo:Nat->σ->HL} {d} {m} (i:∀i a,nC ks js tm l (ch i a) (co i a) (b i a) (lo i a)) (n:∀a,nC e j tm l (g a) (k a) (d a) (m a)) [u:∀i s,UT (b i s) (lo i s)] [uA:∀a,UT (d a) (m a)]
 {en} (hx:gq (b 0 s) (lo 0 s) (xs.map en))
 (round:∀{x y},Sum.elim f some x=some z->∀i v s,xs[i]?=some v->i<(xs.map en).length->Rm i->w i v s=some y->SC Tryz.prog gE tr.find N c (qX id (b (i+1)) (lo (i+1)) d m x y K) (b i s) (lo i s))
 (after:∀v,f v=some z->K .normal (d v) (m v)) (hs:lQ tm l (b 0 s) (lo 0 s):=by exact qA) (stop:∀s,SC Tryz.prog gE tr.find N c (ux id d m (p s)) (b (xs.map en).length s) (lo (xs.map en).length s):=by exact λ_=>sT (sU qB)):br Tryz.prog gE 1 N (.block id (.loop c)) (LC K) tm (aN l):=li h ks ch js co e g j k i n hs hx round stop after
def mD{A}{w:Nat->τ->σ->T (σ⊕(α⊕β))}{p xs s f z}(h:(bo w p 0 xs s).bind (Sum.elim f some)=some z){id c K}ks(ch:Nat->σ->Tm)js(co:Nat->σ->HL)e(g:α->Tm)j(k:α->HL)
 {b:Nat->σ->Tm} {lo:Nat->σ->HL} {d} {m} (i:∀i a,nC ks js tm l (ch i a) (co i a) (b i a) (lo i a)) (n:∀a,nC e j tm l (g a) (k a) (d a) (m a)) [u:∀i s,UT (b i s) (lo i s)] [uA:∀a,UT (d a) (m a)]
 {en} (hx:gq (b 0 s) (lo 0 s) (xs.map en))
 (round:∀{x y},Sum.elim f some x=some z->∀i v s,xs[i]?=some v->i<(xs.map en).length->Rm i->w i v s=some y->SC Tryz.prog gE tr.find N c (qX id (b (i+1)) (lo (i+1)) d m x y K) (b i s) (lo i s))
 (after:∀v,f v=some z->K .normal (d v) (m v)) (hs:lQ tm l (b 0 s) (lo 0 s):=by exact qA) (stop:∀s,SC Tryz.prog gE tr.find N c (ux id d m (p s)) (b (xs.map en).length s) (lo (xs.map en).length s):=by exact λ_=>sT (sU qB)):A\/br Tryz.prog gE 1 N (.block id (.loop c)) (LC K) tm (aN l):=je h ks ch js co e g j k i n hs hx round stop after
def Gg{w:Nat->τ->σ->T (σ⊕(σ⊕β))}{p xs s f z}(h:(bo w p 0 xs s).bind (Sum.elim f some)=some z){id c K}t ks(ch:σ->Tm)js(co:σ->HL)
 {b} {lo} (i:∀a,nC ks js tm l (ch a) (co a) (b a) (lo a)) [u:∀s,UT (b s) (lo s)] {en} (hx:gq ((t,.int .i64 0)::b s) (lo s) (xs.map en))
 (round:∀{x y},Sum.elim f some x=some z->∀i v s,xs[i]?=some v->i<(xs.map en).length->Rm i->w i v s=some y->SC Tryz.prog gE tr.find N c (qX id (λs=>(t,.int .i64 (i+1:Nat))::b s) lo b lo x y K) ((t,.int .i64 i)::b s) (lo s))
 (after:∀v,f v=some z->K .normal (b v) (lo v)) (hs:lQ tm l ((t,.int .i64 0)::b s) (lo s):=by exact qA) (stop:∀s,SC Tryz.prog gE tr.find N c (ux id b lo (p s)) ((t,.int .i64 (xs.map en).length)::b s) (lo s):=by exact λ_=>sT (sU qB)):br Tryz.prog gE 1 N (.block id (.loop c)) (LC K) tm (aN l):=zI h t ks ch js co i hs hx round stop after
def kG{A}{w:Nat->τ->σ->T (σ⊕(σ⊕β))}{p xs s f z}(h:(bo w p 0 xs s).bind (Sum.elim f some)=some z){id c K}t ks(ch:σ->Tm)js(co:σ->HL)
 {b} {lo} (i:∀a,nC ks js tm l (ch a) (co a) (b a) (lo a)) [u:∀s,UT (b s) (lo s)] {en} (hx:gq ((t,.int .i64 0)::b s) (lo s) (xs.map en))
 (round:∀{x y},Sum.elim f some x=some z->∀i v s,xs[i]?=some v->i<(xs.map en).length->Rm i->w i v s=some y->SC Tryz.prog gE tr.find N c (qX id (λs=>(t,.int .i64 (i+1:Nat))::b s) lo b lo x y K) ((t,.int .i64 i)::b s) (lo s))
 (after:∀v,f v=some z->K .normal (b v) (lo v)) (hs:lQ tm l ((t,.int .i64 0)::b s) (lo s):=by exact qA) (stop:∀s,SC Tryz.prog gE tr.find N c (ux id b lo (p s)) ((t,.int .i64 (xs.map en).length)::b s) (lo s):=by exact λ_=>sT (sU qB)):A\/br Tryz.prog gE 1 N (.block id (.loop c)) (LC K) tm (aN l):=Bi h t ks ch js co i hs hx round stop after
def F{n}{Q:Nat->Prop}a(x:Q a)(e:n=a:=by rfl):∃k,n=k/\Q k:=⟨a,e,x⟩
def ic{n}{m:Nat->Nat}{Q:Nat->Nat->Prop}a b(x:Q a b)(e:n=a:=by rfl)(f:m a=b:=by rfl):∃k,n=k/\∃j,m k=j/\Q k j:=⟨a,e,b,f,x⟩
def iZ{n}{m:Nat->Nat}{p:Nat->Nat->Nat}{Q:Nat->Nat->Nat->Prop}a b c(x:Q a b c)(e:n=a:=by rfl)(f:m a=b:=by rfl)(g:p a b=c:=by rfl):∃k,n=k/\∃j,m k=j/\∃i,p k j=i/\Q k j i:=⟨a,e,b,f,c,g,x⟩
def bI{a}{x y z:T α}{X D}(h:(bif a then x else y)=z)(g:y=z->D)(f:x=z->X:=by exact λh=>oj h▸qB):(a=true->X)/\(a=false->D):=bi h f g
def bJ{a}{x y z:T α}{X D}(h:(bif a then x else y)=z)(f:x=z->X)(g:y=z->D:=by exact λh=>oj h▸qB):(a=true->X)/\(a=false->D):=bi h f g
def O{A:Prop}(k:A:=by exact oj h▸rW):A:=k
def zB{A:Prop}(k:A:=by exact oj h▸qB):A:=k
abbrev Ad(f:FuncId)(args:U G)(x1:G):Prop:=dB Tryz.prog gE f args [] [] x1 []
end
end
section
variable {P:Program}{ge:GE}{N b:Nat}{tm:Tm}{l:HL}{ti:Nat->T TE}{ops:Array Oper}
def uH:U Oper->Nat->Edge->U Oper
 | [],_,_=>[]
 |o::r,0,e=>{o with after:=o.after.push e}::r
 |o::r,n+1,e=>o::uH r n e
def ka(ops:Array Oper)(k i:Nat):Array Oper:=⟨uH ops.toList k {on:=i,ground:=.phase}⟩
def zN{e}:∀l k j,(uH l k e)[j]?=(l[j]?).map λo=>if j=k then{o with after:=o.after.push e}else o
 | [],k,j=>by simp[uH]
 |o::r,0,0=>by simp[uH]
 |o::r,0,j+1=>by simp[uH]
 |o::r,k+1,0=>by simp[uH]
 |o::r,k+1,j+1=>by simp only[uH,ahb];rw[zN r k j];congr 1;funext o;simp
theorem tF k i j:(ka ops k i)[j]?=(ops[j]?).map λo=>if j=k then{o with after:=o.after.push {on:=i,ground:=.phase}}else o:=by
 have:=zN (e:={on:=i,ground:=.phase}) ops.toList k j
 grind [ka]
def Cs{s w w' n}(h:(do pure (Next.value (<-s)):Sem Next).run P w= .ok n w'):∃v,n= .value v:=by
 simp only[FO]at h;cases hs:s.run P w with
 |ok v y=>rw[hs]at h;simp only[G4,Iu,Result.ok.injEq]at h;exact⟨v,h.1.symm⟩
 |halt x y=>rw[hs]at h;simp[Result.andThen]at h
def ajh{s w w' n}(h:(do s;pure Next.skip:Sem Next).run P w= .ok n w'):n= .skip:=by
 simp only[FO]at h;cases hs:s.run P w with
 |ok v y=>rw[hs]at h;simp only[G4,Iu,Result.ok.injEq]at h;exact h.1.symm
 |halt x y=>rw[hs]at h;simp[Result.andThen]at h
def QQ{r:Result Value}{w' n}(h:(r.andThen λa w'=>Result.ok (Next.value a) w')= .ok n w'):∃v,n= .value v:=by
 cases r with
 |ok v y=>simp only[G4,Result.ok.injEq]at h;exact⟨v,h.1.symm⟩
 |halt x y=>simp[Result.andThen]at h
def Sh(o:Oper):At:=match o.op with
 |.load ..|.store ..|.fieldAddr ..|.indexAddr ..|.buildSlice ..=>true
 |.call c=>match c.callee with
  |.builtin .append|.builtin .len=>true
  |_=>false
 |_=>false
def aa5{o}(h:Sh o=true){ρ w w' n}(x:(execOp ρ o).run P w= .ok n w'):(∃v,n= .value v)\/n= .skip:=by
 unfold Sh at h;split at h<;>rename_i y<;>(first|exact absurd h Bool.false_ne_true|skip)
 all_goals simp only[execOp,y]at x
 .exact .inl (Cs x)
 .exact .inr (ajh x)
 .exact .inl (Cs x)
 .exact .inl (Cs x)
 .exact .inl (Cs x)
 .split at h<;>rename_i z<;>(first|exact absurd h Bool.false_ne_true|skip)
  all_goals simp only[resolve,z,FO,Iu,G4,invoke,builtin]at x
  .exact .inl (QQ x)
  .exact .inl (QQ x)
def aa4{o}(e:Sh o=true){a w c d Q}(y:o.wp P a w c Q)(z:o.wp P a w d Q):o.wp P a w (λa w=>c a w/\d a w) Q:=by
 unfold Oper.wp at*;cases b:(execOp a.eval o).run P w with
 |ok n w'=>
  rw[b]at y z;rcases aa5 e b with⟨v,rfl⟩|rfl
  .exact⟨y,z⟩
  .exact⟨y,z⟩
 |halt x w'=>rw[b]at y;cases x<;>simp only[Oper.upon]at y ⊢<;>exact y
def avP{j}(c:∀o,ops[j]?=some o->Sh o=true){a w z b Q}(h1:wpOp P ops Q j z a w)(h2:wpOp P ops Q j b a w):wpOp P ops Q j (λa w=>z a w/\b a w) a w:=by
 unfold wpOp at*;split
 .rename_i x;simp only[x]at h1 h2;exact⟨h1,h2⟩
 .rename_i o x;simp only[x]at h1 h2;split
  .rename_i y;rw[BX y]at h1 h2;rcases h1 with h1|h1
   .rcases h2 with h2|h2
    .exact .inl (aa4 (c o x) h1 h2)
    .exact .inr h2
   .exact .inr h1
  .rename_i y;rw[BY y]at h1 h2;exact⟨h1,h2⟩
def anh k i tmps:yielded (ka ops k i) tmps=yielded ops tmps:=by
 funext j
 grind [yielded,tF,grind]
def nD{k i j a w K Q}:wpOp P (ka ops k i) Q j K a w=wpOp P ops Q j K a w:=by
 unfold wpOp;rw[tF,anh];cases ops[j]? with
 |none=>rfl
 |some o=>simp only[Jm];by_cases e:j=k<;>simp only[e,J0,JU];rfl
def fC{k i j listed}:j∈Region.ready .any (ka ops k i) listed↔j∈Region.ready .any ops listed/\(j=k->listed.getD i false=true):=by
 rw[L7,L7,tF];constructor
 .rintro⟨b,o,x,y⟩;cases z:ops[j]? with
  |none=>rw[z]at x;simp at x
  |some c=>
   rw[z]at x;simp only[Jm,Hs]at x;subst x;refine⟨⟨b,c,rfl,λe a d=>y e ?_ d⟩,λe=>y {on:=i,ground:=.phase} ?_ rfl⟩
   .split
    .simp[a]
    .exact a
   .rw[BX e];simp
 grind
def qn{k i Q}:∀fuel{listed a w},listed.getD i false=true->wpAny P .any (ka ops k i) Q fuel listed a w->wpAny P .any ops Q fuel listed a w
 |0,listed,a,w,y,h=>by
  refine⟨NU.2 λj x=>?_,h.2⟩;have:=(fC (k:=k)).2 ⟨x,λ_=>y⟩;rw[h.1]at this;simp at this
 |fuel+1,listed,a,w,y,h=>by
  refine⟨λd=>h.1 (NU.2 λj x=>?_),λj x=>?_⟩
  .have:=(fC.1 x).1;rw[d]at this;simp at this
  .have:=h.2 j (fC.2 ⟨x,λ_=>y⟩);rw[nD]at this;refine wpOp_mono (λa w h=>qn fuel ?_ h) this;by_cases e:j=i
   .subst e;cases b:(listed.setIfInBounds j true).getD j false with
    |true=>rfl
    |false=>
     have c:=(L7.1 x).1;have z:j<listed.size:=by
      apply L3;intro f;rw[JA,Array.getElem?_eq_none B9]at c;simp at c
     rw[(fw z).2 (.inl rfl)]at b;simp at b
   .rw[Kf false e];exact y
def zO{j listed}(y:j∈Region.ready .any ops listed):(listed.setIfInBounds j true).getD j false=true:=by
 have z:=(L7.1 y).1;have x:j<listed.size:=by
  grind
 exact(fw x).2 (.inl rfl)
def vF{k i}(y:i≠k)(d:∀(j:Nat)o,ops[j]?=some o->Sh o=true){Q}:∀fuel{listed a w},
 wpAny P .any (ka ops k i) Q fuel listed a w->wpAny P .any (ka ops i k) Q fuel listed a w->wpAny P .any ops Q fuel listed a w
 |0,listed,a,w,z,b=>by
  refine⟨NU.2 λj x=>?_,z.2⟩;by_cases e:j=k
  .have:=(fC (k:=i) (i:=k)).2 ⟨x,λe2=>absurd (e2.symm.trans e) y⟩;rw[b.1]at this;simp at this
  .have:=(fC (k:=k) (i:=i)).2 ⟨x,λe2=>absurd e2 e⟩;rw[z.1]at this;simp at this
 |fuel+1,listed,a,w,z,b=>by
  refine⟨λl=>z.1 (NU.2 λj x=>?_),λj x=>?_⟩
  .have:=(fC.1 x).1;rw[l]at this;simp at this
  .by_cases c:j=i
   .have:=z.2 j (fC.2 ⟨x,λe2=>absurd (c.symm.trans e2) y⟩);rw[nD]at this;exact wpOp_mono (λa w h=>qn fuel (by subst c;exact zO x) h) this
   .by_cases f:j=k
    .have:=b.2 j (fC.2 ⟨x,λe2=>absurd e2 c⟩);rw[nD]at this;exact wpOp_mono (λa w h=>qn fuel (by subst f;exact zO x) h) this
    .have k1:=z.2 j (fC.2 ⟨x,λe2=>absurd e2 f⟩);have g:=b.2 j (fC.2 ⟨x,λe2=>absurd e2 c⟩);rw[nD]at k1 g;exact wpOp_mono (λa w h=>vF y d fuel h.1 h.2) (avP (d j) k1 g)
def qS{e}:∀l k,(uH l k e).length=l.length
 | [],_=>rfl
 |o::r,0=>rfl
 |o::r,k+1=>by simp only[uH,B0];rw[qS r k]
def vG k i:(ka ops k i).size=ops.size:=by
 have:=qS (e:={on:=i,ground:=.phase}) ops.toList k
 grind [ka]
def Z2(i k n:Nat):Nat:=cond (Nat.beq n i) (2*k+1) (2*n)
def av8{i k z}(x:i<z)(y:k<z)n m(a:m<z)(h:Z2 i k n<Z2 i k m):n<z:=by
 grind [Z2,Nat.beq,Nat.eq_of_beq_eq_true,grind]
def wD(ops:Array Oper)(i k:Nat)(bA:U (Nat×DK)):At:=
 jj.ajr ops bA&&((List.range ops.size).all λi=>bA.any λp=>p.1==i)&&(bA.all λp=>decide (p.1<ops.size))&&(ru (Z2 i k) ops&&decide (i<ops.size)&&decide (k<ops.size))&&
 (bA.all λp=>match p.2 with
  |.fl|.al _=>(match ops[p.1]? with
   |some o=>(match o.dst with|some t=> !(o.looksAt ops).contains t|none=>true)
   |none=>true)
  |_=>true)
def amn{i k bA}(h:wD ops i k bA=true):fZ ops bA:=by
 simp only[wD,BR,FW]at h;obtain⟨⟨⟨⟨a,b⟩,c⟩,z⟩,d⟩:=h;have hp:∀l:U (Nat×DK),jj.ajr ops l=true->l.Pairwise λp q=>iB ops p q=true/\lX ops p q=true:=by
  intro l
  induction l with
  |nil=>intro _;exact .nil
  |cons p l f=>
   intro h;simp only[jj.ajr,BR,H0]at h;exact Lj.2 ⟨λq hq=>h.1 q hq,f h.2⟩
 refine⟨hp _ a,λi g=>?_,λp x=>?_,⟨_,z.1.1,av8 z.1.2 z.2⟩,λp x y o m t n=>?_⟩
 .have:=H0.1 b i (KY.2 g);rw[It]at this;obtain⟨q,hq,e⟩:=this;simp at e;exact⟨q.2,by rw[<-e];exact hq⟩
 .simpa using H0.1 c p x
 .have:=H0.1 d p x;rcases y with y|⟨j,y⟩<;>simp only[y,m,n]at this<;>simpa using this
def agc{d N id Q tm hp}i k(b:i≠k)(s:∀(j:Nat)o,ops[j]?=some o->Sh o=true)o1 o2 n q(C:P.follows .mixedOrders=true)
 (c:jj (ka ops k i) o1=true) (e:wD (ka ops i k) i k o2=true)
 (l:((ka ops k i).all λo=>iO N o.dst)=true) (m:((ka ops i k).all λo=>iO N o.dst)=true)
 (D:DR P ge d n N (ka ops k i) Q o1 [] [] tm hp) (K:DR P ge d q N (ka ops i k) Q o2 [] [] tm hp):br P ge d N (.region id ops true) Q tm hp:=by
 intro g fr w a f r k0 v L;refine wp_region_any C ?_;have key:∀(x:Array Oper)(bA:U (Nat×DK))(A:U Nm),x.size=ops.size->fZ x bA->((x.all λo=>iO N o.dst)=true)->DR P ge d A N x Q bA [] [] tm hp->
  wpAny P .any x (ut d g fr N Q) ops.size (Array.replicate ops.size false) a {w with drawn:=w.drawn+1}:=by
  intro x bA A y X hN h;have ok:=X;have z:∀k,(Array.replicate ops.size false).getD k false=false:=by
   intro k;rw[JA,ahf]
   grind
  refine DR.cb (P:=P) (ge:=ge) (d:=d) (A:=A) (N:=N) (Q:=Q) (fr:=fr) ok (λi o hi=>ME.1 hN o (NJ hi)) ops.size (done:=[]) (rest:=bA) (g:=g) ?_ h k0 (AV.nk.refl _ g) ?_
  .refine⟨rfl,by simp[y],?_,λp _=>z p.1,λp hp=>by simp at hp,v.1,L,λt _=>v.2 t,?_,?_,λu hu=>by simp at hu,.nil,f.ay,λp hp=>by simp at hp⟩
   .intro k o _ hk
    grind
   .simp only[hA,eO];exact(r.rel.drew (w.drawn+1))
   .simp only[hA,eO];exact r.cM
  .unfold Rt;rw[Oz.2 (λi _=>by rw[z];rfl)];simp[y]
 exact vF b s ops.size (key _ o1 n (vG k i) (o9 c) l D) (key _ o2 q (vG i k) (amn e) m K)
def DO.Is(q:DO)(ops:Array Oper)(i k N:Nat):At:=wD ops i k q.bA&&(ops.all λo=>iO N o.dst)&&q.A.all λj=>Nat.beq j.1 1&&Nat.blt j.2 q.b
def tw(P:Program)(ge:GE)(ti:Nat->T TE)(N:Nat)(ops:Array Oper)(i k:Nat)(K:Tm->HL->Prop)(tm:Tm)(l:HL):Prop:=
 (!Nat.beq i k&&ops.all Sh)=true/\
 (∃q:DO,q.ok (ka ops k i) N=true/\HZ (ka ops k i).toList (ka ops k i).toList λx=>SD P ge ti q.b q.A N x (ka ops k i).toList K q.bA [] [] tm l)/\
 (∃q:DO,q.Is (ka ops i k) i k N=true/\HZ (ka ops i k).toList (ka ops i k).toList λx=>SD P ge ti q.b q.A N x (ka ops i k).toList K q.bA [] [] tm l)
def DO.ay{q:DO}(h:(q.A.all λj=>Nat.beq j.1 1&&Nat.blt j.2 q.b)=true):∀j∈q.A,j.1=1/\j.2<q.b:=λj x=>by
 have:=H0.1 h j x;simp_all
def br.tw(E:zn P ti){id:Nat}(i k:Nat){K:Tm->HL->Prop}(h:tw P ge ti N ops i k K tm l):br P ge 1 N (.region id ops true) (λe tm hp=>e= .normal/\∃l,hp=aN l/\K tm l) tm (aN l):=by
 obtain⟨z,⟨a,x,b⟩,⟨c,y,d⟩⟩:=h;simp only[BR,Ko]at z;obtain⟨g,b⟩:=kC _ b;obtain⟨m,d⟩:=kC _ d;simp only[DO.ok,DO.Is,BR,u6]at x y;have f:i≠k:=λe=>by subst e;simp at z
 refine(agc i k f (λj o n=>ME.1 z.2 o (NJ n)) a.bA c.bA a.A c.A E.QB x.1.1 y.1.1 x.1.2 y.1.2 (SD.cb E.tt (DO.ay x.2) a.bA b ⟨by simp⟩ [] NP) (SD.cb E.tt (DO.ay y.2) c.bA d ⟨by simp⟩ [] NP)).mono ?_;rintro e tm hp ⟨rfl,l,rfl,h⟩;exact⟨rfl,l,rfl,h⟩
def nK(k:Tm->HL->Prop):KC:=λe tm l=>match e with
 |.normal=>k tm l
 |_=>False
def agd(E:zn P ti){f fn x y id args z rw rv x1}i k(a:P.funcs[f]?=some fn)(b:fn.body=some (.seq x (.seq y (.region id ops true))))(c:bW P f=true)(d:Nat.ble args.length fn.ntmps=true)
 (g:qh (z++rw) (z++rv)=true) [u:UT [(0,x1)] (z++rv)]
 (h:lD z rw λl0=>lD z rv λj=>qM 0 args λtm=>SC P ge ti fn.ntmps x (nK λtm l=>SC P ge ti fn.ntmps y (nK λtm l=>Ab.tw P ge ti fn.ntmps ops i k (ZI ti fn.ntmps fn.results.toList x1 j .normal) tm l) tm l) tm l0):dB P ge f args z rw x1 rv:=by
 refine RJ E a b c d g ?_;have h:=mb _ _ (eG _ (eG _ h));refine br.seq ((SC.cb E x h).mono ?_);rintro e tm hp ⟨l,rfl,h⟩;cases e with
 |normal=>
  refine br.seq ((SC.cb E y h).mono ?_);rintro e tm hp ⟨l,rfl,h⟩;cases e with
  |normal=>
   refine(br.tw E i k h).mono ?_;rintro e tm hp ⟨rfl,l,rfl,h⟩;exact⟨l,rfl,h⟩
  |_=>exact h.elim
 |_=>exact h.elim
def Qb{xs}{z:G}:fy (xs++[z]) ((xs.length:Int)).toNat=some z:=by rw[dJ];simp
def Qa{x f L z z'}{v:x}(h:Sub z' (f v)):bF ((L.map f++[z]).set (((L.map f).length:Int)).toNat z') ((L++[v]).map f):=by
 have e:(L.map f++[z]).set (((L.map f).length:Int)).toNat z'=L.map f++[z']:=by
  simp_all
 rw[e,HO];exact bF.app (.refl _) (.cons h (.refl _))
end
end Go.Ab
namespace Go.Proofs
section
set_option maxHeartbeats 4000000
set_option maxRecDepth 100000
open Go.RowKit Go.Maps Go.Shelf
def aaw bV w:Calls Tryz.prog 300 #[.slice bV 0 0,.int .i64 0] w λe w'=>e= .returned (.slice bV 0 0)/\w'=w:=by
 go_enter Tryz.func300,Tryz.ntmps300
 go_wp2
 go_ret
 simp_all
def aax bV(n:Nat)i z(hi:Tryz.prog.info? 9=some i)(hz:i.zero=some z)w(h0:0<n)(hs:0<i.size)(hb:i.bytes=16)(hbig:n*16<=140737488355328):
 Calls Tryz.prog 300 #[.slice bV 0 0,.int .i64 n] w λe w'=>e= .returned (.slice (some ⟨w.heap.size,0,none⟩) 0 (grownCap w n 0 9))/\
  w'=w.drew.alloc (.cells (Builtin.zeroCells z.cells n++Builtin.zeroCells z.cells (grownCap w n 0 9-n)) 9):=by
 have h1:¬((n:Int)<0):=by omega
 have h3:wrap64 ((n:Int)-0)=(n:Int):=by unfold wrap64;omega
 have h4:(n:Int)>0:=by omega
 have hold:(Builtin.firstCells i.size 0 (.slice bV 0 0)).run Tryz.prog w.drew= .ok (#[]:Array Value) w.drew:=by
  cases bV with
  |none=>exact run_firstCells_none w.drew i.size 0 0 0
  |some a=>exact run_firstCells_some w.drew i.size 0 a 0 0 [] (by simp) (λj v hj=>by simp at hj)
 have hrz:∀ty,(Builtin.append_ #[30,3] ty #[.slice bV 0 0,.int .i64 (n:Int)]).run Tryz.prog w= .ok (.slice (some ⟨w.heap.size,0,none⟩) n (grownCap w n 0 9)) (w.drew.alloc (.cells (Builtin.zeroCells z.cells n++Builtin.zeroCells z.cells (grownCap w n 0 9-n)) 9)):=λty=>by
  have h:=Lib.run_append_grow_zeros w 30 3 ty 9 i z .i64 .i64 Tryz.underlying30 Tryz.underlying3 hi hz bV 0 0 [] hold n h0 hs (by omega) (by omega) (by rw[hb];omega)
   (growslice_fits (by omega) (by rw[hb,Nat.zero_add];exact hbig))
  simpa using h
 have hGn:n<=grownCap w n 0 9:=grownCap_ge w _ _ _;obtain⟨D,hG⟩:∃D,D=grownCap w n 0 9:=⟨_,rfl⟩;rw[<-hG]at hrz hGn |-;have hG63:D<=9223372036854775807:=by
  grind [grownCap_le_maxLen,maxLen]
 clear hG hold
 go_enter Tryz.func300,Tryz.ntmps300
 cases bV with
 |none=>
  go_wp2_with (at_builtin;refine Lib.wpList_append_run _ rfl _ _ _ _ rfl _ _ rfl rfl _ _ (hrz _) ?_)
  all_goals(go_ret;exact⟨rfl,rfl⟩)
 |some a=>
  obtain⟨ab,ao,asp⟩:=a
  go_wp2_with (at_builtin;refine Lib.wpList_append_run _ rfl _ _ _ _ rfl _ _ rfl rfl _ _ (hrz _) ?_)
  all_goals(go_ret;exact⟨rfl,rfl⟩)
def aay bV w:Calls Tryz.prog 70 #[.slice bV 0 0,.int .i64 0] w λe w'=>e= .returned (.slice bV 0 0)/\w'=w:=by
 go_enter Tryz.func70,Tryz.ntmps70
 go_wp2
 go_ret
 simp_all
def aaz bV(n:Nat)i z(hi:Tryz.prog.info? 49=some i)(hz:i.zero=some z)w(h0:0<n)(hs:0<i.size)(hb:i.bytes=224)(hbig:n*224<=140737488355328):
 Calls Tryz.prog 70 #[.slice bV 0 0,.int .i64 n] w λe w'=>e= .returned (.slice (some ⟨w.heap.size,0,none⟩) 0 (grownCap w n 0 49))/\
  w'=w.drew.alloc (.cells (Builtin.zeroCells z.cells n++Builtin.zeroCells z.cells (grownCap w n 0 49-n)) 49):=by
 have h1:¬((n:Int)<0):=by omega
 have h3:wrap64 ((n:Int)-0)=(n:Int):=by unfold wrap64;omega
 have h4:(n:Int)>0:=by omega
 have hold:(Builtin.firstCells i.size 0 (.slice bV 0 0)).run Tryz.prog w.drew= .ok (#[]:Array Value) w.drew:=by
  cases bV with
  |none=>exact run_firstCells_none w.drew i.size 0 0 0
  |some a=>exact run_firstCells_some w.drew i.size 0 a 0 0 [] (by simp) (λj v hj=>by simp at hj)
 have hrz:∀ty,(Builtin.append_ #[25,3] ty #[.slice bV 0 0,.int .i64 (n:Int)]).run Tryz.prog w= .ok (.slice (some ⟨w.heap.size,0,none⟩) n (grownCap w n 0 49)) (w.drew.alloc (.cells (Builtin.zeroCells z.cells n++Builtin.zeroCells z.cells (grownCap w n 0 49-n)) 49)):=λty=>by
  have h:=Lib.run_append_grow_zeros w 25 3 ty 49 i z .i64 .i64 Tryz.underlying25 Tryz.underlying3 hi hz bV 0 0 [] hold n h0 hs (by omega) (by omega) (by rw[hb];omega)
   (growslice_fits (by omega) (by rw[hb,Nat.zero_add];exact hbig))
  simpa using h
 have hGn:n<=grownCap w n 0 49:=grownCap_ge w _ _ _;obtain⟨D,hG⟩:∃D,D=grownCap w n 0 49:=⟨_,rfl⟩;rw[<-hG]at hrz hGn |-;have hG63:D<=9223372036854775807:=by
  grind [grownCap_le_maxLen,maxLen]
 clear hG hold
 go_enter Tryz.func70,Tryz.ntmps70
 cases bV with
 |none=>
  go_wp2_with (at_builtin;refine Lib.wpList_append_run _ rfl _ _ _ _ rfl _ _ rfl rfl _ _ (hrz _) ?_)
  all_goals(go_ret;exact⟨rfl,rfl⟩)
 |some a=>
  obtain⟨ab,ao,asp⟩:=a
  go_wp2_with (at_builtin;refine Lib.wpList_append_run _ rfl _ _ _ _ rfl _ _ rfl rfl _ _ (hrz _) ?_)
  all_goals(go_ret;exact⟨rfl,rfl⟩)
end
end Go.Proofs
namespace Go.Ab
section
set_option maxHeartbeats 4000000
set_option maxRecDepth 100000
open Go Go.RowKit Go.Proofs
variable {P:Program}{ge:GE}{hp:Hp}
def dy.Gj{g w}(r:dy g w hp){j}(A:hp j=none)sz{cap b elem c}
 (D:g.bV<=b/\b<w.heap.size) (K:∀i o,hp i=some o->dq g i o≠some b) (C:g.fz b=[])
 (N:w.heap[b]?=some (.cells c elem (0,0))) (P:cap*sz<=c.size):
 ∃g',AV.Le g g'/\dy g' w (cW hp j (.tail sz 0))/\ac g' (.sl sz (.tail j) []) (.slice (some ⟨b,0,none⟩) 0 cap):=by
 let t:TI:=⟨some ⟨b,0,none⟩,0,cap⟩
 have Q:=r.bO t A;have n:=g.gG t (r.cT A);have s:=lu (g.bO j t) (j:=j) b (Q.cT A);have l:=n.trans s;have key:∀i p,cW hp j (.tail sz 0) i=some p->(i=j/\p= .tail sz 0)\/(i≠j/\hp i=some p):=by
  intro i p h;by_cases e:i=j
  .subst e;rw[bp]at h;simp at h;exact .inl ⟨rfl,h.symm⟩
  .rw[aZ _ _ e]at h;exact .inr ⟨e,h⟩
 have x:∀i p,hp i=some p->dq ((g.bO j t).push j b) i p=dq g i p:=λi p h=>by
  have z:i≠j:=λe=>by rw[e,A]at h;simp at h
  exact gC p l (r.dl h) (by simp[AV.push,AV.bO,z])
 have y:∀d,dq ((g.bO j t).push j b) j (.tail sz 0)=some d->d=b:=λd h=>by
  simp only[dq,AV.push,AV.bO,if_true,t]at h;split at h
  .simp at h;exact h.symm
  .simp at h
 refine⟨(g.bO j t).push j b,l,⟨λi=>?_,r.jI,r.size,r.fz,?_,?_,?_⟩,?_⟩
 .by_cases e:i=j
  .subst e;simp[AV.push,cW]
  .simp only[AV.push,AV.bO,aZ _ _ e,e,false_or];exact r.dC i
 .intro i p h;rcases key i p h with⟨rfl,rfl⟩|⟨z,h⟩
  .refine⟨by simp[AV.push,AV.bO,t],by simp,λ_=>⟨b,0,by simp[AV.push,AV.bO,t],by simp[AV.push,AV.bO,C],c,elem,N,by simpa[AV.push,AV.bO,t]using P⟩⟩
  .exact(r.fR i p h).lU l (r.dl h) (by simp[AV.push,AV.bO,z]) λb D=>⟨rfl,rfl⟩
 .intro i p d h m;rcases key i p h with⟨rfl,rfl⟩|⟨z,h⟩
  .rw[y d m];exact D
  .rw[x i p h]at m;exact r.el i p d h m
 .intro i k p q d X L a f;rcases key i p X with⟨rfl,rfl⟩|⟨z,h⟩
  .rcases key k q L with⟨rfl,rfl⟩|⟨u,v⟩
   .rfl
   .have e:=y d a;subst e;rw[x k q v]at f;exact absurd f (K k q v)
  .rcases key k q L with⟨rfl,rfl⟩|⟨u,v⟩
   .have e:=y d f;subst e;rw[x i p h]at a;exact absurd a (K i p h)
   .rw[x i p h]at a;rw[x k q v]at f;exact r.jH i k p q d h v a f
 .simp only[ac];exact⟨some ⟨b,0,none⟩,cap,rfl,⟨by simp,by simp⟩,by simp,λh=>absurd rfl h,by simp,by simp[dV,AV.push,AV.bO,t]⟩
def QR{f e sz bytes}(s:bW P f=true)n(l:∃i z,P.info? e=some i/\i.zero=some z/\i.size=sz/\i.bytes=bytes/\z.cells.size=sz)(hs:0<sz)(m:n*bytes<=140737488355328)
 (h0:∀a w,Calls P f #[.slice a 0 0,.int .i64 0] w λe w'=>e= .returned (.slice a 0 0)/\w'=w)
 (h1:∀a i z,P.info? e=some i->i.zero=some z->∀w,0<n->0<i.size->i.bytes=bytes->n*bytes<=140737488355328->Calls P f #[.slice a 0 0,.int .i64 n] w λe1 w'=>e1= .returned (.slice (some ⟨w.heap.size,0,none⟩) 0 (grownCap w n 0 e))/\
  w'=w.drew.alloc (.cells (Builtin.zeroCells z.cells n++Builtin.zeroCells z.cells (grownCap w n 0 e-n)) e)):
 dB P ge f [.sl 0 .fu [],.int .i64 n] [] [] (.sl sz (.tail (1,0)) []) ([]++[((1,0),.tail sz 0)]):=by
 refine⟨s,λg fr w vs p r kk Q=>?_⟩;simp only[VL,ac]at Q;obtain⟨_,_,e1,⟨a,cap,rfl,_,ha,_,t,q⟩,_,_,e2,rfl,e3⟩:=Q;have u:cap=0:=q;subst u;have Rw:vs=#[.slice a 0 0,.int .i64 n]:=Array.toList_inj.1 (by rw[e1,e2,e3];rfl);subst Rw;have b:bG (aN ([]++[])) fr (1,0)=none:=by
  have hf:fr (1,0)=none:=by
   cases hq:fr (1,0)with
   |none=>rfl
   |some o=>exact absurd (p (1,0) DS) (by simp[ol])
  simp[bG,aN,hf]
 have y:cW (bG (aN ([]++[])) fr) (1,0) (.tail sz 0)=bG (aN ([]++([]++[((1,0),.tail sz 0)]))) fr:=by
  funext j;by_cases e:j=(1,0)
  .subst e;simp[cW,bG,aN]
  .rw[aZ _ _ e];simp[bG,aN,e]
 have x:gp (aN ([]++([]++[((1,0),.tail sz 0)]))) fr:=by
  intro j;by_cases e:j=(1,0)
  .subst e;right;cases hq:fr (1,0)with
   |none=>rfl
   |some o=>exact absurd (p (1,0) DS) (by simp[ol])
  .left;simp[aN,e]
 obtain⟨i,z,l,hz,hsz,A,C⟩:=l;by_cases hn:n=0
 .subst hn;refine(h0 a w).mono λe w'⟨s,D⟩=>?_
  subst s D;have X:=(r.rel.bO ⟨a,0,0⟩ b);obtain⟨g',c,r3,d⟩:=r.rel.jW (sz:=sz) (xs:=[]) (v:=.slice a 0 0) b (by simp only[ac];exact⟨a,0,rfl,⟨by simp,by simp⟩,by simp,λh=>absurd rfl h,t,rfl⟩);refine⟨_,g',_,_,rfl,c,⟨?_,x⟩,d,rfl,rfl⟩;rw[<-y];exact r3
 .refine(h1 a i z l hz w B9 B9 A m).mono λe1 w'⟨K,D⟩=>?_
  subst K D;have L:w.heap.size<(w.drew.alloc (.cells (Builtin.zeroCells z.cells n++Builtin.zeroCells z.cells (grownCap w n 0 e-n)) e)).heap.size:=by simp
  have k:(w.drew.alloc (.cells (Builtin.zeroCells z.cells n++Builtin.zeroCells z.cells (grownCap w n 0 e-n)) e)).heap[w.heap.size]?=some (.cells (Builtin.zeroCells z.cells n++Builtin.zeroCells z.cells (grownCap w n 0 e-n)) e (0,0)):=Array.getElem?_push_size;have hb:Below w.heap.size w (w.drew.alloc (.cells (Builtin.zeroCells z.cells n++Builtin.zeroCells z.cells (grownCap w n 0 e-n)) e)):=((Below.refl _ w).drew).alloc (Nat.le_refl _) _;have r1:=r.rel.grown hb;have hG:n<=grownCap w n 0 e:=grownCap_ge w _ _ _;obtain⟨g',c,X,d⟩:=r1.Gj (j:=(1,0)) b sz (cap:=grownCap w n 0 e) ⟨r.rel.size,L⟩ (λi o l ho=>by have:=(r.rel.el i o _ l ho).2;omega)
   (by apply Classical.byContradiction;intro N;have:=r.rel.gm N;omega) k
   (by simp only[Array.size_append,size_zeroCells,C];rw[<-Nat.add_mul];exact Nat.mul_le_mul_right _ B9)
  refine⟨_,g',_,_,rfl,c,⟨?_,x⟩,d,rfl,rfl⟩;rw[<-y];exact X
def avO p(x:0<=p)(y:p*16<=140737488355328):dB Tryz.prog ge 300 [.sl 0 .fu [],.int .i64 p] [] [] (.sl 1 (.tail (1,0)) []) ([]++[((1,0),.tail 1 0)]):=by
 obtain⟨b,k1,c,d,z,k4,_,g⟩:=(eS.tt 9 _ rfl).p5;have h:=QR (P:=Tryz.prog) (ge:=ge) (f:=300) (e:=9) (sz:=1) (bytes:=16) E3 p.toNat ⟨b,z,k1,k4,c,d,g⟩ VQ B9 (λa w=>aaw a w) (λa i z j k w x hs y l=>aax a p.toNat i z j k w x hs y l)
 grind
def avN p(x:0<=p)(y:p*224<=140737488355328):dB Tryz.prog ge 70 [.sl 0 .fu [],.int .i64 p] [] [] (.sl 13 (.tail (1,0)) []) ([]++[((1,0),.tail 13 0)]):=by
 obtain⟨b,k1,c,d,z,k4,_,g⟩:=(eS.tt 49 _ rfl).p5;have h:=QR (P:=Tryz.prog) (ge:=ge) (f:=70) (e:=49) (sz:=13) (bytes:=224) E3 p.toNat ⟨b,z,k1,k4,c,d,g⟩ VQ B9 (λa w=>aay a w) (λa i z j k w x hs y l=>aaz a p.toNat i z j k w x hs y l)
 grind
end
section
set_option maxRecDepth 100000
set_option maxHeartbeats 4000000
def ak.V(x:ak):List Value:=[.int .i64 x.ah,.string x.cf,.string x.iT,.string x.name,.int .i64 x.pos]
def py:List ak->ByteArray->ak×Bool
 | [],_=>(ak.mk 0 ⟨#[]⟩ ⟨#[]⟩ ⟨#[]⟩ 0,false)
 |x::l,s=>bif bg x.name s then(x,true)else py l s
end
end Go.Ab
namespace Go.Proofs
section
set_option maxRecDepth 100000
set_option maxHeartbeats 4000000
open Go.RowKit Go.Maps Go.Shelf Go.Ab
attribute [local go_sem] Oper.semAt_some
def aaA:Ab.gV Tryz.prog 228=some true:=by kernel_rfl
def aaB:Ab.gV Tryz.prog 4=some false:=by kernel_rfl
def aaC:Ab.du Tryz.prog 228=some 5:=by kernel_rfl
def Aw(W:World)(y:Nat):List ak->Value->Prop
 | [],v=>v= .pointer none
 |x::l,v=>∃b o u,v= .pointer (some ⟨b,o,none⟩)/\b<y/\W.cell? ⟨b,o,none⟩=some u/\(∀j,(h:j<5)->W.cell? ⟨b,o+1+j,none⟩=some (x.V[j]'h))/\Aw W y l u
def Aw.kept{W c y}(a:Below y W c):∀l{v},Aw W y l v->Aw c y l v
 | [],_,h=>h
 |x::l,_,⟨b,o,u,e,z,d,f,g⟩=>⟨b,o,u,e,z,(a.cell (p:=⟨b,o,none⟩) z).trans d,λj i=>(a.cell (p:=⟨b,o+1+j,none⟩) z).trans (f j i),Aw.kept a l g⟩
def Aw.eU{W x}:∀l{v},Aw W x l v->∃p,v= .pointer p
 | [],_,h=>⟨_,h⟩
 |_::_,_,⟨_,_,_,e,_⟩=>⟨_,e⟩
def FdQ(D:List ak->Value->World->Prop)(y:ak->World->Prop):ak×Bool->World->Prop
 |(x,true),W=>y x W
 |(_,false),W=>∃u,D [] u W
def aaE F n(h7:F.fn 379)(hro:F.round=none)(hn:1<=n)lo Bs n₀(hBs:n₀<=Bs)aa Jd s
 (hc:∀l u W,aa l u W->W.heap[Bs]?=some (.cells #[u] 226 (0,0))) (hst:∀l l' u u' W,aa l u W->aa l' u' (W.setCell ⟨Bs,0,none⟩ u'))
 (hY:∀x l u W,aa (x::l) u W->YieldAt F (n-1) Tryz.prog lo #[.agg #[.int .i64 x.ah,.string x.cf,.string x.iT,.string x.name,.int .i64 x.pos]] W λe W'=>Below n₀ W W'/\(bg x.name s=true/\e= .returned (.bool false)/\Jd x W'\/bg x.name s=false/\e= .returned (.bool true)/\aa (x::l) u W'))
 l u W (h0:aa l u W) (hW:Aw W n₀ l u):
 CallsIn F n Tryz.prog 379 #[.func (.yield lo) #[] #[],.pointer (some ⟨Bs,0,none⟩)] W λe W'=>(∃v,e= .returned v)/\FdQ aa Jd (py l s) W':=by
 refine callsIn_of_wp Tryz.func379 rfl h7 ?_ hro;simp only[Tryz.ntmps379,List.size_toArray,List.length_cons,List.length_nil,Nat.reduceAdd,Nat.reduceSub,Array.replicate_succ,Array.replicate_zero,List.push_toArray,List.append_toArray,List.nil_append,List.cons_append]
 gi_wp2
 refine wpIn_loop_rounds (l.length+1) ?_
 suffices h:∀(l':List ak)(u':Value)(W':World)(x2 x3 x4 x5 x6 x7 x8 x9 x10 x11 x12 x13 x14 x15:Value),py l s=py l' s->aa l' u' W'->Aw W' n₀ l' u'->Code.roundsIn F n Tryz.prog _ _ (l'.length+1) {tmps:=#[.func (.yield lo) #[] #[],.pointer (some ⟨Bs,0,none⟩),x2,x3,x4,x5,x6,x7,x8,x9,x10,x11,x12,x13,x14,x15],defers:=[]} W' from h l u W undef undef undef undef undef undef undef undef undef undef undef undef undef undef rfl h0 hW
 intro l'
 induction l' with
 |nil=>
  intro u' W' x2 x3 x4 x5 x6 x7 x8 x9 x10 x11 x12 x13 x14 x15 hs hJ hch;have hcell:W'.cell? ⟨Bs,0,none⟩=some u':=by simp[World.cell?,hc _ _ _ hJ]
  simp only[Aw]at hch;subst hch;rw[List.length_nil,roundsIn_succ]
  gi_wp2
  go_end0
  exact⟨⟨_,rfl⟩,by rw[hs];exact⟨_,hJ⟩⟩
 |cons x l' ih=>
  intro u' W' x2 x3 x4 x5 x6 x7 x8 x9 x10 x11 x12 x13 x14 x15 hs hJ hch;have hcell:W'.cell? ⟨Bs,0,none⟩=some u':=by simp[World.cell?,hc _ _ _ hJ]
  obtain⟨b,o,u1,rfl,hlt,h1,h2,h3⟩:=hch;have c0:W'.cell? ⟨b,o+1,none⟩=some (.int .i64 x.ah):=h2 0 (by decide);have c1:W'.cell? ⟨b,o+1+1,none⟩=some (.string x.cf):=h2 1 (by decide);have c2:W'.cell? ⟨b,o+1+2,none⟩=some (.string x.iT):=h2 2 (by decide);have c3:W'.cell? ⟨b,o+1+3,none⟩=some (.string x.name):=h2 3 (by decide);have c4:W'.cell? ⟨b,o+1+4,none⟩=some (.int .i64 x.pos):=h2 4 (by decide);clear h2;obtain⟨p,rfl⟩:=Aw.eU l' h3;rw[List.length_cons,roundsIn_succ];obtain⟨fn,tmps,assign,body,hy,hR⟩:=hY x l' _ W' hJ
  gi_wp2
  refine hR.mono ?_;rintro e W3 ⟨hb,⟨hn,rfl,hJ3⟩|⟨hn,rfl,hJ3⟩⟩
  .gi_wp2
   refine bodyPost_ret (results_none rfl _ _ _) rfl ⟨⟨_,rfl⟩,?_⟩;rw[hs,py,hn];exact hJ3
  .have hcell3:W3.cell? ⟨Bs,0,none⟩=some (.pointer (some ⟨b,o,none⟩)):=by simp[World.cell?,hc _ _ _ hJ3]
   have hfr3:W3.frozen? ⟨Bs,0,none⟩=false:=by simp[World.frozen?,hc _ _ _ hJ3]
   have hu3:W3.cell? ⟨b,o,none⟩=some (.pointer p):=(hb.cell (p:=⟨b,o,none⟩) hlt).trans h1
   gi_wp2
   refine ih _ _ _ _ _ _ _ _ _ _ _ _ _ _ _ _ ?_ (hst _ _ _ _ _ hJ3) (Aw.kept (hb.trans (Below.setCell (Below.refl _ _) hBs _)) l' h3);rw[hs,py,hn];rfl
def akD:Code->Code×Code
 |.seq _ (.seq (.seq _ (.block _ (.rangeFunc _ _ a b))) _)=>(a,b)
 |_=>(.skip,.skip)
noncomputable def S0:Code×Code:=match Tryz.f160.body with
 |some c=>akD c
 |none=>(.skip,.skip)
noncomputable def m6(n:Nat)(fn:FuncId)(v g:Value)(s:ByteArray)(st:LoopState)(x:Option Code):Loop:=
 {state:=st,pending:=x,fn,tmps:=#[v,.string s,undef,.pointer (some ⟨n,0,none⟩),.pointer (some ⟨n+1,0,none⟩),.pointer (some ⟨n+1+1,0,none⟩),undef,v,g,undef,undef,undef,undef,undef,undef,undef],params:=#[9],assign:=S0.1,body:=S0.2,defers:=n+1+1+1+1}
structure U8(w0:World)(fn:FuncId)(v g:Value)(s:ByteArray)(r:Array Value)(b:Bool)(st:LoopState)(pend:Option Code)(u:Value)(W:World):Prop where
 below:Below w0.heap.size w0 W
 b3:W.heap[w0.heap.size]?=some (.cells #[.string s] 9 (0,0))
 b4:W.heap[w0.heap.size+1]?=some (.cells r 228 (0,0))
 b5:W.heap[w0.heap.size+1+1]?=some (.cells #[.bool b] 4 (0,0))
 bs:W.heap[w0.heap.size+1+1+1]?=some (.cells #[u] 226 (0,0))
 D:W.heap[w0.heap.size+1+1+1+1]?=some (.deferred (some []))
 L:W.heap[w0.heap.size+1+1+1+1+1]?=some (.loop (m6 w0.heap.size fn v g s st pend))
def tG(x:ak):Array Value:=#[.int .i64 x.ah,.string x.cf,.string x.iT,.string x.name,.int .i64 x.pos]
def oF:Array Value:=#[.int .i64 0,.string ⟨#[]⟩,.string ⟨#[]⟩,.string ⟨#[]⟩,.int .i64 0]
def gN{W:World}{B i t c}v(h:W.heap[B]?=some (.cells c t (0,0))):(W.setCell ⟨B,i,none⟩ v).heap[B]?=some (.cells (c.setIfInBounds i v) t (0,0)):=by
 obtain⟨x,y⟩:=Array.getElem?_eq_some_iff.1 h
 show(W.heap.modify B _)[B]?=_
 grind
def aaG F m w0 fn(hfn:F.fn fn)v g u s x W(h:U8 w0 fn v g s oF false .ready none u W):
 YieldAt F m Tryz.prog (w0.heap.size+1+1+1+1+1) #[.agg #[.int .i64 x.ah,.string x.cf,.string x.iT,.string x.name,.int .i64 x.pos]] W λe W'=>Below w0.heap.size W W'/\
  (bg x.name s=true/\e= .returned (.bool false)/\U8 w0 fn v g s (tG x) true .done (some .ret) u W'\/bg x.name s=false/\e= .returned (.bool true)/\U8 w0 fn v g s oF false .ready none u W'):=by
 refine⟨fn,#[v,.string s,undef,.pointer (some ⟨w0.heap.size,0,none⟩),.pointer (some ⟨w0.heap.size+1,0,none⟩),.pointer (some ⟨w0.heap.size+1+1,0,none⟩),undef,v,g,.agg #[.int .i64 x.ah,.string x.cf,.string x.iT,.string x.name,.int .i64 x.pos],undef,undef,undef,undef,undef,undef],S0.1,S0.2,by simpa[m6]using run_yield (P:=Tryz.prog) (args:=#[.agg #[.int .i64 x.ah,.string x.cf,.string x.iT,.string x.name,.int .i64 x.pos]]) h.L rfl,roundIn_of_wpIn hfn ?_⟩;simp only[S0,Tryz.f160,akD]
 gi_wp2
 have hlt:w0.heap.size+1+1+1+1+1<W.heap.size:=(Array.getElem?_eq_some_iff.1 h.L).1;have ha:∀{j:Nat}{o:Obj}(o':Obj),W.heap[j]?=some o->(W.alloc o').heap[j]?=some o:=λo' hj=>(Below.heap_alloc _ _ _ (Array.getElem?_eq_some_iff.1 hj).1).trans hj
 refine⟨_,run_beginRound (P:=Tryz.prog) (ha _ h.L) rfl,?_⟩;obtain⟨W2,hW2⟩:∃W2,(W.alloc (.cells #[.int .i64 x.ah,.string x.cf,.string x.iT,.string x.name,.int .i64 x.pos] 228)).putObj (w0.heap.size+1+1+1+1+1) (.loop {m6 w0.heap.size fn v g s .ready none with state:=.busy})=W2:=⟨_,rfl⟩;have hp:∀{j:Nat}{o:Obj},W.heap[j]?=some o->j≠w0.heap.size+1+1+1+1+1->W2.heap[j]?=some o:=λhj hne=>by rw[<-hW2];exact(World.putObj_heap_other hne).trans (ha _ hj)
 have hn:W2.heap[W.heap.size]?=some (.cells #[.int .i64 x.ah,.string x.cf,.string x.iT,.string x.name,.int .i64 x.pos] 228 (0,0)):=by rw[<-hW2];exact(World.putObj_heap_other (by omega)).trans (World.alloc_heap_new W _)
 have hL2:W2.heap[w0.heap.size+1+1+1+1+1]?=some (.loop {m6 w0.heap.size fn v g s .ready none with state:=.busy}):=by rw[<-hW2];exact World.putObj_heap_same (by simp;omega)
 have hs:=h.below.size;have hb2:Below w0.heap.size W W2:=by rw[<-hW2];exact((Below.refl _ W).alloc hs _).grown (cA _ _ _) (by simp;omega) (λk e=>by cases e;omega)
 have b3:=hp h.b3 (by omega);have b4:=hp h.b4 (by omega);have b5:=hp h.b5 (by omega);have bs:=hp h.bs (by omega);have hD:=hp h.D (by omega);rw[hW2];clear hW2 hp ha;have n0:W2.cell? ⟨W.heap.size,0,none⟩=some (.int .i64 x.ah):=by simp[World.cell?,hn]
 have n1:W2.cell? ⟨W.heap.size,1,none⟩=some (.string x.cf):=by simp[World.cell?,hn]
 have n2:W2.cell? ⟨W.heap.size,2,none⟩=some (.string x.iT):=by simp[World.cell?,hn]
 have n3:W2.cell? ⟨W.heap.size,3,none⟩=some (.string x.name):=by simp[World.cell?,hn]
 have n4:W2.cell? ⟨W.heap.size,4,none⟩=some (.int .i64 x.pos):=by simp[World.cell?,hn]
 have t3:W2.cell? ⟨w0.heap.size,0,none⟩=some (.string s):=by simp[World.cell?,b3]
 have c0:W2.cell? ⟨w0.heap.size+1,0,none⟩=some (.int .i64 0):=by simp[World.cell?,b4,oF]
 have f0:W2.frozen? ⟨w0.heap.size+1,0,none⟩=false:=by simp[World.frozen?,b4]
 obtain⟨X0,e0⟩:∃X,W2.setCell ⟨w0.heap.size+1,0,none⟩ (.int .i64 x.ah)=X:=⟨_,rfl⟩;have k0:=gN (i:=0) (.int .i64 x.ah) b4;rw[e0]at k0;have c1:X0.cell? ⟨w0.heap.size+1,1,none⟩=some (.string ⟨#[]⟩):=by simp[World.cell?,k0,oF]
 have f1:X0.frozen? ⟨w0.heap.size+1,1,none⟩=false:=by simp[World.frozen?,k0]
 obtain⟨X1,e1⟩:∃X,X0.setCell ⟨w0.heap.size+1,1,none⟩ (.string x.cf)=X:=⟨_,rfl⟩;have k1:=gN (i:=1) (.string x.cf) k0;rw[e1]at k1;have c2:X1.cell? ⟨w0.heap.size+1,2,none⟩=some (.string ⟨#[]⟩):=by simp[World.cell?,k1,oF]
 have f2:X1.frozen? ⟨w0.heap.size+1,2,none⟩=false:=by simp[World.frozen?,k1]
 obtain⟨X2,e2⟩:∃X,X1.setCell ⟨w0.heap.size+1,2,none⟩ (.string x.iT)=X:=⟨_,rfl⟩;have k2:=gN (i:=2) (.string x.iT) k1;rw[e2]at k2;have c3:X2.cell? ⟨w0.heap.size+1,3,none⟩=some (.string ⟨#[]⟩):=by simp[World.cell?,k2,oF]
 have f3:X2.frozen? ⟨w0.heap.size+1,3,none⟩=false:=by simp[World.frozen?,k2]
 obtain⟨X3,e3⟩:∃X,X2.setCell ⟨w0.heap.size+1,3,none⟩ (.string x.name)=X:=⟨_,rfl⟩;have k3:=gN (i:=3) (.string x.name) k2;rw[e3]at k3;have c4:X3.cell? ⟨w0.heap.size+1,4,none⟩=some (.int .i64 0):=by simp[World.cell?,k3,oF]
 have f4:X3.frozen? ⟨w0.heap.size+1,4,none⟩=false:=by simp[World.frozen?,k3]
 obtain⟨X4,e4⟩:∃X,X3.setCell ⟨w0.heap.size+1,4,none⟩ (.int .i64 x.pos)=X:=⟨_,rfl⟩;have k4:=gN (i:=4) (.int .i64 x.pos) k3;rw[e4]at k4;have hB:∀{j:Nat}{o:Obj},W2.heap[j]?=some o->j≠w0.heap.size+1->X4.heap[j]?=some o:=λhj hne=>by
  rw[<-e4,<-e3,<-e2,<-e1,<-e0];rw[Below.heap_setCell _ _ _ _ hne,Below.heap_setCell _ _ _ _ hne,Below.heap_setCell _ _ _ _ hne,Below.heap_setCell _ _ _ _ hne,Below.heap_setCell _ _ _ _ hne];exact hj
 have d5:X4.cell? ⟨w0.heap.size+1+1,0,none⟩=some (.bool false):=by simp[World.cell?,hB b5 (by omega)]
 have g5:X4.frozen? ⟨w0.heap.size+1+1,0,none⟩=false:=by simp[World.frozen?,hB b5 (by omega)]
 have hB2:∀{j:Nat}{o:Obj},W2.heap[j]?=some o->j≠w0.heap.size+1->j≠w0.heap.size+1+1->(X4.setCell ⟨w0.heap.size+1+1,0,none⟩ (.bool true)).heap[j]?=some o:=λhj h1 h2=>(Below.heap_setCell _ _ _ _ h2).trans (hB hj h1)
 have hbX:Below w0.heap.size W (X4.setCell ⟨w0.heap.size+1+1,0,none⟩ (.bool true)):=by
  rw[<-e4,<-e3,<-e2,<-e1,<-e0];exact(((((hb2.setCell (by simp) _).setCell (by simp) _).setCell (by simp) _).setCell (by simp) _).setCell (by simp) _).setCell (by simp;omega) _
 have k5:=gN (i:=0) (.bool true) (hB b5 (by omega));have kB4:(X4.setCell ⟨w0.heap.size+1+1,0,none⟩ (.bool true)).heap[w0.heap.size+1]?=some (.cells (tG x) 228 (0,0)):=(Below.heap_setCell _ _ _ _ (by simp)).trans k4;have hLX:=hB2 hL2 (by omega) (by omega);have hDX:=hB2 hD (by omega) (by omega);have hsX:=hB2 bs (by omega) (by omega);have h3X:=hB2 b3 (by omega) (by omega)
 gi_wp2
 .rename_i hxs;have hbe:=hbX.grown (cA _ (w0.heap.size+1+1+1+1+1) (.loop {{m6 w0.heap.size fn v g s .ready none with state:=.busy}with state:=.done,pending:=some .ret})) (Nat.le_trans hs hbX.size) (λk e=>by cases e;omega);refine⟨_,_,run_endRound (some .ret) hLX,hbe,.inl ⟨by rw[<-vQ];exact hxs,rfl,h.below.trans hbe,?_,?_,?_,?_,?_,?_⟩⟩
  .exact(World.putObj_heap_other (by omega)).trans h3X
  .exact(World.putObj_heap_other (by omega)).trans kB4
  .exact(World.putObj_heap_other (by omega)).trans k5
  .exact(World.putObj_heap_other (by omega)).trans hsX
  .exact(World.putObj_heap_other (by omega)).trans hDX
  .exact World.putObj_heap_same (Array.getElem?_eq_some_iff.1 hLX).1
 .rename_i hxs;have hbe:=hb2.grown (cA _ (w0.heap.size+1+1+1+1+1) (.loop {{m6 w0.heap.size fn v g s .ready none with state:=.busy}with state:=.ready,pending:=none})) (Nat.le_trans hs hb2.size) (λk e=>by cases e;omega);refine⟨_,_,run_endRound none hL2,hbe,.inr ⟨by rw[<-vQ];exact hxs,rfl,h.below.trans hbe,?_,?_,?_,?_,?_,?_⟩⟩
  .exact(World.putObj_heap_other (by omega)).trans b3
  .exact(World.putObj_heap_other (by omega)).trans b4
  .exact(World.putObj_heap_other (by omega)).trans b5
  .exact(World.putObj_heap_other (by omega)).trans bs
  .exact(World.putObj_heap_other (by omega)).trans hD
  .exact World.putObj_heap_same (Array.getElem?_eq_some_iff.1 hL2).1
def aaI F n(h7:F.fn 295)(hro:F.round=none)p w:
 CallsIn F n Tryz.prog 295 #[.pointer p] w λe w'=>e= .returned (.func (.func 379) #[] #[.pointer (some ⟨w.heap.size,0,none⟩)])/\w'=w.alloc (.cells #[.pointer p] 226):=by
 refine callsIn_of_wp Tryz.func295 rfl h7 ?_ hro;simp only[Tryz.ntmps295,List.size_toArray,List.length_cons,List.length_nil,Nat.reduceAdd,Nat.reduceSub,Array.replicate_succ,Array.replicate_zero,List.push_toArray,List.append_toArray,List.nil_append,List.cons_append]
 gi_wp2
 go_ret
 exact⟨rfl,rfl⟩
abbrev Xt(n:Nat):Value:=.func (.func 379) #[] #[.pointer (some ⟨n+1+1+1,0,none⟩)]
def gT{W:World}{B i v c t}(h:W.heap[B]?=some (.cells c t (0,0)))(x:c[i]?=some v):W.setCell ⟨B,i,none⟩ v=W:=by
 obtain⟨y,b⟩:=Array.getElem?_eq_some_iff.1 h;obtain⟨z,a⟩:=Array.getElem?_eq_some_iff.1 x;have d:c.setIfInBounds i v=c:=by
  grind
 have:(W.setCell ⟨B,i,none⟩ v).heap=W.heap:=by
  grind [World.setCell,Array.ext,Array.getElem_modify_self,Array.getElem_modify_of_ne]
 show{W with heap:=(W.setCell ⟨B,i,none⟩ v).heap}=W
 rw[this]
def amN{s}:∀l{x},py l s=(x,false)->x=ak.mk 0 ⟨#[]⟩ ⟨#[]⟩ ⟨#[]⟩ 0
 | [],_,h=>by simp[py]at h;exact h.symm
 |y::l,_,h=>by
  simp only[py]at h;cases e:bg y.name s<;>rw[e]at h
  .exact amN l h
  .simp at h
def QS{x b W n tmps}(h1:W.heap[n+1]?=some (.cells (tG x) 228 (0,0)))(h2:W.heap[n+1+1]?=some (.cells #[.bool b] 4 (0,0)))(e1:tmps[4]?.getD undef= .pointer (some ⟨n+1,0,none⟩))(e2:tmps[5]?.getD undef= .pointer (some ⟨n+1+1,0,none⟩)):
 (results Tryz.f160 tmps).run Tryz.prog W= .ok (.tuple #[.agg (tG x),.bool b]) W:=by
 have hl1:(loadVar 228 ⟨n+1,0,none⟩).run Tryz.prog W= .ok (.agg (tG x)) W:=by
  have hl:(loadCells ⟨n+1,0,none⟩ 5).run Tryz.prog W= .ok (tG x) W:=
   run_loadCells_list (P:=Tryz.prog) W ⟨n+1,0,none⟩ [.int .i64 x.ah,.string x.cf,.string x.iT,.string x.name,.int .i64 x.pos] (λj v hv=>by
    have hadd:(⟨n+1,0,none⟩:Addr).add j=⟨n+1,j,none⟩:=by unfold Addr.add;split<;>simp_all
    rw[hadd];simp only[World.cell?,h1,tG];simpa using hv)
  simp[loadVar,Sem.run_bind,Ab.ly aaA,Ab.dH aaC,hl]
 have hl2:(loadVar 4 ⟨n+1+1,0,none⟩).run Tryz.prog W= .ok (.bool b) W:=by
  have hcl:W.cell? ⟨n+1+1,0,none⟩=some (.bool b):=by simp[World.cell?,h2]
  simp[loadVar,Sem.run_bind,Ab.ly aaB,hcl,go_sem]
 simp[results,Tryz.f160,asAddr,hl1,hl2,Sem.run_bind,Result.andThen,e1,e2]
def aaJ F n(h1:F.fn 160)(h2:F.fn 295)(h3:F.fn 379)(hro:F.round=none)(hn:2<=n)l v s w(hw:Aw w w.heap.size l v):
 CallsIn F n Tryz.prog 160 #[v,.string s] w λe w'=>e= .returned (.tuple #[.agg (tG (py l s).1),.bool (py l s).2])/\Below w.heap.size w w':=by
 obtain⟨p,rfl⟩:=Aw.eU l hw;have h1n:1<=n:=by omega
 have eg:∀args w,(callFunc 379 args).run Tryz.prog w= .ok (.enter 379 args) w:=λargs w=>enters_of Tryz.func379 (by kernel_rfl) rfl args w
 refine callsIn_of_wp_marks Tryz.func160 rfl h1 ?_ hro;simp only[Tryz.ntmps160,List.size_toArray,List.length_cons,List.length_nil,Nat.reduceAdd,Nat.reduceSub,Array.replicate_succ,Array.replicate_zero,List.push_toArray,List.append_toArray,List.nil_append,List.cons_append]
 gi_wp2_with (gi_at_call 295;refine(aaI F (n-1) h2 hro _ _).mono ?_;rintro e w' ⟨rfl,rfl⟩)
 refine wpIn_rangeFunc ?_;intro fn hfn;rw[hro];obtain⟨W0,hW0⟩:∃W0,(((w.alloc (.cells #[.string s] 9)).alloc (.cells #[.int .i64 0,.string ⟨#[]⟩,.string ⟨#[]⟩,.string ⟨#[]⟩,.int .i64 0] 228)).alloc (.cells #[.bool false] 4)).alloc (.cells #[.pointer p] 226)=W0:=⟨_,rfl⟩;have hs0:W0.heap.size=w.heap.size+1+1+1+1:=by rw[<-hW0];simp
 have hn1:∀(W:World)(o:Obj)(k:Nat),W.heap.size=k->(W.alloc o).heap[k]?=some o:=λW o k e=>by subst e;exact World.alloc_heap_new W o
 have ho1:∀(W:World)(o o':Obj)(k:Nat),W.heap[k]?=some o'->(W.alloc o).heap[k]?=some o':=λW o o' k hk=>(Below.heap_alloc _ _ _ (Array.getElem?_eq_some_iff.1 hk).1).trans hk
 obtain⟨W1,hW1⟩:∃W1,(W0.alloc (.deferred (some []))).alloc (.loop (m6 w.heap.size fn (.pointer p) (.func (.func 379) #[] #[.pointer (some ⟨w.heap.size+1+1+1,0,none⟩)]) s .ready none))=W1:=⟨_,rfl⟩;have hJ:U8 w fn (.pointer p) (Xt w.heap.size) s oF false .ready none (.pointer p) W1:=by
  rw[<-hW1];refine⟨?_,ho1 _ _ _ _ (ho1 _ _ _ _ ?_),ho1 _ _ _ _ (ho1 _ _ _ _ ?_),ho1 _ _ _ _ (ho1 _ _ _ _ ?_),ho1 _ _ _ _ (ho1 _ _ _ _ ?_),ho1 _ _ _ _ (hn1 _ _ _ (by rw[hs0])),hn1 _ _ _ (by simp[hs0])⟩
  .rw[<-hW0];exact((((((Below.refl _ w).alloc (Nat.le_refl _) _).alloc (by simp) _).alloc (by simp;omega) _).alloc (by simp;omega) _).alloc (by simp;omega) _).alloc (by simp;omega) _
  .rw[<-hW0];exact ho1 _ _ _ _ (ho1 _ _ _ _ (ho1 _ _ _ _ (hn1 _ _ _ rfl)))
  .rw[<-hW0];exact ho1 _ _ _ _ (ho1 _ _ _ _ (hn1 _ _ _ (by simp)))
  .rw[<-hW0];exact ho1 _ _ _ _ (hn1 _ _ _ (by simp))
  .rw[<-hW0];exact hn1 _ _ _ (by simp)
 rw[hW0];refine⟨w.heap.size+1+1+1+1+1,[{target:=.collected (w.heap.size+1+1+1+1),args:=#[]}],W1,{target:=.fn (.func 379) #[.pointer (some ⟨w.heap.size+1+1+1,0,none⟩)],args:=#[.func (.yield (w.heap.size+1+1+1+1+1)) #[] #[]]},W1,379,
  #[.func (.yield (w.heap.size+1+1+1+1+1)) #[] #[]]++#[.pointer (some ⟨w.heap.size+1+1+1,0,none⟩)],W1,?_,?_,?_,?_,λ_=>h1n,?_⟩
 .have:=run_enterLoop_outer (P:=Tryz.prog) fn #[.pointer p,.string s,undef,.pointer (some ⟨w.heap.size,0,none⟩),.pointer (some ⟨w.heap.size+1,0,none⟩),.pointer (some ⟨w.heap.size+1+1,0,none⟩),undef,.pointer p,.func (.func 379) #[] #[.pointer (some ⟨w.heap.size+1+1+1,0,none⟩)],undef,undef,undef,undef,undef,undef,undef] #[9] S0.1 S0.2 (w:=W0);rw[hs0]at this;rw[<-hW1];exact this
 .simp[resolve,go_sem]
 .intro f' hf';simp[Target.leads]at hf';subst hf';exact h3
 .simp[invoke,go_sem,eg]
 .refine(aaE F (n-1) h3 hro (by omega) _ (w.heap.size+1+1+1) w.heap.size (by omega) (λ_ u W=>U8 w fn (.pointer p) (Xt w.heap.size) s oF false .ready none u W)
   (λx W=>∃u,U8 w fn (.pointer p) (Xt w.heap.size) s (tG x) true .done (some .ret) u W) s (λ_ _ _ h=>h.bs) (λ_ _ u u' W h=>?_) (λx _ u W h=>?_) l _ _ hJ (Aw.kept hJ.below l hw)).mono ?_
  .have hk:=gN (i:=0) u' h.bs;exact⟨h.below.setCell (by simp;omega) _,(Below.heap_setCell _ _ _ _ (by show _≠w.heap.size+1+1+1;omega)).trans h.b3,(Below.heap_setCell _ _ _ _ (by simp<;>omega)).trans h.b4,(Below.heap_setCell _ _ _ _ (by simp<;>omega)).trans h.b5,hk,(Below.heap_setCell _ _ _ _ (by simp<;>omega)).trans h.D,(Below.heap_setCell _ _ _ _ (by simp<;>omega)).trans h.L⟩
  .obtain⟨f',t,a,b,hy,hR⟩:=aaG F (n-1-1) w fn hfn _ _ u s x W h;exact⟨f',t,a,b,hy,hR.mono λe W'⟨k1,k2⟩=>⟨k1,k2.imp (λk=>⟨k.1,k.2.1,_,k.2.2⟩) id⟩⟩
  .rintro e W2 ⟨⟨v0,rfl⟩,hQ⟩;rcases hf:py l s with⟨x,b⟩
   rw[hf]at hQ;cases b with
   |true=>
    obtain⟨u,hQ⟩:=hQ;refine⟨some .ret,_,run_endLoop (P:=Tryz.prog) hQ.L (by simp[m6]),?_⟩;obtain⟨W,hW⟩:∃W,W2.putObj (w.heap.size+1+1+1+1+1) (.loop {m6 w.heap.size fn (.pointer p) (Xt w.heap.size) s .done (some .ret)with state:=.exhausted})=W:=⟨_,rfl⟩;have hb:Below w.heap.size w W:=by rw[<-hW];exact hQ.below.grown (cA _ _ _) hQ.below.size (λk e=>by cases e;omega)
    have h4:W.heap[w.heap.size+1]?=some (.cells (tG x) 228 (0,0)):=by rw[<-hW];exact(World.putObj_heap_other (by omega)).trans hQ.b4
    have h5:W.heap[w.heap.size+1+1]?=some (.cells #[.bool true] 4 (0,0)):=by rw[<-hW];exact(World.putObj_heap_other (by omega)).trans hQ.b5
    have hD:W.heap[w.heap.size+1+1+1+1]?=some (.deferred (some [])):=by rw[<-hW];exact(World.putObj_heap_other (by omega)).trans hQ.D
    rw[hW];clear hW hQ hJ
    show Code.wpIn F n Tryz.prog .ret _ _ _
    gi_wp2
    refine⟨by simp,.inl ⟨_,_,rfl,run_takeDeferred hD,?_⟩⟩;have hW4:=(World.putObj_heap_other (w:=W) (r:=w.heap.size+1+1+1+1) (k:=w.heap.size+1) (o:=.deferred none) (by omega)).trans h4;have hW5:=(World.putObj_heap_other (w:=W) (r:=w.heap.size+1+1+1+1) (k:=w.heap.size+1+1) (o:=.deferred none) (by omega)).trans h5;exact⟨_,QS hW4 hW5 rfl rfl,by rw[hf],hb.grown (cA _ _ _) hb.size (λk e=>by cases e;omega)⟩
   |false=>
    obtain⟨u,hQ⟩:=hQ;refine⟨none,_,run_endLoop (P:=Tryz.prog) hQ.L (by simp[m6]),?_⟩;obtain⟨W,hW⟩:∃W,W2.putObj (w.heap.size+1+1+1+1+1) (.loop {m6 w.heap.size fn (.pointer p) (Xt w.heap.size) s .ready none with state:=.exhausted})=W:=⟨_,rfl⟩;have hb:Below w.heap.size w W:=by rw[<-hW];exact hQ.below.grown (cA _ _ _) hQ.below.size (λk e=>by cases e;omega)
    have h4:W.heap[w.heap.size+1]?=some (.cells oF 228 (0,0)):=by rw[<-hW];exact(World.putObj_heap_other (by omega)).trans hQ.b4
    have h5:W.heap[w.heap.size+1+1]?=some (.cells #[.bool false] 4 (0,0)):=by rw[<-hW];exact(World.putObj_heap_other (by omega)).trans hQ.b5
    have hD:W.heap[w.heap.size+1+1+1+1]?=some (.deferred (some [])):=by rw[<-hW];exact(World.putObj_heap_other (by omega)).trans hQ.D
    rw[hW];clear hW hQ hJ;rename_i Q' K hQK
    show K _ W
    refine hQK _ _ ?_;have c0:W.cell? ⟨w.heap.size+1,0,none⟩=some (.int .i64 0):=by simp[World.cell?,h4,oF]
    have c1:W.cell? ⟨w.heap.size+1,1,none⟩=some (.string ⟨#[]⟩):=by simp[World.cell?,h4,oF]
    have c2:W.cell? ⟨w.heap.size+1,2,none⟩=some (.string ⟨#[]⟩):=by simp[World.cell?,h4,oF]
    have c3:W.cell? ⟨w.heap.size+1,3,none⟩=some (.string ⟨#[]⟩):=by simp[World.cell?,h4,oF]
    have c4:W.cell? ⟨w.heap.size+1,4,none⟩=some (.int .i64 0):=by simp[World.cell?,h4,oF]
    have c5:W.cell? ⟨w.heap.size+1+1,0,none⟩=some (.bool false):=by simp[World.cell?,h5]
    have fr:∀k,W.frozen? ⟨w.heap.size+1,k,none⟩=false:=λk=>by simp[World.frozen?,h4]
    have f5:W.frozen? ⟨w.heap.size+1+1,0,none⟩=false:=by simp[World.frozen?,h5]
    have s0:W.setCell ⟨w.heap.size+1,0,none⟩ (.int .i64 0)=W:=gT h4 rfl;have s1:W.setCell ⟨w.heap.size+1,1,none⟩ (.string ⟨#[]⟩)=W:=gT h4 rfl;have s2:W.setCell ⟨w.heap.size+1,2,none⟩ (.string ⟨#[]⟩)=W:=gT h4 rfl;have s3:W.setCell ⟨w.heap.size+1,3,none⟩ (.string ⟨#[]⟩)=W:=gT h4 rfl;have s4:W.setCell ⟨w.heap.size+1,4,none⟩ (.int .i64 0)=W:=gT h4 rfl;have s5:W.setCell ⟨w.heap.size+1+1,0,none⟩ (.bool false)=W:=gT h5 rfl
    gi_wp2
    try simp only[s0,s1,s2,s3,s4,s5]
    refine⟨by simp,.inl ⟨_,_,rfl,run_takeDeferred hD,?_⟩⟩;have hx:x=ak.mk 0 ⟨#[]⟩ ⟨#[]⟩ ⟨#[]⟩ 0:=by have:=amN l hf;exact this
    have hW4:=(World.putObj_heap_other (w:=W) (r:=w.heap.size+1+1+1+1) (k:=w.heap.size+1) (o:=.deferred none) (by omega)).trans h4;have hW5:=(World.putObj_heap_other (w:=W) (r:=w.heap.size+1+1+1+1) (k:=w.heap.size+1+1) (o:=.deferred none) (by omega)).trans h5;exact⟨_,QS (x:=ak.mk 0 ⟨#[]⟩ ⟨#[]⟩ ⟨#[]⟩ 0) hW4 hW5 rfl rfl,by rw[hf,hx],hb.grown (cA _ _ _) hb.size (λk e=>by cases e;omega)⟩
end
end Go.Proofs
namespace Go.Ab
section
set_option maxRecDepth 100000
set_option maxHeartbeats 4000000
open Go Go.RowKit Go.Proofs
def alH{g w hp}(r:dy g w hp):∀l{v},nZ g.fz (l.map ak.V) v->Aw w w.heap.size l v
 | [],_,h=>h
 |x::l,_,⟨b,o,u,e,hp,h⟩=>by
  have a:g.fz b≠ []:=by intro e;rw[e]at hp;simp at hp
  obtain⟨c,n,fr,k,d⟩:=r.fz b a;have y:∀j,(z:j<6)->w.cell? ⟨b,o+j,none⟩=some ((u::x.V)[j]'z):=λj z=>by
   have f:((g.fz b).drop o)[j]?=some ((u::x.V)[j]'z):=by
    obtain⟨t,i⟩:=hp;rw[<-i,List.getElem?_append_left (by exact z)];exact List.getElem?_eq_getElem _
   rw[List.getElem?_drop]at f;obtain⟨t,i⟩:=d;have m:c.toList[o+j]?=some ((u::x.V)[j]'z):=by
    rw[<-i,List.getElem?_append_left (List.getElem?_eq_some_iff.1 f).1];exact f
   simp[World.cell?,k];simpa using m
  exact⟨b,o,u,e,r.gm a,y 0 VQ,λj z=>by have:=y (j+1) B9;rw[Nat.add_assoc,Nat.add_comm 1 j];exact this,alH r l h⟩
def avw{ge}p0 x:
 dB Tryz.prog ge 160 [.mR (p0.map ak.V),.str x] [] [] (.bZ [(py p0 x).1.X,.bool (py p0 x).2]) []:=by
 refine⟨by decide+kernel,λg fr w vs z r c y=>?_⟩;simp only[VL,ac]at y;obtain⟨v,_,e1,a,_,_,rfl,rfl,e3⟩:=y;subst e3;have Rw:vs=#[v,.string x]:=Array.toList_inj.1 (by rw[e1]);subst Rw;refine(callsIn_wide.1 (aaJ Fence.wide 2 trivial trivial trivial rfl (Nat.le_refl _) p0 v x w (alH r.rel p0 a))).mono λe w'⟨e1,b⟩=>?_
 subst e1;exact⟨_,g,_,_,rfl,AV.Le.refl g,⟨r.rel.grown b,r.cM⟩,by simp[ac,VL,ak.X,ak.C,R8,R7,ak.T,tG],rfl,rfl⟩
end
end Go.Ab

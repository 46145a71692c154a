/- The logic of the walk. -/
import Derived.Test.YtlahelaeeahggaaGreatDoorA13
set_option linter.all false
open Go Go.RowKit
namespace Go.Ab
section
open Go Go.RowKit Go.Proofs
variable {N b:Nat}{tm tm' c r:Tm}{l l' d q:HL}{α β γ σ ρ τ:Type}
class S0(ks:List Nat)(tm c:Tm)(r:outParam Tm):Prop
class S1(tm:Tm)(i:Nat)(x:outParam AV):Prop
instance (p:Nat×AV)(i:Nat)(x:AV)[S1 tm i x]:S1 (p::tm) i x:=⟨⟩
instance (i:Nat)(x:AV):S1 ((i,x)::tm) i x:=⟨⟩
instance:S0 [] tm c c:=⟨⟩
instance (k:Nat)(ks:amx Nat)(x:AV)[S1 tm k x][S0 ks tm c r]:S0 (k::ks) tm c ((k,x)::r):=⟨⟩
class Pn(l:HL)(j:Nm)(o:bk)(r:outParam HL):Prop
class S2(l:HL)(j:Nm)(r:outParam HL):Prop
class S3(l c:HL)(r:outParam HL):Prop
class S4(js:List Nm)(l c:HL)(r:outParam HL):Prop
instance (p:Nm×bk)(j:Nm)(o:bk)[Pn l j o q]:Pn (p::l) j o (p::q):=⟨⟩
instance (j:Nm)(o p:bk):Pn ((j,p)::l) j o ((j,o)::l):=⟨⟩
instance (p:Nm×bk)(j:Nm)[S2 l j q]:S2 (p::l) j (p::q):=⟨⟩
instance (j:Nm)(o:bk):S2 ((j,o)::l) j l:=⟨⟩
instance:S3 l [] l:=⟨⟩
instance (j:Nm)(o:bk)[Pn l j o l'][S3 l' d q]:S3 l ((j,o)::d) q:=⟨⟩
instance [S3 l d q]:S4 [] l d q:=⟨⟩
instance (j:Nm)(js:amx Nm)[S2 l j l'][S4 js l' d q]:S4 (j::js) l d q:=⟨⟩
class Oe(l:HL)(r:outParam HL):Prop
instance:Oe [] []:=⟨⟩
instance (p:Nm×bk)[Oe l q]:Oe (p::l) (p::q):=⟨⟩
instance (j:Nm)(o:bk)[Oe l l'][Pn l' j o q]:Oe (cR j o l) q:=⟨⟩
class kJ(ks:List Nat)(js:List Nm)(tm:Tm)(l:HL)(c:Tm)(d:HL)(r:outParam Tm)(q:outParam HL):Prop
instance (ks:amx Nat)(js:amx Nm)[S0 ks tm c r][Oe l l'][S4 js l' d q]:kJ ks js tm l c d r q:=⟨⟩
theorem I{ks:amx Nat}{js:amx Nm}{ch emb:α->Tm}{co lo:α->HL}[i:∀a,kJ ks js tm l (ch a) (co a) (emb a) (lo a)]:∀a,kJ ks js tm l (ch a) (co a) (emb a) (lo a):=i
theorem J{ks:amx Nat}{js:amx Nm}{ch emb:α->β->Tm}{co lo:α->β->HL}[i:∀a b,kJ ks js tm l (ch a b) (co a b) (emb a b) (lo a b)]:∀a b,kJ ks js tm l (ch a b) (co a b) (emb a b) (lo a b):=i
def gF{m n w:Nat}{u:Unit}(c:ck n w=some u)(e:m=n):m*w<=140737488355328:=by
 subst e;unfold ck at c;split at c
 ·assumption
 ·simp at c
theorem LF{t:Nat}{k:IntKind}{n:Int}{e:Tm}(u:UT e l):UT ((t,.int k n)::e) l where
 iP p hp:=by
  rcases amE.1 hp with rfl|hp
  ·trivial
  ·exact u.iP p hp
 AK:=u.AK
instance (S:amx Nm)(i:Nat)(x:AV)(cs:amx AV)[h:dM S cs][k:UN S x]:dM S (dN cs i x):=⟨by
 have h:=h.out;have k:=k.out
 induction cs generalizing i with
 |nil=>exact h
 |cons c cs ih=>
  simp only[AV.bP]at h;cases i with
  |zero=>simp only[dN,AV.bP];exact⟨k,h.2⟩
  |succ i=>simp only[dN,AV.bP];exact⟨h.1,ih i h.2⟩⟩
def sT{X:amx AV}{Q:amx AV->Prop}(k:Q X):∃ys,bC X ys/\Q ys:=⟨_,.refl _,k⟩
def sU{n:Nat}{U V B:Prop}(k:V):((decide ((n:Int)<(n:Int))=true->U)/\(decide ((n:Int)<(n:Int))=false->V))\/B:=.inl ⟨λc=>eG c,λ_=>k⟩
def sV{i n:Nat}{U V B:Prop}(hi:i<n)(k:U):((decide ((i:Int)<(n:Int))=true->U)/\(decide ((i:Int)<(n:Int))=false->V))\/B:=.inl ⟨λ_=>k,λc=>eC hi c⟩
def rX{A B:Prop}(a:A)(b:B):(Exit.ret= .normal\/Exit.ret= .ret)/\A/\B:=⟨.inr rfl,a,b⟩
def rN{A B:Prop}(a:A)(b:B):(Exit.normal= .normal\/Exit.normal= .ret)/\A/\B:=⟨.inl rfl,a,b⟩
def Z{x:amy α}{g:α->amy β}{y:β}{G:Prop}(h:x.bind g=some y)(k:∀v,x=some v->g v=some y->G):G:=let⟨v,a,b⟩:=bs h;k v a b
def zS{x:AV}:Sub x x:=.refl _
abbrev o1:amx Nm:=[(0,0)]
abbrev o2:amx Nm:=[(0,0),(0,1)]
abbrev o3:amx Nm:=[(0,0),(0,1),(0,2)]
abbrev o4:amx Nm:=[(0,0),(0,1),(0,2),(0,3)]
abbrev Ac(f:FuncId)(args:amx AV)(ro rw:HL)(x1:AV)(rv:HL):Prop:=df Tryz.prog gE f args ro rw x1 rv
def tv:True:=trivial
def B{x:amx AV}:bC x x:=.refl _
def zA{x:AV}:Sub x x:=.refl _
def E(a:Nat):Nat->amx (Nat×DK)->amx (Nat×DK)
 |0,r=>r
 |n+1,r=>(a,.fl)::E (a+1) n r
def qc(a:Nat):Nat->amx (Nat×DK)->amx (Nat×DK)
 |0,r=>r
 |n+1,r=>(a,.ch)::qc (a+1) n r
def qt(a:Nat):Nat->amx (Nat×DK)->amx (Nat×DK)
 |0,r=>r
 |n+1,r=>(a,.tl)::qt (a+1) n r
def bi{a:amz}{x y z:amy α}{X Y:Prop}(h:(bif a then x else y)=z)(f:x=z->X)(g:y=z->Y):(a=true->X)/\(a=false->Y):=⟨λe=>f (bt e h),λe=>g (bf e h)⟩
def oj{x y:α}(h:some x=some y):x=y:=am5 h
def no{x:α}{X:Prop}(h:none=some x):X:=by cases h
def cP{P:Program}{ge:GE}{f:FuncId}{args acu:amx AV}{x:amy α}{g:α->amy β}{y:β}{x1:α->AV}{K:KX}(h:x.bind g=some y)(C:∀{v},x=some v->df P ge f args [] [] (x1 v) [])(s:bC acu args)[ua:dM [] args][ur:∀v,UN [] (x1 v)]
 (hd:(l.all λp=>Nat.ble p.1.1 1)=true) (k:∀v,g v=some y->K (x1 v) l []):bL P f=true/\lK P ge b f acu (aM l) (CH b l K):=by
 obtain⟨v,hv,h⟩:=bs h;exact Kh (C hv) s hd (k v h)
def jo{mk:α->β}{v:α}{y:β}{emb:α->Tm}{lo:α->HL}(h:some (mk v)=some y)(k0:iG (lo v) l=true)(kh:fS l (lo v))(ks:nj tm (emb v)):∃v,y=mk v/\jC tm l (emb v) (lo v):=⟨v,(am5 h).symm,k0,kh,ks⟩
def jx{f:α->amy ρ}{x:α⊕ρ}{r0 r:ρ}{Q:Prop}(h:some (Sum.inr r0)=some x)(ho:Sum.elim f some x=some r)(k:some r0=some r->Q):∃r',x= .inr r'/\Q:=⟨r0,(am5 h).symm,k (jO h ho)⟩
def lx{f:α->amy ρ}{x:α⊕ρ}{y:σ⊕(α⊕ρ)}{r0 r:ρ}{Q:Prop}(h:some (Sum.inr (Sum.inr r0))=some y)(ho:Sum.elim f some x=some r)(k:some r0=some r->Q):∃r',y= .inr (.inr r')/\(x= .inr r'->Q):=⟨r0,(am5 h).symm,λe=>k (lO e ho)⟩
abbrev W{α β:Type}:α->amx β:=λ_=>[]
abbrev zb(t:Nat):amz->Tm:=λs=>[(t,.bool s)]
abbrev zi(t:Nat):Int->Tm:=λs=>[(t,.int .i64 s)]
def bj{a:amz}{x y z:amy α}{X Y Z:Prop}(h:(bif a then x else y)=z)(f:x=z->X)(g:y=z->Y):((a=true->X)/\(a=false->Y))\/Z:=.inl (bi h f g)
class RA(ν:List Nm)(args:List AV)(ro rw:HL)(x1:α->AV)(rv:α->HL)(acw:outParam (List AV))(ro' rw':outParam HL)(x1':outParam (α->AV))(rv':outParam (α->HL)):Prop where
 a:sK ν args acw
 b:BK ν ro ro'
 c:BK ν rw rw'
 d:∀v,Rn ν (x1 v) (x1' v)
 e:∀v,BK ν (rv v) (rv' v)
instance (ν:amx Nm)(args acw:amx AV)(ro rw ro' rw':HL)(x1 x1':α->AV)(rv rv':α->HL)[a:sK ν args acw][b:BK ν ro ro'][c:BK ν rw rw'][d:∀v,Rn ν (x1 v) (x1' v)][e:∀v,BK ν (rv v) (rv' v)]:RA ν args ro rw x1 rv acw ro' rw' x1' rv':=⟨a,b,c,d,e⟩
theorem M{ν:amx Nm}{args acw:amx AV}{ro rw ro' rw':HL}{x1 x1':α->AV}{rv rv':α->HL}[i:RA ν args ro rw x1 rv acw ro' rw' x1' rv']:RA ν args ro rw x1 rv acw ro' rw' x1' rv':=i
def cH{P:Program}{ge:GE}{f:FuncId}{args acw:amx AV}{ro rw ro' rw':HL}{x:amy α}{g:α->amy β}{y:β}{x1 x1':α->AV}{rv rv':α->HL}{K:KX}{acu:amx AV}(h:x.bind g=some y)(ν:amx Nm)(C:∀{v},x=some v->df P ge f args ro rw (x1 v) (rv v))
 (i:RA ν args ro rw x1 rv acw ro' rw' x1' rv') (hn:(λv=>(kx ν&&tF 0 (ro++rw)&&Nat.beq ν.length (ro++rw).length&&(ν.all λj=>Nat.ble j.1 1)&&((ro++rw).map (·.1)==(ro++rv v).map (·.1))))=λ_=>true)
 (s:bC acu acw) (h5:(l.all λp=>Nat.ble p.1.1 1)=true) (hro:nt l ro') (hrw:fS l rw') (k:∀v,g v=some y->oR (rv' v) l λl'=>K (x1' v) l' (rw'.map (·.1))):bL P f=true/\lK P ge b f acu (aM l) (CH b l K):=by
 obtain⟨v,hv,h⟩:=bs h;have:=i.a;have:=i.b;have:=i.c;have:=i.d v;have:=i.e v;exact gH ν (C hv) (congrFun hn v) s h5 hro hrw (k v h)
def E6{xo:amy (α⊕β)}{f:α->amy β}{z:β}(h:xo.bind (Sum.elim f some)=some z){c:Code}{K:KC}(ks:amx Nat)(ch:α->Tm)(js:amx Nm)(co:α->HL){emb:α->Tm}{lo:α->HL}(i:∀a,kJ ks js tm l (ch a) (co a) (emb a) (lo a))[u:∀a,UT (emb a) (lo a)]
 (body:∀{x},xo=some x->Sum.elim f some x=some z->SC Tryz.prog gE tr.find N c (ON emb lo x K) tm l) (k:∀v,f v=some z->K .normal (emb v) (lo v)):bB Tryz.prog gE 1 N c (LC K) tm (aM l):=by
 obtain⟨x,hx,h⟩:=bs h;exact bB.jn dX emb lo (body hx h) λv e=>k v (jL e h)
def jn{A:Prop}{xo:amy (α⊕β)}{f:α->amy β}{z:β}(h:xo.bind (Sum.elim f some)=some z){c:Code}{K:KC}(ks:amx Nat)(ch:α->Tm)(js:amx Nm)(co:α->HL){emb:α->Tm}{lo:α->HL}(i:∀a,kJ ks js tm l (ch a) (co a) (emb a) (lo a))[u:∀a,UT (emb a) (lo a)]
 (body:∀{x},xo=some x->Sum.elim f some x=some z->SC Tryz.prog gE tr.find N c (ON emb lo x K) tm l) (k:∀v,f v=some z->K .normal (emb v) (lo v)):A\/bB Tryz.prog gE 1 N c (LC K) tm (aM l):=.inr (E6 h ks ch js co i body k)
def Po{xo:amy (α⊕β)}{f:α->amy β}{z:β}(h:xo.bind (Sum.elim f some)=some z){c:Code}{K:KC}(ks:amx Nat)(ch:α->Tm)(js:amx Nm)(co:α->HL){emb:α->Tm}{lo:α->HL}(i:∀a,kJ ks js tm l (ch a) (co a) (emb a) (lo a))[u:∀a,UT (emb a) (lo a)]
 (body:∀{x},xo=some x->Sum.elim f some x=some z->SC Tryz.prog gE tr.find N c (ON emb lo x K) tm l) (k:∀v,f v=some z->∃tm' l',Wk 1 N (emb v) (aM (lo v)) tm' (aM l')/\K .normal tm' l'):bB Tryz.prog gE 1 N c (LC K) tm (aM l):=by
 obtain⟨x,hx,h⟩:=bs h;exact bB.Z3 dX emb lo (body hx h) λv e=>k v (jL e h)
def jb{A:Prop}{xo:amy α}{g:α->amy β}{z:β}(h:xo.bind g=some z){gs:amx Nat}{ops:Array Oper}{K0:Tm->HL->Prop}{r:amx Oper}{t:Nat}{c:amz}(n:Nat)(ks:amx Nat)(ch:α->Tm)(js:amx Nm)(co:α->HL){emb:α->Tm}{lo:α->HL}(i:∀a,kJ ks js tm l (ch a) (co a) (emb a) (lo a))[u:∀a,UT (emb a) (lo a)]
 (h1:∀{x},xo=some x->(c=true->pv Tryz.prog gE tr.find N gs ops.toList (λtm l=>jC tm l (emb x) (lo x)) K0 r n ((t,.bool true)::tm) l)/\(c=false->pv Tryz.prog gE tr.find N gs ops.toList (λtm l=>jC tm l (emb x) (lo x)) K0 r n ((t,.bool false)::tm) l))
 (k:∀v,g v=some z->p7 r n λr=>SR Tryz.prog gE tr.find N gs ops.toList K0 r (emb v) (lo v)):A\/Ke Tryz.prog gE tr.find N gs ops (LK K0) r ((t,.bool c)::tm) (aM l):=by
 obtain⟨x,hx,h⟩:=bs h;exact .inr (mT.jb dX n emb lo x (h1 hx).1 (h1 hx).2 (k x h))
def tO{step:σ->amy (σ⊕(α⊕β))}{n:Nat}{s:σ}{f:α->amy β}{z:β}(h:(aP step n s).bind (Sum.elim f some)=some z){id:Nat}{c:Code}{K:KC}(ks:amx Nat)(ch:σ->Tm)(js:amx Nm)(co:σ->HL)(ks':amx Nat)(ch':α->Tm)(js':amx Nm)(co':α->HL)
 {emb:σ->Tm} {lo:σ->HL} {acq:α->Tm} {lA:α->HL} (i:∀a,kJ ks js tm l (ch a) (co a) (emb a) (lo a)) (i':∀a,kJ ks' js' tm l (ch' a) (co' a) (acq a) (lA a)) [u:∀s,UT (emb s) (lo s)] [uA:∀a,UT (acq a) (lA a)]
 (hs:jC tm l (emb s) (lo s)) (round:∀{x y},Sum.elim f some x=some z->∀s,step s=some y->SC Tryz.prog gE tr.find N c (nF id emb lo acq lA x y K) (emb s) (lo s))
 (after:∀v,f v=some z->K .normal (acq v) (lA v)):bB Tryz.prog gE 1 N (.block id (.loop c)) (LC K) tm (aM l):=by
 obtain⟨x,hx,h⟩:=bs h;exact bB.lp dX emb lo acq lA hx hs (λs y e=>round h s e) λv e=>after v (jL e h)
def lp{A:Prop}{step:σ->amy (σ⊕(α⊕β))}{n:Nat}{s:σ}{f:α->amy β}{z:β}(h:(aP step n s).bind (Sum.elim f some)=some z){id:Nat}{c:Code}{K:KC}(ks:amx Nat)(ch:σ->Tm)(js:amx Nm)(co:σ->HL)(ks':amx Nat)(ch':α->Tm)(js':amx Nm)(co':α->HL)
 {emb:σ->Tm} {lo:σ->HL} {acq:α->Tm} {lA:α->HL} (i:∀a,kJ ks js tm l (ch a) (co a) (emb a) (lo a)) (i':∀a,kJ ks' js' tm l (ch' a) (co' a) (acq a) (lA a)) [u:∀s,UT (emb s) (lo s)] [uA:∀a,UT (acq a) (lA a)]
 (hs:jC tm l (emb s) (lo s)) (round:∀{x y},Sum.elim f some x=some z->∀s,step s=some y->SC Tryz.prog gE tr.find N c (nF id emb lo acq lA x y K) (emb s) (lo s))
 (after:∀v,f v=some z->K .normal (acq v) (lA v)):A\/bB Tryz.prog gE 1 N (.block id (.loop c)) (LC K) tm (aM l):=.inr (tO h ks ch js co ks' ch' js' co' i i' hs round after)
def Zh{w:Nat->τ->σ->amy (σ⊕(α⊕β))}{p:σ->α}{xs:amx τ}{s:σ}{f:α->amy β}{z:β}(h:(bg w p 0 xs s).bind (Sum.elim f some)=some z){id:Nat}{c:Code}{K:KC}(ks:amx Nat)(ch:Nat->σ->Tm)(js:amx Nm)(co:Nat->σ->HL)(ks':amx Nat)(ch':α->Tm)(js':amx Nm)(co':α->HL)
 {emb:Nat->σ->Tm} {lo:Nat->σ->HL} {acq:α->Tm} {lA:α->HL} (i:∀i a,kJ ks js tm l (ch i a) (co i a) (emb i a) (lo i a)) (i':∀a,kJ ks' js' tm l (ch' a) (co' a) (acq a) (lA a)) [u:∀i s,UT (emb i s) (lo i s)] [uA:∀a,UT (acq a) (lA a)]
 (hs:jC tm l (emb 0 s) (lo 0 s)) {en:τ->AV} (hx:fg (emb 0 s) (lo 0 s) (xs.map en))
 (round:∀{x y},Sum.elim f some x=some z->∀i v s,xs[i]?=some v->i<(xs.map en).length->i+1<=4611686018427387904->w i v s=some y->SC Tryz.prog gE tr.find N c (nF id (emb (i+1)) (lo (i+1)) acq lA x y K) (emb i s) (lo i s))
 (stop:∀s,SC Tryz.prog gE tr.find N c (pw id acq lA (p s)) (emb (xs.map en).length s) (lo (xs.map en).length s))
 (after:∀v,f v=some z->K .normal (acq v) (lA v)):bB Tryz.prog gE 1 N (.block id (.loop c)) (LC K) tm (aM l):=by
 obtain⟨x,hx',h⟩:=bs h;exact bB.fr dX emb lo acq lA hx' hs hx (λi v s y a b c e=>round h i v s a b c e) stop λv e=>after v (jL e h)
def fo{A:Prop}{w:Nat->τ->σ->amy (σ⊕(α⊕β))}{p:σ->α}{xs:amx τ}{s:σ}{f:α->amy β}{z:β}(h:(bg w p 0 xs s).bind (Sum.elim f some)=some z){id:Nat}{c:Code}{K:KC}(ks:amx Nat)(ch:Nat->σ->Tm)(js:amx Nm)(co:Nat->σ->HL)(ks':amx Nat)(ch':α->Tm)(js':amx Nm)(co':α->HL)
 {emb:Nat->σ->Tm} {lo:Nat->σ->HL} {acq:α->Tm} {lA:α->HL} (i:∀i a,kJ ks js tm l (ch i a) (co i a) (emb i a) (lo i a)) (i':∀a,kJ ks' js' tm l (ch' a) (co' a) (acq a) (lA a)) [u:∀i s,UT (emb i s) (lo i s)] [uA:∀a,UT (acq a) (lA a)]
 (hs:jC tm l (emb 0 s) (lo 0 s)) {en:τ->AV} (hx:fg (emb 0 s) (lo 0 s) (xs.map en))
 (round:∀{x y},Sum.elim f some x=some z->∀i v s,xs[i]?=some v->i<(xs.map en).length->i+1<=4611686018427387904->w i v s=some y->SC Tryz.prog gE tr.find N c (nF id (emb (i+1)) (lo (i+1)) acq lA x y K) (emb i s) (lo i s))
 (stop:∀s,SC Tryz.prog gE tr.find N c (pw id acq lA (p s)) (emb (xs.map en).length s) (lo (xs.map en).length s))
 (after:∀v,f v=some z->K .normal (acq v) (lA v)):A\/bB Tryz.prog gE 1 N (.block id (.loop c)) (LC K) tm (aM l):=.inr (Zh h ks ch js co ks' ch' js' co' i i' hs hx round stop after)
def lqA{step:σ->amy (σ⊕(σ⊕β))}{n:Nat}{s:σ}{f:σ->amy β}{z:β}(h:(aP step n s).bind (Sum.elim f some)=some z){id:Nat}{c:Code}{K:KC}(ks:amx Nat)(ch:σ->Tm)(js:amx Nm)(co:σ->HL)
 {emb:σ->Tm} {lo:σ->HL} (i:∀a,kJ ks js tm l (ch a) (co a) (emb a) (lo a)) [u:∀s,UT (emb s) (lo s)]
 (hs:jC tm l (emb s) (lo s)) (round:∀{x y},Sum.elim f some x=some z->∀s,step s=some y->SC Tryz.prog gE tr.find N c (nF id emb lo emb lo x y K) (emb s) (lo s))
 (after:∀v,f v=some z->K .normal (emb v) (lo v)):bB Tryz.prog gE 1 N (.block id (.loop c)) (LC K) tm (aM l):=tO h ks ch js co ks ch js co i i hs round after
def lq{A:Prop}{step:σ->amy (σ⊕(σ⊕β))}{n:Nat}{s:σ}{f:σ->amy β}{z:β}(h:(aP step n s).bind (Sum.elim f some)=some z){id:Nat}{c:Code}{K:KC}(ks:amx Nat)(ch:σ->Tm)(js:amx Nm)(co:σ->HL)
 {emb:σ->Tm} {lo:σ->HL} (i:∀a,kJ ks js tm l (ch a) (co a) (emb a) (lo a)) [u:∀s,UT (emb s) (lo s)]
 (hs:jC tm l (emb s) (lo s)) (round:∀{x y},Sum.elim f some x=some z->∀s,step s=some y->SC Tryz.prog gE tr.find N c (nF id emb lo emb lo x y K) (emb s) (lo s))
 (after:∀v,f v=some z->K .normal (emb v) (lo v)):A\/bB Tryz.prog gE 1 N (.block id (.loop c)) (LC K) tm (aM l):=.inr (lqA h ks ch js co i hs round after)
def Zi{w:Nat->τ->σ->amy (σ⊕(σ⊕β))}{p:σ->σ}{xs:amx τ}{s:σ}{f:σ->amy β}{z:β}(h:(bg w p 0 xs s).bind (Sum.elim f some)=some z){id:Nat}{c:Code}{K:KC}(t:Nat)(ks:amx Nat)(ch:σ->Tm)(js:amx Nm)(co:σ->HL)
 {emb:σ->Tm} {lo:σ->HL} (i:∀a,kJ ks js tm l (ch a) (co a) (emb a) (lo a)) [u:∀s,UT (emb s) (lo s)] (hs:jC tm l ((t,.int .i64 (0:Nat))::emb s) (lo s)) {en:τ->AV} (hx:fg ((t,.int .i64 (0:Nat))::emb s) (lo s) (xs.map en))
 (round:∀{x y},Sum.elim f some x=some z->∀i v s,xs[i]?=some v->i<(xs.map en).length->i+1<=4611686018427387904->w i v s=some y->SC Tryz.prog gE tr.find N c (nF id (λs=>(t,.int .i64 (i+1:Nat))::emb s) lo emb lo x y K) ((t,.int .i64 (i:Nat))::emb s) (lo s))
 (stop:∀s,SC Tryz.prog gE tr.find N c (pw id emb lo (p s)) ((t,.int .i64 (xs.map en).length)::emb s) (lo s))
 (after:∀v,f v=some z->K .normal (emb v) (lo v)):bB Tryz.prog gE 1 N (.block id (.loop c)) (LC K) tm (aM l):=by
 obtain⟨x,hx',h⟩:=bs h;exact bB.fr dX (λi s=>(t,.int .i64 (i:Nat))::emb s) (λ_=>lo) emb lo (u:=λi s=>LF (u s)) hx' hs hx (λi v s y a b c e=>round h i v s a b c e) stop λv e=>after v (jL e h)
def fq{A:Prop}{w:Nat->τ->σ->amy (σ⊕(σ⊕β))}{p:σ->σ}{xs:amx τ}{s:σ}{f:σ->amy β}{z:β}(h:(bg w p 0 xs s).bind (Sum.elim f some)=some z){id:Nat}{c:Code}{K:KC}(t:Nat)(ks:amx Nat)(ch:σ->Tm)(js:amx Nm)(co:σ->HL)
 {emb:σ->Tm} {lo:σ->HL} (i:∀a,kJ ks js tm l (ch a) (co a) (emb a) (lo a)) [u:∀s,UT (emb s) (lo s)] (hs:jC tm l ((t,.int .i64 (0:Nat))::emb s) (lo s)) {en:τ->AV} (hx:fg ((t,.int .i64 (0:Nat))::emb s) (lo s) (xs.map en))
 (round:∀{x y},Sum.elim f some x=some z->∀i v s,xs[i]?=some v->i<(xs.map en).length->i+1<=4611686018427387904->w i v s=some y->SC Tryz.prog gE tr.find N c (nF id (λs=>(t,.int .i64 (i+1:Nat))::emb s) lo emb lo x y K) ((t,.int .i64 (i:Nat))::emb s) (lo s))
 (stop:∀s,SC Tryz.prog gE tr.find N c (pw id emb lo (p s)) ((t,.int .i64 (xs.map en).length)::emb s) (lo s))
 (after:∀v,f v=some z->K .normal (emb v) (lo v)):A\/bB Tryz.prog gE 1 N (.block id (.loop c)) (LC K) tm (aM l):=.inr (Zi h t ks ch js co i hs hx round stop after)
def UI:(Tryz.prog.funcs.all λf=> !(f.name== "runtime.NumGoroutine"))=true:=by decide+kernel
def Zj{f:FuncId}{fn:Func}{c:Code}(hf:Tryz.prog.funcs[f]?=some fn)(hb:fn.body=some c):bL Tryz.prog f=true:=by
 have:=aoq.1 UI fn (aoC hf);unfold bL;rw[hf];simp only[hb,Option.isSome_some,Bool.true_and];exact this
def Zk{o:amy Code}{x y:amz}(h:(o.isSome&&x&&y)=true):∃c,o=some c/\x=true/\y=true:=by
 cases o with
 |none=>simp at h
 |some c=>simp at h;exact⟨c,rfl,h.1,h.2⟩
def en{f:FuncId}{fn:Func}{args:amx AV}{ro rw rv:HL}{x1:AV}(hf:Tryz.prog.funcs[f]?=some fn)(hb:(fn.body.isSome&&Nat.ble args.length fn.ntmps&&mV (ro++rw) (ro++rv))=true)
 [u:UT [(0,x1)] (ro++rv)] (h:jk ro rw λl0=>jk ro rv λl1=>nq 0 args λtm=>SC Tryz.prog gE tr.find fn.ntmps (fn.body.getD .skip) (Y2 tr.find fn.results.toList x1 l1) tm l0):df Tryz.prog gE f args ro rw x1 rv:=
 have⟨c,h1,h2,h3⟩:=Zk hb;df.enter dX hf h1 (Zj hf h1) h2 h3 (by rw[h1]at h;exact h)
def eN{f:FuncId}{fn:Func}{args:amx AV}{ro rw rv:HL}{x1:AV}(hf:Tryz.prog.funcs[f]?=some fn)(hb:(fn.body.isSome&&Nat.ble args.length fn.ntmps&&mV (ro++rw) (ro++rv))=true)
 [u:UT [(0,x1)] (ro++rv)] (h:jk ro rw λl0=>jk ro rv λl1=>nq 0 args λtm=>SC Tryz.prog gE tr.find fn.ntmps (fn.body.getD .skip) (SQ tr.find fn.ntmps fn.results.toList x1 l1) tm l0):df Tryz.prog gE f args ro rw x1 rv:=
 have⟨c,h1,h2,h3⟩:=Zk hb;df.gR dX hf h1 (Zj hf h1) h2 h3 (by rw[h1]at h;exact h)
section
abbrev Sa(x:AV):Prop:=Sub x x
abbrev So(x:bk):Prop:=iL x x
def wo{x:bk}:So x:=.refl _
variable {a b c d e f g h i j k l m n o p q r s t u v w x:AV}{z:Prop}{A B:amx AV}
def mi:Sa a/\True:=⟨zA,trivial⟩
def Zl(y:z):Sa a/\z:=⟨zA,y⟩
def dr(y:bC A B):bC (a::A) (a::B):=.cons zA y
def iI:Sa a/\Sa b/\True:=⟨zA,mi⟩
def KE2(y:z):Sa a/\Sa b/\z:=⟨zA,Zl y⟩
def jY(y:bC A B):bC (a::b::A) (a::b::B):=.cons zA (dr y)
def tP:Sa a/\Sa b/\Sa c/\True:=⟨zA,iI⟩
def S5(y:z):Sa a/\Sa b/\Sa c/\z:=⟨zA,KE2 y⟩
def hE(y:bC A B):bC (a::b::c::A) (a::b::c::B):=.cons zA (jY y)
def CQ:Sa a/\Sa b/\Sa c/\Sa d/\True:=⟨zA,tP⟩
def Zm(y:z):Sa a/\Sa b/\Sa c/\Sa d/\z:=⟨zA,S5 y⟩
def el(y:bC A B):bC (a::b::c::d::A) (a::b::c::d::B):=.cons zA (hE y)
def Kr:Sa a/\Sa b/\Sa c/\Sa d/\Sa e/\True:=⟨zA,CQ⟩
def KE5(y:z):Sa a/\Sa b/\Sa c/\Sa d/\Sa e/\z:=⟨zA,Zm y⟩
def uu(y:bC A B):bC (a::b::c::d::e::A) (a::b::c::d::e::B):=.cons zA (el y)
def E7:Sa a/\Sa b/\Sa c/\Sa d/\Sa e/\Sa f/\True:=⟨zA,Kr⟩
def KE6(y:z):Sa a/\Sa b/\Sa c/\Sa d/\Sa e/\Sa f/\z:=⟨zA,KE5 y⟩
def Pp(y:bC A B):bC (a::b::c::d::e::f::A) (a::b::c::d::e::f::B):=.cons zA (uu y)
def E8:Sa a/\Sa b/\Sa c/\Sa d/\Sa e/\Sa f/\Sa g/\True:=⟨zA,E7⟩
def Zn(y:z):Sa a/\Sa b/\Sa c/\Sa d/\Sa e/\Sa f/\Sa g/\z:=⟨zA,KE6 y⟩
def Zo(y:bC A B):bC (a::b::c::d::e::f::g::A) (a::b::c::d::e::f::g::B):=.cons zA (Pp y)
def Pq:Sa a/\Sa b/\Sa c/\Sa d/\Sa e/\Sa f/\Sa g/\Sa h/\True:=⟨zA,E8⟩
def KE8(y:z):Sa a/\Sa b/\Sa c/\Sa d/\Sa e/\Sa f/\Sa g/\Sa h/\z:=⟨zA,Zn y⟩
def UJ(y:bC A B):bC (a::b::c::d::e::f::g::h::A) (a::b::c::d::e::f::g::h::B):=.cons zA (Zo y)
def Zp:Sa a/\Sa b/\Sa c/\Sa d/\Sa e/\Sa f/\Sa g/\Sa h/\Sa i/\True:=⟨zA,Pq⟩
def KE9(y:z):Sa a/\Sa b/\Sa c/\Sa d/\Sa e/\Sa f/\Sa g/\Sa h/\Sa i/\z:=⟨zA,KE8 y⟩
def kC9(y:bC A B):bC (a::b::c::d::e::f::g::h::i::A) (a::b::c::d::e::f::g::h::i::B):=.cons zA (UJ y)
def UL:Sa a/\Sa b/\Sa c/\Sa d/\Sa e/\Sa f/\Sa g/\Sa h/\Sa i/\Sa j/\True:=⟨zA,Zp⟩
def UM(y:z):Sa a/\Sa b/\Sa c/\Sa d/\Sa e/\Sa f/\Sa g/\Sa h/\Sa i/\Sa j/\z:=⟨zA,KE9 y⟩
def UP(y:bC A B):bC (a::b::c::d::e::f::g::h::i::j::A) (a::b::c::d::e::f::g::h::i::j::B):=.cons zA (kC9 y)
def UQ:Sa a/\Sa b/\Sa c/\Sa d/\Sa e/\Sa f/\Sa g/\Sa h/\Sa i/\Sa j/\Sa k/\True:=⟨zA,UL⟩
def UR(y:z):Sa a/\Sa b/\Sa c/\Sa d/\Sa e/\Sa f/\Sa g/\Sa h/\Sa i/\Sa j/\Sa k/\z:=⟨zA,UM y⟩
def US(y:bC A B):bC (a::b::c::d::e::f::g::h::i::j::k::A) (a::b::c::d::e::f::g::h::i::j::k::B):=.cons zA (UP y)
def UU:Sa a/\Sa b/\Sa c/\Sa d/\Sa e/\Sa f/\Sa g/\Sa h/\Sa i/\Sa j/\Sa k/\Sa l/\True:=⟨zA,UQ⟩
def UV(y:z):Sa a/\Sa b/\Sa c/\Sa d/\Sa e/\Sa f/\Sa g/\Sa h/\Sa i/\Sa j/\Sa k/\Sa l/\z:=⟨zA,UR y⟩
def Pr(y:bC A B):bC (a::b::c::d::e::f::g::h::i::j::k::l::A) (a::b::c::d::e::f::g::h::i::j::k::l::B):=.cons zA (US y)
def UW:Sa a/\Sa b/\Sa c/\Sa d/\Sa e/\Sa f/\Sa g/\Sa h/\Sa i/\Sa j/\Sa k/\Sa l/\Sa m/\True:=⟨zA,UU⟩
def UX(y:z):Sa a/\Sa b/\Sa c/\Sa d/\Sa e/\Sa f/\Sa g/\Sa h/\Sa i/\Sa j/\Sa k/\Sa l/\Sa m/\z:=⟨zA,UV y⟩
def UY(y:bC A B):bC (a::b::c::d::e::f::g::h::i::j::k::l::m::A) (a::b::c::d::e::f::g::h::i::j::k::l::m::B):=.cons zA (Pr y)
def pz:Sa a/\Sa b/\Sa c/\Sa d/\Sa e/\Sa f/\Sa g/\Sa h/\Sa i/\Sa j/\Sa k/\Sa l/\Sa m/\Sa n/\True:=⟨zA,UW⟩
def Ps(y:z):Sa a/\Sa b/\Sa c/\Sa d/\Sa e/\Sa f/\Sa g/\Sa h/\Sa i/\Sa j/\Sa k/\Sa l/\Sa m/\Sa n/\z:=⟨zA,UX y⟩
def Pt(y:bC A B):bC (a::b::c::d::e::f::g::h::i::j::k::l::m::n::A) (a::b::c::d::e::f::g::h::i::j::k::l::m::n::B):=.cons zA (UY y)
def Pu(y:bC A B):bC (a::b::c::d::e::f::g::h::i::j::k::l::m::n::o::A) (a::b::c::d::e::f::g::h::i::j::k::l::m::n::o::B):=.cons zA (Pt y)
end
section
variable {a b c d e f g h i j k l m n o:bk}{z:Prop}
def di:So a/\True:=⟨wo,trivial⟩
def wq(y:z):So a/\z:=⟨wo,y⟩
def jR:So a/\So b/\True:=⟨wo,di⟩
def qg(y:z):So a/\So b/\z:=⟨wo,wq y⟩
def DW:So a/\So b/\So c/\True:=⟨wo,jR⟩
def UZ(y:z):So a/\So b/\So c/\z:=⟨wo,qg y⟩
def AZ:So a/\So b/\So c/\So d/\True:=⟨wo,DW⟩
def Zq(y:z):So a/\So b/\So c/\So d/\z:=⟨wo,UZ y⟩
def iN:So a/\So b/\So c/\So d/\So e/\True:=⟨wo,AZ⟩
def CR:So a/\So b/\So c/\So d/\So e/\So f/\True:=⟨wo,iN⟩
def LG:So a/\So b/\So c/\So d/\So e/\So f/\So g/\True:=⟨wo,CR⟩
def U0:So a/\So b/\So c/\So d/\So e/\So f/\So g/\So h/\True:=⟨wo,LG⟩
def S6:So a/\So b/\So c/\So d/\So e/\So f/\So g/\So h/\So i/\True:=⟨wo,U0⟩
def pA:So a/\So b/\So c/\So d/\So e/\So f/\So g/\So h/\So i/\So j/\True:=⟨wo,S6⟩
end
section
variable {a b c d e f g h i j k l m n o p q r s t u v w x:Nat}{t0 t1 t2 t3 t4 t5 t6 t7 t8 t9 Zr U1:iA}{A B:amx AV}
def hP(y:bC A B):bC (.sl a t0 []::A) (.sl m .no []::B):=.cons nl y
def fh(y:bC A B):bC (.sl a t0 []::.sl b t1 []::A) (.sl m .no []::.sl n .no []::B):=.cons nl (hP y)
def hT(y:bC A B):bC (.sl a t0 []::.sl b t1 []::.sl c t2 []::A) (.sl m .no []::.sl n .no []::.sl o .no []::B):=.cons nl (fh y)
def U2(y:bC A B):bC (.sl a t0 []::.sl b t1 []::.sl c t2 []::.sl d t3 []::A) (.sl m .no []::.sl n .no []::.sl o .no []::.sl p .no []::B):=.cons nl (hT y)
end
section
variable {acE:Tm}{lo:HL}
instance:SA (tC []) (.bR []):=⟨.refl _⟩
instance {x y:AV}[h:SA x y]:SA (tC [x]) y:=⟨h.o⟩
instance {x z y:AV}{r:amx AV}[h:SA (.bR (x::z::r)) y]:SA (tC (x::z::r)) y:=⟨h.o⟩
instance {x y:AV}{t:Nat}[e:LT tm t x][h:SA x y]:SA (get tm t) y:=⟨by rw[e.o];exact h.o⟩
class K0(lo l:HL):Prop where o:iG lo l=true
instance:K0 lo []:=⟨rfl⟩
instance {k:Nat}{o:bk}[h:K0 lo l]:K0 lo (((1,k),o)::l):=⟨by simp[iG,h.o]⟩
instance {k:Nat}{o p:bk}[e:LH lo (0,k) p][h:K0 lo l]:K0 lo (((0,k),o)::l):=⟨by simp[iG,h.o,nk,e.o]⟩
def o9{j:Nm}{o:bk}(h:iG lo [(j,o)]=true):{l:HL}->iG lo l=true->iG lo (cR j o l)=true
 | [],_=>h
 |(i,p)::l,k=>by
  simp only[iG,amC,Bool.and_true]at h k;simp only[cR];split<;>simp only[iG,amC]
  ·exact⟨h,k.2⟩
  ·exact⟨k.1,o9 (by simpa only[iG,Bool.and_true]using h) k.2⟩
instance {j:Nm}{o:bk}[h:K0 lo [(j,o)]][k:K0 lo l]:K0 lo (cR j o l):=⟨o9 h.o k.o⟩
class AT(tm:Tm)(l:HL)(acE:Tm)(lo:HL):Prop where o:jC tm l acE lo
instance [a:K0 lo l][h:KH l lo][k:KT tm acE]:AT tm l acE lo:=⟨a.o,h.o,k.o⟩
def qB[a:K0 lo l][h:KH l lo][k:KT tm acE]:iG lo l=true/\fS l lo/\nj tm acE:=⟨a.o,h.o,k.o⟩
def S{P:Program}{ge:GE}{f:FuncId}{args acu:amx AV}{x:amy α}{g:α->amy β}{y:β}{x1:α->AV}{K:KX}(h:x.bind g=some y)(C:∀{v},x=some v->df P ge f args [] [] (x1 v) [])[ua:dM [] args][ur:∀v,UN [] (x1 v)]
 (k:∀v,g v=some y->K (x1 v) l []) (e:acu=args:=by rfl) (hd:(l.all λp=>Nat.ble p.1.1 1)=true:=by rfl):bL P f=true/\lK P ge b f acu (aM l) (CH b l K):=cP h C (e▸ .refl _) hd k
def cU{P:Program}{ge:GE}{f:FuncId}{args acu:amx AV}{x1:AV}{K:KX}(C:df P ge f args [] [] x1 [])(s:bC acu args)[ua:dM [] args][ur:UN [] x1]
 (k:K x1 l []) (hd:(l.all λp=>Nat.ble p.1.1 1)=true:=by rfl):bL P f=true/\lK P ge b f acu (aM l) (CH b l K):=Kh C s hd k
def cY{P:Program}{ge:GE}{f:FuncId}{args acu:amx AV}{x:amy α}{g:α->amy β}{y:β}{x1:α->AV}{K:KX}(h:x.bind g=some y)(C:∀{v},x=some v->df P ge f args [] [] (x1 v) [])(s:bC acu args)[ua:dM [] args][ur:∀v,UN [] (x1 v)]
 (k:∀v,g v=some y->K (x1 v) l []) (hd:(l.all λp=>Nat.ble p.1.1 1)=true:=by rfl):bL P f=true/\lK P ge b f acu (aM l) (CH b l K):=cP h C s hd k
def qA[h:AT tm l acE lo]:jC tm l acE lo:=h.o
def jA{mk:α->β}{v:α}{y:β}{emb:α->Tm}{lo:α->HL}(h:some (mk v)=some y)[k:AT tm l (emb v) (lo v)]:∃v,y=mk v/\jC tm l (emb v) (lo v):=⟨v,(oj h).symm,k.o⟩
def rW{x y:AV}[a:KH l l'][h:SA x y]:(Exit.ret= .normal\/Exit.ret= .ret)/\fS l l'/\Sub x y:=⟨.inr rfl,a.o,h.o⟩
def rY{x y:AV}[a:KH l l'][h:SA x y]:(Exit.normal= .normal\/Exit.normal= .ret)/\fS l l'/\Sub x y:=⟨.inl rfl,a.o,h.o⟩
def lC{w:Nat->τ->σ->amy (σ⊕(α⊕β))}{p:σ->α}{xs:amx τ}{s:σ}{f:α->amy β}{z:β}(h:(bg w p 0 xs s).bind (Sum.elim f some)=some z){id:Nat}{c:Code}{K:KC}(ks:amx Nat)(ch:Nat->σ->Tm)(js:amx Nm)(co:Nat->σ->HL)(ks':amx Nat)(ch':α->Tm)(js':amx Nm)(co':α->HL)
 {emb:Nat->σ->Tm} {lo:Nat->σ->HL} {acq:α->Tm} {lA:α->HL} (i:∀i a,kJ ks js tm l (ch i a) (co i a) (emb i a) (lo i a)) (i':∀a,kJ ks' js' tm l (ch' a) (co' a) (acq a) (lA a)) [u:∀i s,UT (emb i s) (lo i s)] [uA:∀a,UT (acq a) (lA a)]
 (hs:jC tm l (emb 0 s) (lo 0 s)) {en:τ->AV} (hx:fg (emb 0 s) (lo 0 s) (xs.map en))
 (round:∀{x y},Sum.elim f some x=some z->∀i v s,xs[i]?=some v->i<(xs.map en).length->Rm i->w i v s=some y->SC Tryz.prog gE tr.find N c (nF id (emb (i+1)) (lo (i+1)) acq lA x y K) (emb i s) (lo i s))
 (stop:∀s,SC Tryz.prog gE tr.find N c (pw id acq lA (p s)) (emb (xs.map en).length s) (lo (xs.map en).length s))
 (after:∀v,f v=some z->K .normal (acq v) (lA v)):bB Tryz.prog gE 1 N (.block id (.loop c)) (LC K) tm (aM l):=Zh h ks ch js co ks' ch' js' co' i i' hs hx (λa i v s c d e k=>round a i v s c d ⟨e⟩ k) stop after
def io{A:Prop}{w:Nat->τ->σ->amy (σ⊕(α⊕β))}{p:σ->α}{xs:amx τ}{s:σ}{f:α->amy β}{z:β}(h:(bg w p 0 xs s).bind (Sum.elim f some)=some z){id:Nat}{c:Code}{K:KC}(ks:amx Nat)(ch:Nat->σ->Tm)(js:amx Nm)(co:Nat->σ->HL)(ks':amx Nat)(ch':α->Tm)(js':amx Nm)(co':α->HL)
 {emb:Nat->σ->Tm} {lo:Nat->σ->HL} {acq:α->Tm} {lA:α->HL} (i:∀i a,kJ ks js tm l (ch i a) (co i a) (emb i a) (lo i a)) (i':∀a,kJ ks' js' tm l (ch' a) (co' a) (acq a) (lA a)) [u:∀i s,UT (emb i s) (lo i s)] [uA:∀a,UT (acq a) (lA a)]
 (hs:jC tm l (emb 0 s) (lo 0 s)) {en:τ->AV} (hx:fg (emb 0 s) (lo 0 s) (xs.map en))
 (round:∀{x y},Sum.elim f some x=some z->∀i v s,xs[i]?=some v->i<(xs.map en).length->Rm i->w i v s=some y->SC Tryz.prog gE tr.find N c (nF id (emb (i+1)) (lo (i+1)) acq lA x y K) (emb i s) (lo i s))
 (stop:∀s,SC Tryz.prog gE tr.find N c (pw id acq lA (p s)) (emb (xs.map en).length s) (lo (xs.map en).length s))
 (after:∀v,f v=some z->K .normal (acq v) (lA v)):A\/bB Tryz.prog gE 1 N (.block id (.loop c)) (LC K) tm (aM l):=fo h ks ch js co ks' ch' js' co' i i' hs hx (λa i v s c d e k=>round a i v s c d ⟨e⟩ k) stop after
def tQ{w:Nat->τ->σ->amy (σ⊕(σ⊕β))}{p:σ->σ}{xs:amx τ}{s:σ}{f:σ->amy β}{z:β}(h:(bg w p 0 xs s).bind (Sum.elim f some)=some z){id:Nat}{c:Code}{K:KC}(t:Nat)(ks:amx Nat)(ch:σ->Tm)(js:amx Nm)(co:σ->HL)
 {emb:σ->Tm} {lo:σ->HL} (i:∀a,kJ ks js tm l (ch a) (co a) (emb a) (lo a)) [u:∀s,UT (emb s) (lo s)] (hs:jC tm l ((t,.int .i64 (0:Nat))::emb s) (lo s)) {en:τ->AV} (hx:fg ((t,.int .i64 (0:Nat))::emb s) (lo s) (xs.map en))
 (round:∀{x y},Sum.elim f some x=some z->∀i v s,xs[i]?=some v->i<(xs.map en).length->Rm i->w i v s=some y->SC Tryz.prog gE tr.find N c (nF id (λs=>(t,.int .i64 (i+1:Nat))::emb s) lo emb lo x y K) ((t,.int .i64 (i:Nat))::emb s) (lo s))
 (stop:∀s,SC Tryz.prog gE tr.find N c (pw id emb lo (p s)) ((t,.int .i64 (xs.map en).length)::emb s) (lo s))
 (after:∀v,f v=some z->K .normal (emb v) (lo v)):bB Tryz.prog gE 1 N (.block id (.loop c)) (LC K) tm (aM l):=Zi h t ks ch js co i hs hx (λa i v s c d e k=>round a i v s c d ⟨e⟩ k) stop after
def wt{A:Prop}{w:Nat->τ->σ->amy (σ⊕(σ⊕β))}{p:σ->σ}{xs:amx τ}{s:σ}{f:σ->amy β}{z:β}(h:(bg w p 0 xs s).bind (Sum.elim f some)=some z){id:Nat}{c:Code}{K:KC}(t:Nat)(ks:amx Nat)(ch:σ->Tm)(js:amx Nm)(co:σ->HL)
 {emb:σ->Tm} {lo:σ->HL} (i:∀a,kJ ks js tm l (ch a) (co a) (emb a) (lo a)) [u:∀s,UT (emb s) (lo s)] (hs:jC tm l ((t,.int .i64 (0:Nat))::emb s) (lo s)) {en:τ->AV} (hx:fg ((t,.int .i64 (0:Nat))::emb s) (lo s) (xs.map en))
 (round:∀{x y},Sum.elim f some x=some z->∀i v s,xs[i]?=some v->i<(xs.map en).length->Rm i->w i v s=some y->SC Tryz.prog gE tr.find N c (nF id (λs=>(t,.int .i64 (i+1:Nat))::emb s) lo emb lo x y K) ((t,.int .i64 (i:Nat))::emb s) (lo s))
 (stop:∀s,SC Tryz.prog gE tr.find N c (pw id emb lo (p s)) ((t,.int .i64 (xs.map en).length)::emb s) (lo s))
 (after:∀v,f v=some z->K .normal (emb v) (lo v)):A\/bB Tryz.prog gE 1 N (.block id (.loop c)) (LC K) tm (aM l):=fq h t ks ch js co i hs hx (λa i v s c d e k=>round a i v s c d ⟨e⟩ k) stop after
class HH(l q:HL):Prop where o:nt l q
instance:HH l []:=⟨trivial⟩
instance {j:Nm}{o:bk}[h:LH l j o][k:HH l q]:HH l ((j,o)::q):=⟨h.o,k.o⟩
def cG{P:Program}{ge:GE}{f:FuncId}{args acw:amx AV}{ro rw ro' rw':HL}{x:amy α}{g:α->amy β}{y:β}{x1 x1':α->AV}{rv rv':α->HL}{K:KX}{acu:amx AV}(h:x.bind g=some y)(ν:amx Nm)(C:∀{v},x=some v->df P ge f args ro rw (x1 v) (rv v))
 (i:RA ν args ro rw x1 rv acw ro' rw' x1' rv') [hro:HH l ro'] [hrw:KH l rw'] (k:∀v,g v=some y->oR (rv' v) l λl'=>K (x1' v) l' (rw'.map (·.1)))
 (hn:(λv=>(kx ν&&tF 0 (ro++rw)&&Nat.beq ν.length (ro++rw).length&&(ν.all λj=>Nat.ble j.1 1)&&((ro++rw).map (·.1)==(ro++rv v).map (·.1))))=λ_=>true:=by rfl)
 (e:acu=acw:=by rfl) (h5:(l.all λp=>Nat.ble p.1.1 1)=true:=by rfl):bL P f=true/\lK P ge b f acu (aM l) (CH b l K):=cH h ν C i hn (e▸ .refl _) h5 hro.o hrw.o k
def cJ{P:Program}{ge:GE}{f:FuncId}{args acw:amx AV}{ro rw ro' rw':HL}{x:amy α}{g:α->amy β}{y:β}{x1 x1':α->AV}{rv rv':α->HL}{K:KX}{acu:amx AV}(h:x.bind g=some y)(ν:amx Nm)(C:∀{v},x=some v->df P ge f args ro rw (x1 v) (rv v))
 (i:RA ν args ro rw x1 rv acw ro' rw' x1' rv') (s:bC acu acw) [hro:HH l ro'] [hrw:KH l rw'] (k:∀v,g v=some y->oR (rv' v) l λl'=>K (x1' v) l' (rw'.map (·.1)))
 (hn:(λv=>(kx ν&&tF 0 (ro++rw)&&Nat.beq ν.length (ro++rw).length&&(ν.all λj=>Nat.ble j.1 1)&&((ro++rw).map (·.1)==(ro++rv v).map (·.1))))=λ_=>true:=by rfl)
 (h5:(l.all λp=>Nat.ble p.1.1 1)=true:=by rfl):bL P f=true/\lK P ge b f acu (aM l) (CH b l K):=cH h ν C i hn s h5 hro.o hrw.o k
def nV{f:α->AV}{xs:amx α}{i:Nat}{v:α}{Q:AV->Prop}(h:xs[i]?=some v)(k:Q (f v)):∃ys,bC (xs.map f) ys/\∃z,au ys (i:Int)=some z/\Q z:=⟨_,.refl _,_,nv h,k⟩
def nW{f:α->AV}{xs:amx α}{i:Int}{v:α}{Q:AV->Prop}(h:au xs i=some v)(k:Q (f v)):∃ys,bC (xs.map f) ys/\∃z,au ys i=some z/\Q z:=⟨_,.refl _,_,nm h,k⟩
def nM{f:α->AV}{xs:amx α}{i:Int}{g:α->amy β}{y:β}{Q:AV->Prop}(h:(au xs i).bind g=some y)(k:∀v,g v=some y->Q (f v)):∃ys,bC (xs.map f) ys/\∃z,au ys i=some z/\Q z:=let⟨v,a,b⟩:=bs h;nW a (k v b)
def dO{c:DO->amz}{Q:DO->Prop}(w:DO)(x:Q w)(e:c w=true:=by decide+kernel):∃w,c w=true/\Q w:=⟨w,e,x⟩
def tV{p:Prop}(x:p):True/\p:=⟨trivial,x⟩
def aR{A:Prop}{X:γ}{m n w:Nat}{g:Unit->amy β}{y:β}(h:(ck n w).bind g=some y)(k:g ()=some y->A)(e:m=n:=by simp):X=X/\m*w<=140737488355328/\A:=let⟨_,a,b⟩:=bs h;⟨rfl,gF a e,k b⟩
def kS{A p:Prop}[Decidable p]{g:Unit->amy β}{y:β}(h:(aS p).bind g=some y)(k:p->g ()=some y->A):A:=let⟨_,a,b⟩:=bs h;k (aW a) b
def kT{A p:Prop}[Decidable p]{g:Unit->amy β}{y:β}(h:(aS p).bind g=some y)(k:g ()=some y->A):p/\A:=let⟨_,a,b⟩:=bs h;⟨aW a,k b⟩
def jz{A:Prop}{xo:amy amz}{g:amz->amy β}{z:β}(h:xo.bind g=some z){gs:amx Nat}{ops:Array Oper}{K0:Tm->HL->Prop}{r:amx Oper}{t:Nat}{c:amz}(n:Nat)(ks:amx Nat)(ct:Nat){emb:amz->Tm}{lo:amz->HL}(i:∀a,kJ ks [] tm l (zb ct a) [] (emb a) (lo a))[u:∀a,UT (emb a) (lo a)]
 (h1:∀{x},xo=some x->(c=true->pv Tryz.prog gE tr.find N gs ops.toList (λtm l=>jC tm l (emb x) (lo x)) K0 r n ((t,.bool true)::tm) l)/\(c=false->pv Tryz.prog gE tr.find N gs ops.toList (λtm l=>jC tm l (emb x) (lo x)) K0 r n ((t,.bool false)::tm) l))
 (k:∀v,g v=some z->p7 r n λr=>SR Tryz.prog gE tr.find N gs ops.toList K0 r (emb v) (lo v)):A\/Ke Tryz.prog gE tr.find N gs ops (LK K0) r ((t,.bool c)::tm) (aM l):=jb h n ks (zb ct) [] W i h1 k
def bn{a:amz}{y:amy α}{w:α}{X Y Z:Prop}(h:(bif a then none else y)=some w)(g:y=some w->Y):((a=true->X)/\(a=false->Y))\/Z:=.inl (bi h no g)
def bw{a:amz}{x y z:amy α}{X Y Z:Prop}(h:(bif a then x else y)=z)(g:y=z->Y)(f:x=z->X:=by exact λh=>oj h▸rW):((a=true->X)/\(a=false->Y))\/Z:=.inl (bi h f g)
def ba{a:amz}{x y z:amy α}{X Y Z:Prop}(h:(bif a then x else y)=z)(g:y=z->Y)(f:x=z->X:=by exact λh=>jA h):((a=true->X)/\(a=false->Y))\/Z:=.inl (bi h f g)
def bv{a:amz}{x y z:amy α}{X Y Z:Prop}(h:(bif a then x else y)=z)(f:x=z->X)(g:y=z->Y:=by exact λh=>oj h▸rW):((a=true->X)/\(a=false->Y))\/Z:=.inl (bi h f g)
def bu{a:amz}{x y z:amy α}{X Y Z:Prop}(h:(bif a then x else y)=z)(f:x=z->X)(g:y=z->Y:=by exact λh=>jA h):((a=true->X)/\(a=false->Y))\/Z:=.inl (bi h f g)
def sq(t:Nat){sz:Nat}{tok:iA}{L:amx AV}(h:get tm t= .sl sz tok L):fg tm l L:=.inl ⟨t,_,_,h⟩
def so(j:Nm)(i:Nat){cs:amx AV}{sz:Nat}{tok:iA}{L:amx AV}(h:lk l j=some (.cells cs))(k:ey cs i=some (.sl sz tok L)):fg tm l L:=.inr ⟨j,i,_,_,_,h,k⟩
def uv{w:Nat->τ->σ->amy (σ⊕(α⊕β))}{p:σ->α}{xs:amx τ}{s:σ}{f:α->amy β}{z:β}(h:(bg w p 0 xs s).bind (Sum.elim f some)=some z){id:Nat}{c:Code}{K:KC}(ks:amx Nat)(ch:Nat->σ->Tm)(js:amx Nm)(co:Nat->σ->HL)(ks':amx Nat)(ch':α->Tm)(js':amx Nm)(co':α->HL)
 {emb:Nat->σ->Tm} {lo:Nat->σ->HL} {acq:α->Tm} {lA:α->HL} (i:∀i a,kJ ks js tm l (ch i a) (co i a) (emb i a) (lo i a)) (i':∀a,kJ ks' js' tm l (ch' a) (co' a) (acq a) (lA a)) [u:∀i s,UT (emb i s) (lo i s)] [uA:∀a,UT (acq a) (lA a)]
 {en:τ->AV} (hx:fg (emb 0 s) (lo 0 s) (xs.map en))
 (round:∀{x y},Sum.elim f some x=some z->∀i v s,xs[i]?=some v->i<(xs.map en).length->Rm i->w i v s=some y->SC Tryz.prog gE tr.find N c (nF id (emb (i+1)) (lo (i+1)) acq lA x y K) (emb i s) (lo i s))
 (after:∀v,f v=some z->K .normal (acq v) (lA v)) (hs:jC tm l (emb 0 s) (lo 0 s):=by exact qA) (stop:∀s,SC Tryz.prog gE tr.find N c (pw id acq lA (p s)) (emb (xs.map en).length s) (lo (xs.map en).length s):=by exact λ_=>sT (sU qB)):bB Tryz.prog gE 1 N (.block id (.loop c)) (LC K) tm (aM l):=lC h ks ch js co ks' ch' js' co' i i' hs hx round stop after
def kK{A:Prop}{w:Nat->τ->σ->amy (σ⊕(α⊕β))}{p:σ->α}{xs:amx τ}{s:σ}{f:α->amy β}{z:β}(h:(bg w p 0 xs s).bind (Sum.elim f some)=some z){id:Nat}{c:Code}{K:KC}(ks:amx Nat)(ch:Nat->σ->Tm)(js:amx Nm)(co:Nat->σ->HL)(ks':amx Nat)(ch':α->Tm)(js':amx Nm)(co':α->HL)
 {emb:Nat->σ->Tm} {lo:Nat->σ->HL} {acq:α->Tm} {lA:α->HL} (i:∀i a,kJ ks js tm l (ch i a) (co i a) (emb i a) (lo i a)) (i':∀a,kJ ks' js' tm l (ch' a) (co' a) (acq a) (lA a)) [u:∀i s,UT (emb i s) (lo i s)] [uA:∀a,UT (acq a) (lA a)]
 {en:τ->AV} (hx:fg (emb 0 s) (lo 0 s) (xs.map en))
 (round:∀{x y},Sum.elim f some x=some z->∀i v s,xs[i]?=some v->i<(xs.map en).length->Rm i->w i v s=some y->SC Tryz.prog gE tr.find N c (nF id (emb (i+1)) (lo (i+1)) acq lA x y K) (emb i s) (lo i s))
 (after:∀v,f v=some z->K .normal (acq v) (lA v)) (hs:jC tm l (emb 0 s) (lo 0 s):=by exact qA) (stop:∀s,SC Tryz.prog gE tr.find N c (pw id acq lA (p s)) (emb (xs.map en).length s) (lo (xs.map en).length s):=by exact λ_=>sT (sU qB)):A\/bB Tryz.prog gE 1 N (.block id (.loop c)) (LC K) tm (aM l):=io h ks ch js co ks' ch' js' co' i i' hs hx round stop after
def A0{w:Nat->τ->σ->amy (σ⊕(σ⊕β))}{p:σ->σ}{xs:amx τ}{s:σ}{f:σ->amy β}{z:β}(h:(bg w p 0 xs s).bind (Sum.elim f some)=some z){id:Nat}{c:Code}{K:KC}(t:Nat)(ks:amx Nat)(ch:σ->Tm)(js:amx Nm)(co:σ->HL)
 {emb:σ->Tm} {lo:σ->HL} (i:∀a,kJ ks js tm l (ch a) (co a) (emb a) (lo a)) [u:∀s,UT (emb s) (lo s)] {en:τ->AV} (hx:fg ((t,.int .i64 (0:Nat))::emb s) (lo s) (xs.map en))
 (round:∀{x y},Sum.elim f some x=some z->∀i v s,xs[i]?=some v->i<(xs.map en).length->Rm i->w i v s=some y->SC Tryz.prog gE tr.find N c (nF id (λs=>(t,.int .i64 (i+1:Nat))::emb s) lo emb lo x y K) ((t,.int .i64 (i:Nat))::emb s) (lo s))
 (after:∀v,f v=some z->K .normal (emb v) (lo v)) (hs:jC tm l ((t,.int .i64 (0:Nat))::emb s) (lo s):=by exact qA) (stop:∀s,SC Tryz.prog gE tr.find N c (pw id emb lo (p s)) ((t,.int .i64 (xs.map en).length)::emb s) (lo s):=by exact λ_=>sT (sU qB)):bB Tryz.prog gE 1 N (.block id (.loop c)) (LC K) tm (aM l):=tQ h t ks ch js co i hs hx round stop after
def iZ{A:Prop}{w:Nat->τ->σ->amy (σ⊕(σ⊕β))}{p:σ->σ}{xs:amx τ}{s:σ}{f:σ->amy β}{z:β}(h:(bg w p 0 xs s).bind (Sum.elim f some)=some z){id:Nat}{c:Code}{K:KC}(t:Nat)(ks:amx Nat)(ch:σ->Tm)(js:amx Nm)(co:σ->HL)
 {emb:σ->Tm} {lo:σ->HL} (i:∀a,kJ ks js tm l (ch a) (co a) (emb a) (lo a)) [u:∀s,UT (emb s) (lo s)] {en:τ->AV} (hx:fg ((t,.int .i64 (0:Nat))::emb s) (lo s) (xs.map en))
 (round:∀{x y},Sum.elim f some x=some z->∀i v s,xs[i]?=some v->i<(xs.map en).length->Rm i->w i v s=some y->SC Tryz.prog gE tr.find N c (nF id (λs=>(t,.int .i64 (i+1:Nat))::emb s) lo emb lo x y K) ((t,.int .i64 (i:Nat))::emb s) (lo s))
 (after:∀v,f v=some z->K .normal (emb v) (lo v)) (hs:jC tm l ((t,.int .i64 (0:Nat))::emb s) (lo s):=by exact qA) (stop:∀s,SC Tryz.prog gE tr.find N c (pw id emb lo (p s)) ((t,.int .i64 (xs.map en).length)::emb s) (lo s):=by exact λ_=>sT (sU qB)):A\/bB Tryz.prog gE 1 N (.block id (.loop c)) (LC K) tm (aM l):=wt h t ks ch js co i hs hx round stop after
def D{n:Nat}{Q:Nat->Prop}(a:Nat)(x:Q a)(e:n=a:=by rfl):∃k,n=k/\Q k:=⟨a,e,x⟩
def gv{n:Nat}{m:Nat->Nat}{Q:Nat->Nat->Prop}(a b:Nat)(x:Q a b)(e:n=a:=by rfl)(f:m a=b:=by rfl):∃k,n=k/\∃j,m k=j/\Q k j:=⟨a,e,b,f,x⟩
def ip{n:Nat}{m:Nat->Nat}{p:Nat->Nat->Nat}{Q:Nat->Nat->Nat->Prop}(a b c:Nat)(x:Q a b c)(e:n=a:=by rfl)(f:m a=b:=by rfl)(g:p a b=c:=by rfl):∃k,n=k/\∃j,m k=j/\∃i,p k j=i/\Q k j i:=⟨a,e,b,f,c,g,x⟩
def bI{a:amz}{x y z:amy α}{X Y:Prop}(h:(bif a then x else y)=z)(g:y=z->Y)(f:x=z->X:=by exact λh=>oj h▸qB):(a=true->X)/\(a=false->Y):=bi h f g
def bJ{a:amz}{x y z:amy α}{X Y:Prop}(h:(bif a then x else y)=z)(f:x=z->X)(g:y=z->Y:=by exact λh=>oj h▸qB):(a=true->X)/\(a=false->Y):=bi h f g
def O{A:Prop}(k:A:=by exact oj h▸rW):A:=k
def zB{A:Prop}(k:A:=by exact oj h▸qB):A:=k
abbrev Ad(f:FuncId)(args:amx AV)(x1:AV):Prop:=df Tryz.prog gE f args [] [] x1 []
end
end
section
variable {P:Program}{ge:GE}{N b:Nat}{tm:Tm}{l:HL}{ti:Nat->amy TE}{α σ ρ τ:Type}
def Tg(N:Nat)(tm:Tm)(l:HL)(acE:Tm)(lo:HL):Prop:=∃tm' l',Wk 1 N tm (aM l) tm' (aM l')/\jC tm' l' acE lo
def Fu{acE:Tm}{lo:HL}(h:jC tm l acE lo):Tg N tm l acE lo:=⟨_,_,Wk.refl _ _ _ _,h⟩
def jnV(N:Nat)(emb:α->Tm)(lo:α->HL)(x:α⊕ρ)(K:KC):KC:=λe tm l=>match e with
 |.normal=>∃v,x= .inl v/\Tg N tm l (emb v) (lo v)
 |e=>∃r,x= .inr r/\K e tm l
def bB.jv(E:tB P ti){c:Code}{K:KC}(emb:α->Tm)(lo:α->HL)[u:∀a,UT (emb a) (lo a)]{x:α⊕ρ}(h:SC P ge ti N c (jnV N emb lo x K) tm l)
 (k:∀v,x= .inl v->K .normal (emb v) (lo v)):bB P ge 1 N c (LC K) tm (aM l):=
 bB.close (SC.bN E c h) λe tm hp⟨l,e1,q⟩=>by
  subst e1;cases e with
  |normal=>obtain⟨v,hv,tm',l',hw,hk⟩:=q;exact⟨_,_,hw.trans hk.wk,_,rfl,k v hv⟩
  |_=>obtain⟨r,_,q⟩:=q;exact⟨tm,_,Wk.refl _ _ _ _,l,rfl,q⟩
def lpV(N:Nat)(id:Nat)(emb:σ->Tm)(lo:σ->HL)(acq:α->Tm)(lA:α->HL)(x:α⊕ρ)(y:σ⊕(α⊕ρ))(K:KC):KC:=λe tm l=>match e with
 |.normal=>∃s,y= .inl s/\Tg N tm l (emb s) (lo s)
 |e=>nF id emb lo acq lA x y K e tm l
def bB.fv(E:tB P ti){id:Nat}{c:Code}{K:KC}(emb:Nat->σ->Tm)(lo:Nat->σ->HL)(acq:α->Tm)(lA:α->HL)[u:∀i s,UT (emb i s) (lo i s)][uA:∀a,UT (acq a) (lA a)]
 {f:Nat->τ->σ->amy (σ⊕(α⊕ρ))} {p:σ->α} {xs:amx τ} {s:σ} {x:α⊕ρ} (h:bg f p 0 xs s=some x) (hs:jC tm l (emb 0 s) (lo 0 s))
 {en:τ->AV} (hx:fg (emb 0 s) (lo 0 s) (xs.map en))
 (round:∀i v s y,xs[i]?=some v->i<(xs.map en).length->i+1<=4611686018427387904->f i v s=some y->SC P ge ti N c (lpV N id (emb (i+1)) (lo (i+1)) acq lA x y K) (emb i s) (lo i s))
 (stop:∀s,SC P ge ti N c (pw id acq lA (p s)) (emb (xs.map en).length s) (lo (xs.map en).length s))
 (after:∀v,x= .inl v->K .normal (acq v) (lA v)):bB P ge 1 N (.block id (.loop c)) (LC K) tm (aM l):=by
 refine bB.wk hs.wk (bB.Cu hx λhb=>?_);simp only[amJ]at hb;refine bB.block (bB.loop (λm tm hp=>∃i s,i<=xs.length/\m=xs.length+1 - i/\tm=emb i s/\hp=aM (lo i s)/\bg f p i (xs.drop i) s=some x) (xs.length+1) ⟨0,s,anp _,rfl,rfl,rfl,by simpa using h⟩ ?_);rintro m tm hp ⟨i,s,hi,rfl,rfl,rfl,h⟩;by_cases hlt:i<xs.length
 ·have hv:xs[i]?=some xs[i]:=anG hlt;rw[ao2 hlt]at h;simp only[bg]at h;cases hy:f i xs[i] s with
  |none=>simp[hy]at h
  |some y=>
   simp only[hy,amD]at h;refine bB.close (SC.bN E c (round i xs[i] s y hv (by simpa using hlt) (by omega) hy)) λe tm hp⟨l,e1,q⟩=>?_
   subst e1;by_cases hne:e= .normal
   ·subst hne;obtain⟨s',rfl,tm',l',hw,hk⟩:=q;exact⟨_,_,hw.trans hk.wk,xs.length+1 - (i+1),by omega,i+1,s',by omega,rfl,rfl,rfl,h⟩
   ·have q:nF id (emb (i+1)) (lo (i+1)) acq lA x y K e tm l:=by cases e<;>first|exact absurd rfl hne|exact q
    obtain⟨tm',hp',h1,h2⟩:=uX (N:=N) hne q (λq e=>by subst e;exact am5 h) after;refine⟨tm',hp',h1,?_⟩;cases e<;>first|exact h2|exact absurd rfl hne
 ·have hi':i=xs.length:=by omega
  subst hi';simp only[ao1,bg,amT]at h;have hst:=stop s;simp only[amJ]at hst;refine bB.close (SC.bN E c hst) λe tm hp⟨l,e1,q⟩=>?_
  subst e1;cases e with
  |exit j=>
   simp only[pw]at q;split at q
   ·rename_i hj;have:=amK hj;subst this;refine⟨_,_,q.wk,?_⟩;simp only[pQ,iC,am0];exact⟨_,rfl,after _ h.symm⟩
   ·exact q.elim
  |_=>exact q.elim
def Wk.VW(sz m:Nat)(hm:nx 0 l=m):Wk 1 N tm (aM l) tm (aM (((1,m),.br sz [])::l)):=by
 subst hm;intro g fr w tmps fi r v;have hn:=fR l 0 1 _ (amW _);have hne:=bX hn (kU fi _);have hle:=G.dA g (j:=(1,nx 0 l)) 0 (r.rel.cu hne);have r1:=r.rel.ix hne sz 0;rw[bp,be hn]at r1;refine⟨g.push (1,nx 0 l) 0,hle.some _,⟨r1,?_⟩,v.mono hle⟩;rw[<-be hn];exact r.cw.cE (kU fi _)
def q8{f:FuncId}{args acw:amx AV}{sz n:Nat}{xs:amx AV}{K:KX}(m:Nat)(C:df P ge f acw [] [] (.ms (1,0) sz n) ([]++[((1,0),.br sz xs)]))(hv:dl l args acw)(hx:∀(g h:G)(vs:amx Value),VE g sz xs vs->VE h sz xs vs)(hn:xs.length=n)(hm:nx b l=m)
 (k:K (.ms (1,m) sz n) (((1,m),.br sz xs)::l) []):bL P f=true/\lK P ge b f args (aM l) (CH b l K):=by
 refine⟨C.1,λg fr w vs fi r kk v=>?_⟩;subst hm hn
 let g0:=(g.all w).jN w.heap.size w
 have hg:lJ g0 ge:=λq cs hq=>by
  obtain⟨u,vals,h1,h2⟩:=kk q cs hq;have hfz:(g.cut (λ_=>False)).Le (g.all w):=⟨rfl,rfl,λb=>r.rel.mc b,λ_ h=>h.elim,λ_ h=>h.elim,λ_ h=>h.elim⟩;exact⟨u,vals,(VL.jN cs vals).2 (VL.mono hfz _ _ (VL.cut _ _ h1 u)),h2.trans (r.rel.mc q)⟩
 have r0:de g0 w Hp.empty:=⟨λj=>by simp[g0,G.all,G.jN,Hp.empty],Below.refl _ _,amW _,λb hb=>by
  simp only[g0,G.all,G.jN,tH]at hb |-;split at hb
  ·rename_i c e fr h;exact⟨c,e,fr,h,by simp⟩
  ·exact absurd rfl hb,λj o h=>by simp[Hp.empty]at h,λj o b h=>by simp[Hp.empty]at h,λi j o p b h=>by simp[Hp.empty]at h⟩
 have e0:Ab.bz (aM []) Hp.empty=Hp.empty:=by funext j;simp[Ab.bz,aM,Hp.empty]
 refine(C.2 g0 Hp.empty w vs (λj h=>by simp[Hp.empty]at h) ⟨by simp only[aox];rw[e0];exact r0,λj=>.inr rfl⟩ hg ((VL.jN _ _).2 (dl.bN r hv _ v))).mono λe w'⟨u,g',x,hp',e1,k1,k2,k3,e2,e3⟩=>?_
 subst e2 e3;have hb:Below w.heap.size w w':=by
  have:=k2.rel.hU;rw[k1.cj,k1.w0]at this;exact this
 have rg:=r.rel.grown hb;have adD:=fR l b 1 _ (amW _);have hfr:fr (1,nx b l)=none:=by
  cases e:fr (1,nx b l)with
  |none=>rfl
  |some o=>
   have:=jX l b;rcases fi (1,nx b l) (by rw[e];rfl)with h|h
   ·exact absurd h (Nat.lt_irrefl 1)
   ·have h:nx b l<b:=h.2;omega
 have hne:=bX adD hfr;have aip:=k2.rel.eP (1,0) (.br sz xs) (by simp[Ab.bz,aM,Hp.empty]);simp only[V]at k3;obtain⟨hd,a,cap,ev,hc,ha0,ha1,hsp,aeq⟩:=k3;by_cases hxs:xs=[]
 ·subst hxs;have r1:=rg.bF ⟨a,0,cap⟩ hne;have hle:=(g.fF ⟨a,0,cap⟩ (rg.cu hne)).trans (G.dA _ 0 (r1.cu hne));have r2:=r1.ix hne sz 0;rw[bp,be adD]at r2;refine⟨u,_,.ms (1,nx b l) sz 0,_,e1,hle,⟨r2,?_⟩,?_,_,[],rfl,fU,k⟩
  ·rw[<-be adD];exact r.cw.cE hfr
  ·simp only[V];exact⟨.inl rfl,a,cap,ev,hc,ha0,λh=>absurd h (Nat.lt_irrefl 0),hsp,by simp[dw,G.push,G.bF]⟩
 ·obtain⟨vals,rest,elem,o1,o2,o3,o4⟩:=aip hxs;have afr:0<xs.length:=ans.2 hxs;have acs:cX g' (1,0) (.br sz xs)=some (g'.cg (1,0)):=by cases xs with|nil=>exact absurd rfl hxs|cons=>rfl
  have adH:=k2.rel.dI (1,0) _ _ (by simp[Ab.bz,aM,Hp.empty]) acs;have ac3:w.heap.size<=g'.cg (1,0):=by have:=adH.1;rw[k1.cj]at this;exact this
  obtain⟨t1,t2,t3,t4⟩:=o4;have hat:=ha1 afr;have hcap:cap=(g'.tl (1,0)).cap:=(aeq.2.2 t1).2;subst hat;have hfz:g.fz (g'.cg (1,0))=[]:=by
   cases e:g.fz (g'.cg (1,0))with
   |nil=>rfl
   |cons=>have:=r.rel.fH (b:=g'.cg (1,0)) (by simp[e]);omega
  obtain⟨g2,hle,r2,v2⟩:=rg.tL (j:=(1,nx b l)) hne (sz:=sz) (n:=xs.length) (cap:=cap) (b:=g'.cg (1,0)) (xs:=xs) (elem:=elem) hxs (vals:=vals) (rest:=rest)
   ⟨anH r.rel.size ac3,adH.2⟩ (λi o hi ho=>by have:=(r.rel.dI i o _ hi ho).2;omega) hfz (hx _ _ _ o1) o2 rfl hc.1 (by rw[hcap];exact t4) hc.2
  rw[bp,be adD]at r2;refine⟨u,g2,_,_,e1,hle,⟨r2,?_⟩,?_,_,[],rfl,fU,k⟩
  ·rw[<-be adD];exact r.cw.cE hfr
  ·rw[ev];exact v2
end
end Go.Ab

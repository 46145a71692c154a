/- What the functions compute. -/
import Derived.Test.YtoknehglgeiopaaGreatDoorA7
set_option linter.all false
set_option maxRecDepth 100000
set_option maxHeartbeats 20000000
set_option synthInstance.maxHeartbeats 400000
set_option synthInstance.maxSize 2000
open Go Go.RowKit Go.Proofs Go.Proofs.Tryz
namespace Go.Ab
theorem Q{X:Sort _}{a:X}:a=a:=rfl
abbrev K{α:Type}(x:α):=some x
section
variable{D K γ L ρ:Type}
abbrev be x(y:D)(z:T D):=Y x (some y) z
abbrev cg(x:U D)(y:D->K):=List.length (List.map y x)
abbrev cp:=(⟨#[]⟩:Z)
abbrev cq(x:T D)(y:T K)(z:K->T γ):=Option.b x λ_=>Option.b y z
abbrev cI:=some false
abbrev dg x(y:D)(z:T D)(u:D->T K):=Option.bind (be x y z) u
abbrev dz x(y:T (D⊕K))(z:D):=Y x y (il z)
abbrev eb x:=(⟨x⟩:Z)
abbrev eD x y z u v w s t:=J.mk x y z u v [] w s t
abbrev eE(x:U D)(y:Int)(z:D->T K):=Option.b (aA x y) z
abbrev fg(x:Int)(y:Int):=IntKind.i64.wrap (x+y)
abbrev fp(x:Nat->D->K->T (K⊕(_⊕γ)))(y:Nat)(z:U D)(u:K):=bo x (λ_=>()) y z u
abbrev fv(x:T D)(y:D->K):=Option.b x λi=>some (y i)
abbrev fE x y(z:_->T D):=dg x true y z
abbrev fS(x:D):=(ir (.inr x):T (K⊕(γ⊕D)))
abbrev gd(x:U D)(y:D->K):=(cg x y:Int)
abbrev gJ x y z(u:U D)(v:D->_):=oD x y z (List.map v u)
abbrev gP(x:Prop)[Decidable x](y:T D)(z:D->T K):=cq (aU x) y z
abbrev gQ(x:D->T (D⊕K))(y:D):=aV x 1000000 y
abbrev im x y z u:=am.mk x y z [] u
abbrev iL x:=pT 0 x
abbrev iM(x:Prop)[Decidable x](y:D)(z:D):=Y (decide x) y z
abbrev jg(x:T D):=fv x λi=>i
abbrev jq(x:T D)(y:K):=(Option.b x λ_=>il y:T (K⊕γ))
abbrev ju(x:T (D⊕K))(y:K):=Option.j x λ_=>some y
abbrev jv(x:D):=(ir (.inl x):T (K⊕(D⊕γ)))
abbrev ank x:=H (x:Int)
abbrev jG x:=(⟨#[x]⟩:Z)
abbrev j9 x y:=aG.mk x false y
abbrev kj x y z u v:=Ac x y z [] u v
abbrev kE:=G.str bk
abbrev ahw:=mE aB.aq
abbrev ain(x:Int)(y:Int):=IntKind.i64.wrap (x-y)
abbrev l4:=iL 0
abbrev l5 x y(z:_->T D):=fE x (some y) z
abbrev l6(x:Nat)(y:Nat)(z:D):=(jq (ck x y) z:T (D⊕K))
abbrev l7 x(y:D)z(u:D)(v:D):=Y x y (Y z u v)
abbrev l8 x y z u:=kj x y z u []
abbrev l9 x(y:D)(z:K):=(dz x (fS y) z:T (K⊕(γ⊕D)))
abbrev mJ x y z u v w s:=eD x y z cp u v w s
abbrev mK(x:Int)(y:Int):=decide (x>=y)
abbrev mY(x:Nat->D->K->T (K⊕(K⊕γ)))(y:U D)(z:K)(u:K->T γ):=Option.j (fI x y z) u
abbrev mZ x:=cg x af.aq
abbrev n6 x y:=aw.C (aw.mk x y)
abbrev n8 x y(z:_->T D):=dg x y cI z
abbrev n9 x:=([x]:U Z)
abbrev oa(x:T D)(y:K):=Option.b x λ_=>some y
abbrev sJ x(y:T D)(z:T D)(u:D->T K):=Option.bind (Y x y z) u
abbrev sP x(y:T (D⊕K))(z:D)(u:D->T K):=Option.j (dz x y z) u
abbrev ai4 x y z u v w:=mJ x y z [] u v w
abbrev tq x y:=IntKind.i64.wrap (Int.tdiv x y)
abbrev tu x y:=cd 0 x y
abbrev vO(x:Int)(y:Int):=decide (x<y)
abbrev agD(x:Nat->D->K->T (K⊕(_⊕γ)))(y:Nat)(z:U D)(u:K)(v:γ):=ju (fp x y z u) v
abbrev vT(x:D):=(1,x)
abbrev v4 x:=cg x az.aq
abbrev v6 x y z u v:=j9 x (im y z u v)
abbrev v8 x y:=(⟨#[x,y]⟩:Z)
abbrev v9 x:=tu 0 x
abbrev we(x:D):=[vT x]
abbrev wm x:=fN x []
abbrev yS(x:Int)(y:Int):=decide (x>y)
abbrev y6(x:D->T (D⊕(K⊕γ)))(y:D)(z:K->T γ):=Option.j (gQ x y) z
abbrev zf x:=cg x G.str
abbrev zF(x:Prop)[Decidable x](y:U D)(z:Int)(u:D->T K):=gP x (aA y z) u
abbrev AI x y:=cE 1 x y
abbrev AW x(y:D)(z:D):=be x y (some z)
abbrev A7(x:Nat)(y:Nat)(z:T D)(u:D->T K):=cq (ck x y) z u
abbrev A8 x:=List.map ahw x
abbrev Ba x(y:D):=(l9 x y ():T (_⊕(K⊕D)))
abbrev Bb:=([]:U Z)
abbrev NB x y z u v:=ai4 x y z u 0 v
abbrev FH x y:=vT (fN x y)
abbrev FN x y:=cL 1 x y
abbrev FP x:=List.map G.str x
abbrev F6 x y:=(Ba x (y:Int):T (_⊕(D⊕Int)))
abbrev Gh x y z:=Ad x y (J.X z)
abbrev Gi x y:=w6 (x-y)
abbrev Ht(x:D)y:=(x,ank y)
abbrev Hu x:=cg x V.aq
abbrev Hv x(y:D)(z:D)(u:D->T K):=sP x (il y) z u
abbrev Hw x y z:=(⟨#[x,y,z]⟩:Z)
abbrev aim x y z u:=NB x y z [] u
abbrev HE x:=gd x G.str
abbrev HF x:=cw 3 x
abbrev HG:=[l4]
abbrev HI x y(z:Nat)u:=aj.mk x (List.set y z u)
abbrev HJ(x:Nat)(y:U D):=x+List.length y
abbrev HK x:=eb #[x]
abbrev HM(x:Prop)[Decidable x](y:T (D⊕(K⊕γ)))(z:K):=iM x y (jv z)
abbrev HN x y z u v:=qc x y (E z u v)
abbrev H3 x y z:=Ad x y (H z)
abbrev H5(x:Nat->D->_->T (_⊕(_⊕K)))(y:Nat)(z:U D)(u:K):=agD x y z () u
abbrev H6:=we 0
abbrev IA x(y:T (D⊕(K⊕γ)))(z:K):=Y x y (jv z)
abbrev agp x y z u:=gJ x y z u G.str
abbrev akK x y z:=aim x y z 0
abbrev J3 x(y:Nat)z u:=List.set x y (af.mk z u)
abbrev J4:=([]:U (Z×aB))
abbrev J5 x:=gd x af.aq
abbrev J6(x:Prop)[Decidable x](y:Prop)[Decidable y](z:Unit->T D):=gP x (aU y) z
abbrev J7 x y(z:_->T D):=sJ x y cI z
abbrev J8 x:=fN x HG
abbrev Kd x y:=v9 (n6 x y)
abbrev agQ x y z u:=v6 x y cp z u
abbrev KQ(x:Nat->D->K->T (K⊕(K⊕γ)))(y:U D)(z:K)(u:K->γ):=mY x y z λi=>some (u i)
abbrev KR(x:Nat->D->K->T (K⊕(K⊕K)))(y:U D)(z:K):=KQ x y z λi=>i
abbrev Nt x y:=akK x cp y
abbrev Nu x:=aj.mk [] x
abbrev Nv(x:Int)(y:Int)(z:D)(u:T D):=be (x !=y) z u
abbrev Nw x y:=cd 1 x y
abbrev PU:=H 0
abbrev Qv x:=((x:Nat):Int)
abbrev Qw(x:D)y z:=(x,AI y z)
abbrev Q6 x y:=[az.mk x y]
abbrev Rk:=vT 3
abbrev Rl x(y:T D)(z:D->T K):=cq (ed x) y z
abbrev Ro x y:=bL 8 x y
abbrev Rp x y z u v w:=V.mk x y z u (Nt v w)
abbrev ahF x y z:=agQ x y z []
abbrev Rr:=vT 0
abbrev Ru x y z u:=l8 x y z (J.X u)
abbrev Rv:=iL 1
abbrev RB x(y:D)z(u:D)v(w:D)(s:D):=l7 x y z u (Y v w s)
abbrev RD x:=([x]:U J)
abbrev RE x y:=Nw x (J.C y)
abbrev RF(x:Nat)(y:U D)(z:Nat)(u:K):=(l6 (HJ x y) z u:T (K⊕γ))
abbrev RK x y z u:=(⟨#[x,y,z,u]⟩:Z)
abbrev RP x:=cg x J.aq
abbrev aho x(y:T D)(z:K):=Rl x y λ_=>some z
abbrev Sk x y:=qt x y []
abbrev S1:=vT 1
abbrev Vm(x:D)(y:K):=some (x,y)
abbrev Vn x y z u v w:=aC.mk x y z u v 0 w
abbrev Vt x y:=[FN x y]
abbrev VB x y(z:T D):=cN x (cN y z)
abbrev VV x y:=tu x (aj.C y)
abbrev aiZ(x:Nat->D->_->T (_⊕(_⊕Int)))(y:Nat)(z:U D)(u:Int):=H5 x y z (-u)
abbrev ajI x y:=Gi x (y:Int)
abbrev Xs(x:T D)(y:D->K):=(Option.b x λi=>il (y i):T (K⊕γ))
abbrev Y4(x:Prop)[Decidable x](y:D):=oa (aU x) y
abbrev aaD x y z u:=gJ x y z u az.aq
abbrev EJ(x:T D):=(Xs x λi=>i:T (D⊕K))
abbrev Oq:=vT 2
abbrev Fg:=bS []
abbrev nW x:=[G.str x]
abbrev En x y:=aj.C (aj.mk x y)
abbrev CQ:=(0:Int)
abbrev vU x:=v9 (aL.C x)
abbrev QF x:=FH x HG
abbrev nJ x y:=w6 (x+y)
abbrev Zy x(y:T D)(z:T K)(u:K->T D):=Y x y (Option.b z u)
abbrev jO x:=gd x aD.aq
abbrev agn x y(z:_->D):=J7 x y λi=>some (z i)
abbrev DJ x y:=agn x y λi=>i
abbrev Jh x y z u v:=Ac x y [] z u v
abbrev ZB x y z:=Ad x (nW y) z
abbrev T3 x:=nJ x 1
abbrev ags x y:=ahF x 0 y
abbrev Uy:=vT 6
abbrev Dq x y:=(Q6 x y:U az)
abbrev agv x y z u:=gJ x y z u J.aq
abbrev Cf x y z u:=l8 x y z (H u)
abbrev Bc x y:=be x false y
abbrev Jy:=(cp:Z)
abbrev Ce x:=gd x V.aq
abbrev EN x:=ags x 0
abbrev E4 x y z:=im x y z []
abbrev agC x y z u:=gJ x y z u af.aq
abbrev vS x:=gd x J.aq
abbrev uu(x:Nat)(y:T D)(z:D->T K):=A7 x 16 y z
abbrev dF x:=vT (wm x)
abbrev LQ(x:U D)(y:Int)(z:D->T K)(u:K->T γ):=eE x y λi=>Option.b (z i) u
abbrev PY(x:Int):=fg x 1
abbrev Dr x(y:D)z(u:D)(v:T D):=be x y (be z u v)
abbrev D7 x y z(u:_->T D):=n8 x (bg y z) u
abbrev Zz x y:=[aD.mk x y]
abbrev UV(x:Int)y:=x<(y:Int)
abbrev CO:=([]:U az)
abbrev Fl x y:=E4 x y 0
abbrev agO x y z u:=gJ x y z u V.aq
abbrev T7:=vT 4
abbrev Kl x:=Ht 8 x
abbrev agR x y z u v w:=HN x y z u (Sk v w)
abbrev agS(x:T (D⊕_)):=Option.j x λ_=>cI
abbrev CB x y z:=Ad x y (G.str z)
abbrev Cj x(y:D)(z:T K)(u:K->T D):=be x y (Option.b z u)
abbrev C0 x:=cg x aD.aq
abbrev CN x:=v9 (nW x)
abbrev Jz x y:=Nw x (GStep.C y)
abbrev D6:=([]:U V)
abbrev Ob(x:Nat):=[0,x]
abbrev DL x:=Fl x cp
abbrev UW(x:D)y:=(x,H y)
abbrev ag2 x y:=bL 11 x y
abbrev ag3 x y(z:_->D):=n8 x y λi=>some (z i)
abbrev ag4(x:Nat->D->_->T (_⊕(_⊕Int)))(y:Nat)(z:U D):=aiZ x y z 1
abbrev CP(x:Int)(y:Int):=decide (x<=y)
abbrev Cl:=(il ():T (_⊕D))
abbrev Em(x:Nat)(y:Nat)(z:D):=List.replicate (x-y) z
abbrev zd x y z u v:=(⟨#[x,y,z,u,v]⟩:Z)
abbrev ag9(x:Int)(y:Int):=IntKind.i64.wrap (x * y)
abbrev Am x y:=ag3 x y λi=>i
abbrev Lr(x:Nat->D->_->T (_⊕(_⊕Int)))(y:U D):=ag4 x 0 y
abbrev ND:=Ob 7
abbrev Dp:=([]:U af)
abbrev DY x y z:=ag2 x [y,z]
abbrev P6 x:=Gi x 1
abbrev Zl x y z:=Ad x y (bS z)
abbrev DG x:=List.map V.aq x
abbrev Jw:=(fS false:T (D⊕(K⊕_)))
abbrev CL x(y:D)(z:D):=(dz x (il y) z:T (D⊕K))
abbrev Jt(x:U D)(y:Int)(z:D->K):=eE x y λi=>some (z i)
abbrev Cz x y:=tu x (nW y)
abbrev mz(x:Int):=mK x 0
abbrev OZ x y z u:=aF.mk x y z [] u
abbrev RV:=we 1
abbrev Vl:=vT 5
abbrev DF x:=(Ba x false:T (_⊕(D⊕_)))
abbrev EH x y:=bL 14 x y
abbrev Ff(x:Nat)(y:Nat)(z:D):=oa (ck x y) z
abbrev yZ(x:Int)(y:Int)(z:T D):=cN (vO x y) z
abbrev DE x:=List.map J.aq x
abbrev ZA:=Ob 3
abbrev lz x y z:=agO x y 13 z
abbrev ahx(x:D->T (D⊕(K⊕γ)))(y:D)(z:K->γ):=y6 x y λi=>some (z i)
abbrev ahy(x:T D)(y:D->Int):=fv x λi=>mz (y i)
abbrev DD(x:D->T (D⊕(K⊕K)))(y:D):=ahx x y λi=>i
abbrev EI:=([]:U aD)
abbrev CM x:=EH jT x
abbrev ahC x y z u:=NB x y 0 z u
abbrev sS x y:=qc x 1 y
abbrev DI x:=List.map ak.aq x
abbrev Rq x y:=Qw 5 x y
abbrev D5 x y:=DJ x (jg y)
abbrev Cc x(y:Int):=yS (x:Int) y
abbrev Fh x y z:=eb #[x,y,z]
abbrev DH x y:=tu x (V.C y)
abbrev Ux x:=ahy x λi=>i
abbrev Cb x y z:=ahC x y z 0
abbrev gr:=Nu []
abbrev Db x y z:=sS x (sS y z)
abbrev ahO x y:=Fh x y 32
abbrev VN x y:=jM 1 x y
abbrev C9 x y:=Cb 14 x y
abbrev D4:=DL 0
abbrev C8 x:=bg x Jy
abbrev Da x y(z:_->T D):=fE x (jg y) z
abbrev D3 x(y:D)(z:T (D⊕K)):=Y x (il y) z
abbrev D0 x:=cg x ak.aq
abbrev DZ(x:Nat)(y:D):=(l6 x 16 y:T (D⊕K))
abbrev Oa x y:=eb #[x,y]
abbrev VM x y:=jS 1 x y
abbrev ahZ x y:=akK 3 x y
abbrev UU(x:D)y:=[Ht x y]
abbrev Dd(x:Nat->D->_->T (_⊕(_⊕K)))(y:Nat)(z:U D):=fp x y z ()
abbrev Dc x:=v9 (aw.C x)
abbrev ah3 x y z u(v:_->T D):=fE x (be y z u) v
abbrev ah4 x y z:=some (ip x y z)
abbrev ah5 x y z:=Int.tmod (tq x y) z
abbrev El(x:Nat)(y:D):=(l6 x 136 y:T (D⊕K))
abbrev CA(x:T D)(y:D->T K):=Option.b x λi=>jg (y i)
abbrev yp(x:D)y:=(x,G.str y)
abbrev ah9 x:=ahO 32 x
abbrev qj x:=ahZ x 0
abbrev R9 x:=[v9 x]
abbrev Cy(x:Nat->D->_->T (_⊕(_⊕_)))(y:Nat)(z:U D):=agS (Dd x y z)
abbrev DX x:=pT 1 x
abbrev Us:=we 3
abbrev CG x(y:Nat)z u v:=J3 x y z (Fl u v)
abbrev Cx x y:=v4 (Dq x y)
abbrev EG(x:Prop)[Decidable x](y:Prop)[Decidable y](z:D):=J6 x y λ_=>some z
abbrev Cw x y(z:D):=(Ba (bg x y) z:T (_⊕(K⊕D)))
abbrev VO:=iL 2
abbrev Vq x(y:Int)(z:Int)(u:_->T D):=l5 x (y==z) u
abbrev ail x:=ajI 16 x
abbrev HD x y z u:=l8 x y (R9 z) u
abbrev l3 x y z u:=Cf x y (R9 z) u
abbrev aio x:=qj (jG x)
abbrev Y6(x:D)y:=(x,DX y)
abbrev CF:=Ob 1
abbrev air x y:=UV (ail x) y
abbrev Ej x:=Nt 0 x
abbrev CY x(y:T D)(z:D)(u:D->T K):=sP x (EJ y) z u
abbrev CX x y z u:=gJ x y z u aD.aq
abbrev DW x y:=some (bg x y)
abbrev DV x y:=Nw x (am.C y)
abbrev CW x(y:T (_⊕D)):=dz x y ()
abbrev yY(x:Int)y:=x<=(y:Int)
abbrev aiz(x:T D)(y:D->At):=fv x λi=>!y i
abbrev Dv x y z u v:=ax.C (ax.mk x y z u) v
abbrev CZ(x:D->T (D⊕(K⊕γ)))(y:D)(z:γ):=ju (gQ x y) z
abbrev aiC x y(z:D):=aho x (ed y) z
abbrev Jr(x:U D)(y:Int):=Jt x y λi=>i
abbrev E7 x:=aiz x λi=>i
abbrev Ai:=Ej 0
abbrev VH x:=Nw 4 x
abbrev Zd:=vT 7
abbrev Zx x y z:=aaD x y 2 z
abbrev Ur x y:=lv 1 x y
abbrev CK x(y:T D)(z:D->T K):=cN x (Option.b y z)
abbrev aiM x:=Oa x 32
abbrev CJ:=AR.e 23
abbrev CI:=J8 256
abbrev Ek:=([]:U J)
abbrev aiW x:=([x]:U (U Z))
abbrev aiX:=aiM 123
abbrev VX(x:Int):=x !=0
abbrev Vs:=we 2
abbrev ai3 x(y:T D)(z:T K)(u:K->T γ):=Rl x y λ_=>Option.b z u
abbrev Fe x y:=some (Ro x y)
abbrev Fd(x:Prop)[Decidable x](y:U D)(z:Int)(u:K):=(zF x y z λ_=>il u:T (K⊕γ))
abbrev ai7:=HK 40
abbrev Dm:=AR.b true
abbrev Wv(x:D×_)(y:D)z:=[x,UW y z]
abbrev YS(x:Nat)(y:U D)(z:Nat)(u:U K)(v:U K):=(RF x y z (u++v):T ((U K)⊕γ))
abbrev C7(x:U D)(y:Int)(z:U K)(u:Int)(v:D->K->T γ):=eE x y λi=>eE z u (v i)
abbrev fq x y z u v:=agR x y z u v 1
abbrev Dl(x:Prop)[Decidable x](y:Prop)[Decidable y](z:T D)(u:D->T K):=J6 x y λ_=>Option.b z u
abbrev VY(x:Int):=vO x 0
abbrev CC x y z(u:_->T D):=ah3 x y z cI u
abbrev Ag x y z:=OZ x y z []
abbrev aju x y z u v w s t:=Vn x y z u (DY v w s) t
abbrev Zw x y z:=agv x y 9 z
abbrev Zv x y z:=agC x y 6 z
abbrev wg:=AR.e 8
abbrev DB x:=Qv (Hu x)
abbrev Fa(x:U D)(y:Nat)(z:Nat):=List.take z (List.drop y x)
abbrev EE x y z:=agp x y 1 z
abbrev ajE:=[Rv]
abbrev Y5 x:=fN x ajE
abbrev Ww x y:=EE 0 x y
abbrev Cv x y:=dh.mk x y 0
abbrev Vo(x:Int):=ain x 1
abbrev CV x:=v8 x 61
abbrev DU(x:U D)(y:Nat)(z:D)(u:Nat)(v:D):=List.set (List.set x y z) u v
abbrev ED x:=az.mk x []
abbrev FB:=(.inr false:D⊕_)
end
section
variable{p:Prop}
def OR(x:p:=by exact R h λ_ c h=>⟨d.toNat,1,_,Q,(gl c Q),.inl<|cY h m9 (cn (ls B) B) λ_ h=>bj h (λh=>oj h▸⟨.inr Q,_,_,(cc (er (0,0) 0 Q Q Q Q)<|cc (em (0,2) 1 Q Q Q Q Q)<|cc (em (0,2) 2 Q Q Q Q Q)<|cc (em (0,2) 3 Q Q Q Q Q)<|cc (er (0,0) 1 Q Q Q cD)<|dr _ _ _ _),⟨co<|cV<|cn (ls<|cr zA) B,ku⟩,.refl _⟩) λh=>R h λc e h=>⟨d.toNat,1,_,Q,(gl e Q),Q,((a.ae.set d.toNat<|af.mk c.name<|re 3 f.name).map af.aq),(gI<|.agg<|di<|ee B),dO ⟨E 0 20<|qc 20 1<|E 21 2<|qt 23 1 [],[],7⟩<|nM h λa h=>nM h λc h=>kS h λd h=>R h λ_ e h=>⟨Q,(Jq d),iI e (by simp),F 7 ⟨((b.map az.aq).length+(([(az.mk f.name [(aG.mk a false rB),(aG.mk c false rB)])]:U az).map az.aq).length),Q,tV<|kS h λa h=>cJ h [(1,7)] agk M (cn (od a) B) λ_ h=>kS h λa h=>kS h λb h=>oj h▸⟨.inr Q,_,_,(cc (er (0,0) 0 Q Q Q a)<|cc (em (0,2) 1 Q Q Q b Q)<|cc (em (0,2) 2 Q Q Q Q Q)<|cc (em (0,2) 3 Q Q Q Q Q)<|cc (er (0,0) 1 Q Q Q cD)<|dr _ _ _ _),⟨co<|cV<|cn (ls<|cr zA) B,ku⟩,.refl _⟩⟩⟩⟩⟩):=x
def akN(x:p:=by exact dO ⟨E 0 5<|E 7 1<|qc 5 1<|E 6 1 [],[],7⟩<|R h λ_ c h=>wo 7 (ani c) (vc (va<|vc (vm Q Q<|vl B)<|vc (vm Q cD<|qY<|va<|vc (vp zA)<|vc (vm Q Q<|vl B)<|vc (vm Q Q<|vl B)<|vc (vm Q Q<|vl B)<|vl B)<|vl B)<|vc (vp zA) dN.nil) (λa h b=>zU (λ_=>Gb<|wn Ib<|wn Ib .nil) a h _ b) Q Q<|tV<|lp h [0,3,6,61,62] (λa=>[(7,.bool a.1),(63,H a.2)]) [] W [0,3,6] (zb 7) [(1,7)] W I I qA (λ_⟨_,a⟩h=>bu h λh=>.inl<|kS h λc h=>⟨c.1,c.2,(a.toNat*2),Q,R h λ_ c h=>⟨a.toNat,0,_,Q,(gl c Q),F 8<|dO ⟨E 0 9 ((12,.al (1,9))::(qc 9 1 (E 10 2 (qt 13 1 [])))),[(1,9)],10⟩<|R h λa c h=>cR (m8 c) (vc (va<|vc (vm Q Q<|vl B)<|vc (vm Q cD<|qY<|va<|vc (vp zA)<|vc (vm Q Q<|vl B)<|vc (vm Q Q<|vl B)<|vc (vm Q Q<|vl B)<|vl B)<|vl B)<|vc (vp zA) dN.nil) lg<|tV<|kS h λc h=>kS h λd h=>⟨c.1,c.2,(a.toNat*13),Q,a.toNat,0,_,Q,(iN d),dO ⟨(E 0 6<|qt 6 1<|E 7 5<|qt 12 1<|E 13 17<|qt 30 1 []),[],10⟩<|bi h (λh=>⟨λ_=>⟨λ_=>jA h,nofun⟩,nofun⟩) λh=>R h λ_ a h=>cR (lS a) (vc (vm Q Q<|vl B)<|vc (vp zA) dN.nil) Ga<|bi h (λh=>⟨λ_=>jA h,nofun⟩) λh=>R h λ_ a h=>cR (IF a) (vc (va<|vc (vp zA)<|vc (vm Q Q<|vl B)<|vc (vm Q Q<|vl B)<|vc (vm Q Q<|vl B)<|vl B)<|vc (vp zA) dN.nil) Ga<|bi h (λh=>jA h) λh=>R h λ_ a h=>⟨b.toNat,0,_,Q,(Aq a Q f),bi h (λh=>jo h Q anp Av) λh=>jA h⟩⟩⟩⟩) λ_ h=>bj h (λh=>oj h▸⟨.inr Q,_,_,(cc (er (0,0) 0 Q Q Q Q)<|cc (em (0,2) 1 Q Q Q Q Q)<|cc (em (0,2) 2 Q Q Q Q Q)<|cc (em (0,2) 3 Q Q Q Q Q)<|cc (er (0,0) 1 Q Q Q cD)<|dr _ _ _ _),⟨co<|cV<|cn (ls<|cr zA) B,ku⟩,.refl _⟩) λh=>.inl<|R h λc g h=>⟨b.toNat,2,_,Q,(Aq g Q f),Q,(eB V.aq (d.set b.toNat<|V.mk c.name c.ae [a6.ar] c.aX c.aH) e<|.agg (.str a.name::.ms (0,3) 6 ((a.ae.map af.aq).length)::.ms (0,4) 1 ((a.key.map G.str).length)::.ms (0,5) 2 ((a.aX.map aD.aq).length)::a.aH.T [])),(agx (.agg<|kq<|cn (ls B) B) f),dO ⟨E 0 9 ((13,.al (1,7))::(qc 9 1 (E 10 3 (qt 14 1 [])))),[(1,7)],8⟩<|R h λ_ a h=>⟨b.toNat,1,_,Q,(Aq a Q f),R h λ_ a h=>⟨b.toNat,0,_,Q,(Aq a Q f),S h lI λ_ h=>tV<|nM h λa h=>dO ⟨E 0 5<|E 7 1<|qc 5 1<|E 6 1 [],[],8⟩<|R h λ_ b h=>wo 8 (ani b) (vc (va<|vc (vm Q Q<|vl B)<|vc (vm Q (by simp[cD])<|qY<|va<|vc (vp zA)<|vc (vm Q Q<|vl B)<|vc (vm Q Q<|vl B)<|vc (vm Q Q<|vl B)<|vl B)<|vl B)<|vc (vp zA) dN.nil) (λa h b=>zU (λ_=>Gb<|wn Ib<|wn Ib .nil) a h _ b) Q Q<|tV<|lp h [0,11,135,136] (λa=>[(137,H a.1)]) [(1,6)] (λa=>[oD 0 3 6 (a.2.map af.aq)]) [] W [(1,8),(1,7),(1,6)] (λa=>[oD 0 3 6 (a.map af.aq)]) I I qA (λ_⟨b,c⟩h=>bu h λh=>.inl<|kS h λd h=>⟨d.1,d.2,(b.toNat*2),Q,R h λ_ d h=>⟨b.toNat,0,_,Q,(gl d Q),F 9<|dO ⟨E 0 9<|qc 9 1<|E 10 2 [],[],10⟩<|kS h λb h=>R h λd e h=>cR (m8 e) (vc (va<|vc (vm Q Q<|vl B)<|vc (vm Q (by simp[cD])<|qY<|va<|vc (vp zA)<|vc (vm Q b<|vl B)<|vc (vm Q Q<|vl B)<|vc (vm Q Q<|vl B)<|vl B)<|vl B)<|vc (vp zA) dN.nil) lg<|tV<|kS h λb h=>kS h λe h=>⟨b.1,b.2,(d.toNat*13),Q,dO ⟨E 0 9<|E 10 1<|qc 9 1<|E 11 2<|qt 13 1 [],[],10⟩ ⟨d.toNat,1,_,Q,(iN e),d.toNat,0,_,Q,(iN e),kS h λb h=>R h λd e h=>cR (lI e) (vc (va<|vc (vp zA)<|vc (vm Q b<|vl B)<|vc (vm Q Q<|vl B)<|vc (vm Q Q<|vl B)<|vl B)<|vc (vp zA) dN.nil) lg<|tV<|kS h λb h=>⟨b.1,b.2,(d.toNat*6),Q,R h λb e h=>⟨d.toNat,1,_,Q,(gl e Q),Q,((c.set d.toNat<|af.mk b.name a.bH).map af.aq),(gI zA),jA h⟩⟩⟩⟩⟩⟩) λ_ h=>kS h λa h=>oj h▸⟨.inr Q,_,_,(cc (er (0,0) 0 Q Q Q Q)<|cc (em (0,2) 1 Q Q Q a Q)<|cc (em (0,2) 2 Q Q Q Q Q)<|cc (em (0,2) 3 Q Q Q Q Q)<|cc (er (0,0) 1 Q Q Q (by simp[cD]))<|dr _ _ _ _),⟨co<|cV<|cn (ls<|cr zA) B,ku⟩,.refl _⟩⟩⟩⟩):=x
def akO(x:p:=by exact S h Gr λ_ h=>tV<|R h λ_ g h=>cR (m8 g) (vc (va<|vc (vm Q Q<|vl B)<|vc (vm Q cD<|qY<|va<|vc (vp zA)<|vc (vm Q Q<|vl B)<|vc (vm Q Q<|vl B)<|vc (vm Q Q<|vl B)<|vl B)<|vl B)<|vc (vp zA) dN.nil) lg<|tV<|cY h m9 (cn (ls B) B) λ_ h=>bj h (λh=>oj h▸⟨.inr Q,_,_,(cc (er (0,0) 0 Q Q Q Q)<|cc (em (0,2) 1 Q Q Q Q Q)<|cc (em (0,2) 2 Q Q Q Q Q)<|cc (em (0,2) 3 Q Q Q Q Q)<|cc (er (0,0) 1 Q Q Q cD)<|dr _ _ _ _),⟨co<|cV<|cn (ls<|cr zA) B,ku⟩,.refl _⟩) λh=>dO ⟨E 0 12<|E 16 7 ((25,.al (1,13))::(qc 12 1 (E 13 3 (qc 23 1 (E 24 1 (qt 26 1 [])))))),[(1,13)],14⟩ ⟨b.toNat,1,_,Q,(iN f),b.toNat,0,_,Q,(iN f),b.toNat,0,_,Q,(iN f),R h λg i h=>cR (lI i) (vc (va<|vc (vp zA)<|vc (vm Q Q<|vl B)<|vc (vm Q Q<|vl B)<|vc (vm Q Q<|vl B)<|vl B)<|vc (vp zA) dN.nil) lg<|tV<|kS h λi h=>⟨i.1,i.2,(g.toNat*6),Q,R h λ_ i h=>⟨g.toNat,0,_,Q,(gl i Q),cU (S9 Q) B<|tV<|sT<|.inr<|ga (1,13) 3 2 14 Q Q Q Q<|ga (1,13) 1 6 15 Q Q Q Q<|zI h 131 [2,3,6,11,129,130] W [(1,12)] (λb=>[Kp 1 15 b,cd 1 13 [.str k.name,rA 1 15 b,bS [c],lv 1 14 [(aD.mk c a.name)],H 2,.str bk,H 1,.str bk,bS [],bS [],lh [],H 0,H 0]]) I qA (sq 129 Q) (λ_ _ _ _ a c _ h=>.inl ⟨λ_=>.inl<|nV a<|dO ⟨E 0 10<|qc 10 1<|E 11 3<|qt 14 1<|E 15 1<|qt 16 1 [],[],16⟩ ⟨b.toNat,1,_,Q,(iN f),b.toNat,0,_,Q,(iN f),R h λa b h=>cR (lI b) (vc (va<|vc (vp zA)<|vc (vm Q Q<|vl B)<|vc (vm Q Q<|vl B)<|vc (vm Q Q<|vl B)<|vl B)<|vc (vp zA) dN.nil) lg<|tV<|kS h λb h=>⟨b.1,b.2,(a.toNat*6),Q,R h λ_ b h=>⟨a.toNat,0,_,Q,(gl b Q),aR h λh=>jA h⟩⟩⟩,λa=>eA c a⟩) (λ_=>.inl ⟨λa=>eC a,λ_=>⟨Q,(uF ⟨co<|ano<|gM B,ZZ⟩),Io⟩⟩) λg h=>⟨b.toNat,3,_,Q,(iN f),lp h [2,3,6,11,155,156] (λa=>[(157,H a.1)]) [] (λa=>[oQ 1 14 a.2,cd 1 13 [.str k.name,rA 1 15 g,bS [c],lv 1 14 a.2,H 2,.str bk,H 1,.str bk,bS [],bS [],lh [],H 0,H 0]]) [2,3,6,11] W [] (λa=>[oQ 1 14 a,cd 1 13 [.str k.name,rA 1 15 g,bS [c],lv 1 14 a,H 2,.str bk,H 1,.str bk,bS [],bS [],lh [],H 0,H 0]]) I I qA (λ_⟨a,_⟩h=>bu h λh=>jn h [2,3,6,11,155,156,157] W [] (λa=>[oQ 1 14 a,cd 1 13 [.str k.name,rA 1 15 g,bS [c],lv 1 14 a,H 2,.str bk,H 1,.str bk,bS [],bS [],lh [],H 0,H 0]]) I (λh _=>.inl<|kS h λb h=>⟨b.1,b.2,(a.toNat*2),Q,R h λ_ b h=>⟨a.toNat,0,_,Q,(gl b Q),F 16<|S h lS λ_ h=>bu h λh=>.inl<|aR h λh=>jA h⟩⟩) λ_ h=>jA h) λ_ h=>dO ⟨E 0 6<|qc 6 1<|E 7 2<|qt 9 1 [],[],16⟩ ⟨b.toNat,1,_,Q,(iN f),R h λc g h=>(bE [(1,7),(0,3)] 16 (agA g) Q) B Q Q ⟨Q,tv⟩ dk<|tV ⟨b.toNat,1,_,Q,(iN f),Q,(eB V.aq e d<|.agg (.str a.name::.ms (1,16) 6 ((c.1.map af.aq).length)::.ms (0,4) 1 ((a.key.map G.str).length)::.ms (0,5) 2 ((a.aX.map aD.aq).length)::a.aH.T [])),(qk f.1),dO ⟨E 0 6<|qc 6 1<|E 7 2<|qt 9 1 [],[],17⟩ ⟨b.toNat,3,_,Q,(iN f),R h λg i h=>(bE [(1,7),(0,5)] 17 (akW i) Q) B Q Q ⟨Q,tv⟩ dk<|tV ⟨b.toNat,3,_,Q,(iN f),Q,(eB V.aq e d<|.agg (.str a.name::.ms (1,16) 6 ((c.1.map af.aq).length)::.ms (0,4) 1 ((a.key.map G.str).length)::.ms (1,17) 2 ((g.1.map aD.aq).length)::a.aH.T [])),(qk f.1),R h λ_ b h=>kS h λf h=>(tz (0,2) 1 Q Q Q Q Q<|tz (0,2) 2 Q Q Q Q Q<|tz (0,2) 3 Q Q Q Q Q<|(iR o3 (rP b) Q) (cV<|cn (.agg<|cV<|cn (ls B)<|cV<|cn (ls B)<|di<|gM B) B) Q tv ⟨co<|cV<|cn (od f) B,(uj ⟨.bD (ys:=((e.set d (V.mk a.name c.1 a.key g.1 a.aH)).map V.aq))<|cr zA,tv⟩)⟩<|oj h▸⟨.inr Q,_,_,(cc (A1 (0,3) Q)<|cc (A1 (0,5) Q)<|dr _ _ _ _),vE,.refl _⟩)⟩⟩⟩⟩⟩⟩⟩⟩):=x
def E1(x:p:=by exact λh=>bI h λh=>zB):=x
def EC(x:p:=by exact oj h▸⟨.inr Q,_,_,(cc (er (0,0) 0 Q Q Q Q)<|cc (em (0,2) 1 Q Q Q Q Q)<|cc (em (0,2) 2 Q Q Q Q Q)<|cc (em (0,2) 3 Q Q Q Q Q)<|cc (er (0,0) 1 Q Q Q cD)<|dr _ _ _ _),⟨co<|cV<|cn (ls<|cr zA) B,ku⟩,.refl _⟩):=x
def Eg(x:p:=by exact va<|vc (vp zA)<|vc (vm Q Q<|vl B)<|vc (vm Q Q<|vl B)<|vc (vm Q Q<|vl B)<|vl B):=x
def ER(x:p:=by exact bu h λh=>lx h a λh=>O):=x
def akY(x:p:=by exact dO ⟨E 0 3<|E 4 8<|qc 3 1<|qc 12 1<|E 13 3 [],[],5⟩<|cG h o1 YE M λ_ h=>tV<|cG h o1 yh M λ_ h=>tV<|.inr<|gc 11 23 5 Q Q Q<|He h [] (λa=>[(11,Kq 1 5 a)]) [T7,Rk,Oq,S1] (λa=>[Kr 1 5 a]) I (λh _=>bu h λh=>S h ye λa h=>R h λ_ b h=>(bE [] 6 (lK b) Q) (cV<|fm B) Q Q tv tv<|.inl<|aR h λh=>cY h ye (cV<|cn (ls<|ap B B) B) λb h=>dO ⟨E 0 3<|E 4 5<|E 10 2<|E 14 2 ((21,.al (1,7))::(Db 3 9 (qc 12 2 (fq 16 3 19 2 22)))),we 7,8⟩<|cU (uR Q) B<|tV<|cU (uR Q) B<|tV<|cG h o1 tL M λc h=>tV<|cU (mQ Q) B<|tV<|cG h o1 tL M λe h=>tV<|cU (mQ Q) B<|tV<|cU (Aa (Q:yf (Ro c [HF b]) (Ro e [HF a])=some _)) (cn (.agg<|di<|ee B)<|cn (.agg<|di<|ee B) B)<|tV<|dO ⟨E 0 8<|E 9 1<|qc 8 1<|qc 10 1<|E 11 2<|qt 13 2 [],[],8⟩<|cU (Jb (Q:GP yH (ip 10 [b,bk] [HF b,HF d.x.ai,CM [Ro c [HF b],Ro e [HF a]]])=some _)) (cV<|cn (.agg<|di<|cn (ls B)<|fm<|cn (ls<|cn (hP<|.agg<|di<|gM B)<|cn (hP<|.agg<|di<|gM B)<|cn (hP<|.agg<|di<|ee B) B) B) B)<|tV<|cU (Aa (Q:yf (bL 4 yH [ip 10 [b,bk] [HF b,HF d.x.ai,CM [Ro c [HF b],Ro e [HF a]]]]) eK=some _)) (cn (.agg<|di<|ee B)<|cn (.agg<|di<|gM B) B)<|tV<|aR h λh=>jA h) λ_ h=>O):=x
def aib(x:p:=by exact ⟨.inr Q,_,_,(cc (ft [(4,.aS (Dv f a.1 b c (.map Rk)) 0),(5,PU)] ⟨.refl _,.refl _,tv⟩) (cc (ll [oD 1 4 0 [],(Rk,.map (A8 d)),Jz 1 b] Q) (cc (gv (1,3) (1,0) Q) (dr _ _ _ _)))),⟨.refl _,tv⟩,.refl _⟩):=x
def Jn(x:p:=by exact S h al1 λ_ h=>F 11<|sT<|jb h 4 [0,5,6,7,8,10,11,14] (λb=>[(99,AR.av (AR.e 23)),(101,AR.av (AR.b true)),(102,AR.av (AR.e 8)),(104,AR.av (AR.b a)),(105,AR.av (AR.e 4)),(117,.bool b)]) [(1,9),(1,8)] W I (λh=>bi h (λh=>oj h▸⟨Q,uG,uE⟩) λh=>S h Gp λ_ h=>oj h▸⟨Q,uG,uE⟩) λ_ h=>.inl<|cY h m9 (cn (ls B) B) λ_ h=>bj h (λh=>EC) no):=x
def Zo(x:p:=by exact λ_=>.inl ⟨λa=>eC a,λ_=>⟨Q,dk,tv⟩⟩):=x
def CT(x:p:=by exact aR h λh=>jA h):=x
def OY(x:p:=by exact jz h 7 [0,1,5,9,11,12] 100 I (λh=>bI h λh=>.inl ⟨nofun,λ_=>zB⟩) λ_ h=>bj h (λh=>dO ⟨E 0 3<|qc 3 1<|E 4 1<|qt 5 1 [],[],6⟩<|tV<|jn h [5] W [Vl,T7,Rk] (λv=>[Nw 1 (aC.C (aC.mk a.ah v a.bind (J.mk b c d e f g i j k) (J.mk l m n o p q s t u) a.pos a.dG))]) I (λh _=>ba h λh=>jA h) λ_ h=>.inl O) λh=>.inl<|bj h (λh=>cG h o1 pE M λ_ h=>O) λh=>bj h (λh=>cG h o1 pF M λ_ h=>O) λh=>cG h o1 pK M λ_ h=>O):=x
def Cu(x:p:=by exact vc (va<|vc (vm Q Q<|vl B)<|vc (vm Q cD<|qY<|Eg)<|vl B)<|vc (vp zA) dN.nil):=x
def ak5(x:p:=by exact lp h [0,3,6,7,8,102,103] (λa=>[(10,.bool a.1),(104,H a.2)]) [(1,7)] W [0,3,6,7,8] (zb 10) [(1,7)] W I I qA (λ_⟨_,a⟩h=>bu h λh=>.inl<|kS h λb h=>⟨b.1,b.2,(a.toNat*2),Q,R h λ_ b h=>⟨a.toNat,0,_,Q,(gl b Q),F 7<|jb h 5 [0,3,6,7,8,102,103,104] (zb 114) [(1,7)] W I (λh=>bI h λh=>cH h [(1,6)] akP M Q B Q ⟨Q,tv⟩ tv λ_ h=>zB) λ_ h=>jA h⟩⟩) λ_ h=>dO ⟨E 0 6<|qt 6 1<|E 7 6<|qt 13 1<|E 14 8<|qt 22 1<|E 23 2 [],[],7⟩ ⟨c.toNat,2,_,Q,(iN e),R h λ_ g h=>cR (lS g) (vc (vm Q Q<|vl B)<|vc (vp zA) dN.nil) Ga<|bi h (λh=>⟨λ_=>OR,nofun⟩) λh=>⟨c.toNat,0,_,Q,(iN e),R h λ_ g h=>cR (ID g) (vc Eg<|vc (vp zA) dN.nil) lg<|bi h (λh=>OR) λh=>⟨c.toNat,0,_,Q,(iN e),R h λ_ c h=>cR (IF c) (vc Eg<|vc (vp zA) dN.nil) Ga<|OR⟩⟩⟩):=x
def DT(x:p:=by exact kG h 5 CF W [] W I (sq 0 Q) (λa _ _ _ b c _ h=>sT<|sV c<|.inl<|nV b<|ER) λ_ h=>O):=x
def ak9(x:p:=by exact bw h λh=>dO ⟨E 0 5<|E 6 3<|E 10 5<|qc 5 1<|qc 9 1<|qt 15 1<|E 16 2 [],[],5⟩<|sT<|bi h (λh=>R h λ_ a h=>(bE [] 5 (lK a) Q) (cV<|fm B) Q Q tv tv<|tV<|aR h λh=>tV<|cY h um (cn (ls<|ap B B) B) λ_ h=>bw h λh=>sT<|jn h [8,10,11] W [Vl,Oq] (λa=>[RE 3 (J.mk a.1 a.2.1 a.2.2.1 a.2.2.2.1 a.2.2.2.2.1 a.2.2.2.2.2.1 a.2.2.2.2.2.2.1 a.2.2.2.2.2.2.2.1 a.2.2.2.2.2.2.2.2)]) I (λh _=>bu h λh=>cG h o1 yh M λ_ h=>jA h) λ⟨_,_,_,_,_,_,_,_,_⟩h=>.inl O) λh=>.inl ⟨nofun,λ_=>sT<|jn h [8,10,11] W Vs (λa=>[RE 3 (J.mk a.1 a.2.1 a.2.2.1 a.2.2.2.1 a.2.2.2.2.1 a.2.2.2.2.2.1 a.2.2.2.2.2.2.1 a.2.2.2.2.2.2.2.1 a.2.2.2.2.2.2.2.2)]) I (λh _=>bu h λh=>cG h o1 yh M λ_ h=>jA h) λ⟨_,_,_,_,_,_,_,_,_⟩h=>.inl O⟩):=x
def UR(x:p:=by exact λh _=>ba h λh=>jA h):=x
def gk0(x:p:=by exact λ_=>R h λ_ a h=>.inl ⟨iI a (by simp),.inr ⟨Q,F 0<|match h with|rfl=>⟨.inr Q,_,_,dr _ _ _ _,⟨.refl _,tv⟩,.refl _⟩⟩⟩):=x
def dT(x:p:=by exact cn (ls B) B):=x
def OJ(x:p:=by exact λh=>dO ⟨E 0 16 ((16,.al (1,4))::(Sk 17 1)),we 4,5⟩<|dO ⟨E 0 7<|E 8 1<|qc 7 1<|E 9 3 [],[],5⟩<|cU (zX (Q:xM b.x.name (ip 6 [b.x.ar] [Ro b.x.ar [a]])=some _)) (cV<|cn (.agg<|di<|cn (ls B)<|fm<|cn (ls<|cn (hP<|.agg<|di<|ee<|cn (ls<|cn (hP zA) B) B) B) B) B)<|tV O):=x
def OH(x:p:=by exact bj h (λh=>jn h [5] W [(1,4),(1,3)] (λv=>[cd 1 1 (aC.C (aC.mk a.ah v a.bind (J.mk b c d e f g i j k) (J.mk l m n o p q s t u) a.pos a.dG))]) I UR λ_ h=>.inl O) λh=>bj h (λh=>cG h o1 amG M λ_ h=>O) λh=>bj h (λh=>cG h o1 agr M λ_ h=>O) λh=>cG h o1 agP M λ_ h=>O):=x
def alg(x:p:=by exact bj h (λh=>dO ⟨E 0 16<|qc 16 3<|E 19 3 [],[],4⟩<|cG h o1 nN M λd h=>tV<|cU (uJ (Q:tH c a d=some _)) B<|tV<|cU (zX (Q:xM b.x.name (DY c a d)=some _)) (cV<|cn (.agg<|di<|ee B) B)<|tV O) λh=>wt h (λ_ b h=>⟨true,_,Km aB.aq b,nofun,F 4<|dO ⟨E 0 4<|E 5 1<|E 8 1<|qc 4 1<|qc 6 1<|E 7 1<|E 9 3 [],[],5⟩<|cY h Gk (kq<|fm B) λb h=>tV<|cU (Bk (Q:zQ b a=some _)) B<|tV O⟩) λa h=>⟨false,_,Kn a,λ_=>.inr ⟨Q,Q⟩,F 4<|dO ⟨E 0 4<|E 5 1<|E 8 1<|qc 4 1<|qc 6 1<|E 7 1<|E 9 3 [],[],5⟩<|no h⟩):=x
def Dy(x:p:=by exact .inl ⟨λ_=>O,nofun⟩):=x
def ali(x:p:=by exact R h λ_ b h=>⟨iI b (by simp),.inr ⟨Q,F 6<|dO ⟨E 0 8<|E 9 1<|qc 8 1<|E 10 2<|qt 12 1 [],[],7⟩<|nV c<|R h λb c h=>cR (oG c) (vc (va<|vc (vp zA)<|vc (vm Q Q<|vl B)<|vl B)<|vc (vp zA) dN.nil) lg<|tV<|kS h λc h=>⟨c.1,c.2,(b.toNat*6),Q,R h λc e h=>⟨b.toNat,1,_,Q,(gl e Q),Q,((d.ae.set b.toNat<|af.mk c.name a.bH).map af.aq),(gI zA),kS h λa h=>R h λ_ b h=>(anf 2 1 Q Q Q a<|(bE [] 7 (z9 b) Q) B Q Q tv tv<|jA h)⟩⟩⟩⟩):=x
def DN(x:p:=by exact λ_=>.inl ⟨λa=>eC a,λ_=>⟨Q,dk,mC⟩⟩):=x
def Zr(x:p:=by exact λh=>bJ h λh=>sT zB):=x
def aof(x:p:=by exact bf (jd a Q) (bf (jd a Q) (bf (jd a Q) (bf (jd a Q) h)))):=x
def Cr(x:p:=by exact cn (.agg<|di<|ee B) B):=x
def E9(x:p:=by exact cn (.agg<|ja<|ee B) B):=x
def M4(x:p:=by exact λa=>eA c a):=x
def QG(x:p:=by exact dr _ _ _ _):=x
def Dx(x:p:=by exact λ_=>.inl ⟨λa=>eC a,λ_=>⟨Q,tv,tv⟩⟩):=x
def Eu(x:p:=by exact λ⟨_,_⟩=>.inl ⟨λa=>eC a,λ_=>⟨Q,(uF ⟨co<|tD<|fm B,uk⟩),jU⟩⟩):=x
def Uk(x:p:=by exact .inl<|CT):=x
def kv(x:p:=by exact oj h▸rN dk zS):=x
def GD(x:p:=by exact sq 0 Q):=x
def IE(x:p:=by exact .inl<|.inl<|R h λ_ a h=>⟨Q,UY (g:=(λ(a:U Z)=>G.sl 1 .no (a.map G.str))) a B<|dT,jA h⟩):=x
def alF(x:p:=by exact en f119<|F 0<|sT<|.inr<|gc 5 1 1 Q Q Q<|uD h [1,8] (λa=>Wv (Rq 1 a.1) 9 a.2) H6 (λa=>Vt 1 a.1) [] (λa=>[Rq 1 a]) H6 (λa=>Vt 1 a) I I qA (λ_⟨_,_⟩h=>bu h λh=>.inl<|.inl<|cY h zP (cn (ls<|cV<|dT) B) λ_ h=>S h zK λ_ h=>Uk) λ_ h=>O):=x
def DQ(x:p:=by exact cn (.agg<|di<|gM B) B):=x
def IC(x:p:=by exact va<|vc (vp zA)<|vc (vm Q Q<|vl B)<|vc (vm Q Q<|vl B)<|vl<|dT):=x
def Dz(x:p:=by exact .inl ⟨nofun,λ_=>jA h⟩):=x
def Vu(x:p:=by exact λa=>eC a):=x
def fo(x:p:=by exact iI a (by simp)):=x
def Ec(x:p:=by exact cn (.agg<|cV<|gM<|di<|gM<|di<|fm B) B):=x
def D9(x:p:=by exact oj h▸⟨Q,dk,jU⟩):=x
def alN(x:p:=by exact oj h▸⟨.inr Q,_,_,(cc (er (0,0) 0 Q Q Q Q)<|cc (em (0,2) 1 Q Q Q Q Q)<|cc (em (0,2) 2 Q Q Q Q Q)<|cc (er (0,0) 1 Q Q Q cD)<|cc (Z0 (0,5) Q)<|QG),⟨co<|cV<|cn (ls<|cr<|.agg<|ja<|dT) B,ku⟩,.refl _⟩):=x
def Ea(x:p:=by exact λh _=>bu h λh=>cG h o1 fU M λ_ h=>jA h):=x
def EZ(x:p:=by exact λh _=>bu h λh=>cG h o1 xY M λ_ h=>jA h):=x
def C4(x:p:=by exact lx h a λh=>O):=x
def alU(x:p:=by exact ⟨.inr Q,_,_,(cc (ft [(4,.aS (Dv f a.1 b c (.map Rk)) 0),(5,PU)] ⟨.refl _,.refl _,tv⟩) (cc (ll [oD 1 4 0 [],(Rk,.map (A8 J4)),Jz 1 b] Q) (cc (gv (1,3) (1,0) Q) QG))),⟨.refl _,tv⟩,.refl _⟩):=x
def ZC(x:p:=by exact λa=>eA b a):=x
def OL(x:p:=by exact R h λ_ a h=>⟨_,(iS a).1,(iS a).2,zB⟩):=x
def Di(x:p:=by exact cn (.agg<|di<|ee B)<|Cr):=x
def OK(x:p:=by exact dO ⟨E 0 22<|qt 22 1 [],[],2⟩<|bi h (λh=>jA h) λh=>nV a<|bi h (λh=>nV a<|jA h) λh=>jA h):=x
def Ct(x:p:=by exact so (1,0) 1 Q Q):=x
def EA(x:p:=by exact vc (vp zA) dN.nil):=x
def IH(x:p:=by exact ⟨λ_=>⟨λ_=>.inl ⟨λ_=>C4,nofun⟩,nofun⟩,nofun⟩):=x
def C6(x:p:=by exact bn h λh=>jA h):=x
def Ey(x:p:=by exact cG h o1 fU M λ_ h=>cG h o1 BA M λ_ h=>jA h):=x
def al4(x:p:=by exact S h Gy λ_ h=>bi h (λh=>Dy) λh=>kS h λa h=>sT ⟨a.1,a.2.1,a.2.2,cY h Gz (cn (ls<|sc B) B) λ_ h=>bw h λh=>.inl ⟨λ_=>cG h o1 xU M λ_ h=>O,nofun⟩⟩):=x
def Ed(x:p:=by exact λh=>bJ h λh=>S h alx λ_ h=>zB):=x
def Dj(x:p:=by exact hP<|.agg<|di<|ee B):=x
def C5(x:p:=by exact jx h a λh=>O):=x
def al8(x:p:=by exact tV<|kS h λa h=>oj h▸⟨.inl Q,_,_,(cc (ft [] tv)<|cc (gv (1,4) (1,0) Q)<|QG),⟨co<|di<|cn (lt<|ap B B)<|cV<|cn (od a) B,lo<|ap B B,kF⟩,.refl _⟩):=x
def Ex(x:p:=by exact λ_=>.inl ⟨Vu,λ_=>⟨Q,dk,wy⟩⟩):=x
def Ep(x:p:=by exact λ_=>.inl ⟨Vu,λ_=>⟨Q,kF,tv⟩⟩):=x
def alr(x:p:=by exact jX (⟨Q,EX e⟩:_/\_)):=x
def aiA(x:p:=by exact jX (⟨Q,uh d⟩:_/\_)):=x
def aom(x:p:=by exact jX (⟨Q,uh e⟩:_/\_)):=x
def amg(x:p:=by exact ic 0 1<|mD h [1,2,4] (λa _=>UU 6 a) [] (λ_ _=>[]) [4] W H6 W aa I Ct (λa _ _ _ b c _ h=>sT<|sV c<|.inl<|nV b<|bu h λh=>nV b<|C4) λ_ h=>O):=x
def amh(x:p:=by exact λh=>bi h (λh=>oj h▸⟨Q,vE,Bh⟩) λh=>bj h (λh=>cH h [(1,1)] sf M Q B Q ⟨Q,tv⟩ tv λ_ h=>oj h▸⟨Q,vE,Bh⟩) λh=>oj h▸⟨Q,vE,Bh⟩):=x
def CS(x:p:=by exact S h lS λ_ h=>O):=x
def amk(x:p:=by exact S h Gy λ_ h=>bi h (λh=>Dy) λh=>kS h λa h=>sT ⟨a.1,a.2.1,a.2.2,cY h Gz (cn (ls<|sc B) B) λ_ h=>bw h λh=>.inl ⟨nofun,λ_=>.inl O⟩⟩):=x
def ES(x:p:=by exact bu h λh=>.inl<|jA h):=x
def wE(x:p:=by exact bw h λh=>O):=x
def amo(x:p:=by exact λh=>dO ⟨E 0 15<|qt 15 1<|E 16 2 [],[],4⟩<|bi h (λh=>bi h (λh=>cG h [Oq,S1,(0,0)] xH M λ_ h=>O) λh=>O) λh=>⟨nofun,λ_=>O⟩):=x
def amp(x:p:=by exact λh=>.inl<|cH h [(1,1)] sf M Q dT Q ⟨Q,tv⟩ tv λ_ h=>bw h λh=>dO ⟨E 0 5<|qc 5 1<|E 6 1<|qt 7 1 [],[],7⟩<|tV<|.inl O):=x
def SG(x:p:=by exact .inr Q):=x
def amr(x:p:=by exact F 0<|mD h [1,2] (λa _=>UU 5 a) [] (λ_ _=>[]) [] W H6 W aa I Ct (λa _ _ _ b c _ h=>sT<|sV c<|.inl<|nV b<|ER) λ_ h=>O):=x
def EQ(x:p:=by exact R h λ_ a h=>⟨cS a,jA h⟩):=x
def EP(x:p:=by exact λh=>⟨λ_=>Dy,nofun⟩):=x
def amu(x:p:=by exact ft [yp 2 b,(4,bS j),Y6 10 2,Y6 11 4,(12,fN 224 [DX 4]),(27,mB a.bK),UW 28 (gd a.bK bT.aq),UW 29 (PY (c:Int))] Ip):=x
def Co(x:p:=by exact jd a Q):=x
def amy(x:p:=by exact cc (gv (1,3) (1,0) Q)<|cc (gv (1,4) (1,1) Q)<|cc (gv (1,6) (1,2) Q)<|cc (gv (1,7) (1,3) Q)<|cc (gv (1,8) (1,4) Q)<|QG):=x
def amz(x:p:=by exact kG h 10 [8] (λa=>[Qw 9 2 a]) [S1,Rr] (λa=>Vt 2 a) I (sq 8 Q) (λ_ _ _ _ a b _ h=>sT<|sV b<|.inl<|nV a<|Uk) λ_ h=>O):=x
def Dg(x:p:=by exact cn (ls<|ap B B) B):=x
def E6(x:p:=by exact bu h λh=>Uk):=x
def amE(x:p:=by exact λ_ _ _ _ a b _ h=>sT<|sV b<|.inl<|dO ⟨E 0 12<|qc 12 1<|E 13 2<|qt 15 1 [],[],5⟩<|nV a<|aR h λh=>tV<|jA h):=x
def Er(x:p:=by exact cV<|cn (.agg<|di<|gM B)<|DQ):=x
def T2(x:p:=by exact .inl O):=x
def EW(x:p:=by exact ba h λh=>ba h λh=>jA h):=x
def amI(x:p:=by exact dO ⟨E 1 5<|qc 0 1<|qt 6 1 [],[],0⟩<|kS h λa h=>⟨a.1,a.2.1,a.2.2,cU (Tn Q) B<|tV<|S h Pg λ_ h=>wE⟩):=x
def EV(x:p:=by exact hP<|.agg<|di<|gM B):=x
def amK(x:p:=by exact .inl<|bj h (λh=>cG h o1 pE M λ_ h=>O) λh=>bj h (λh=>cG h o1 pF M λ_ h=>O) λh=>cG h o1 pK M λ_ h=>O):=x
def aor(x:p:=by exact oj h▸⟨SG,_,_,QG,dk,.refl _⟩):=x
def Df(x:p:=by exact co<|tD<|fm B):=x
def EU(x:p:=by exact λh=>bI h λh=>sT zB):=x
def I6(x:p:=by exact λh=>bI h λh=>S h lS λ_ h=>zB):=x
def C1(x:p:=by exact cV<|E9):=x
def OG(x:p:=by exact λh=>bI h λh=>bj h (λh=>sT<|D9) λh=>zB):=x
def ET(x:p:=by exact bu h λh=>nV a<|Uk):=x
def Et(x:p:=by exact cG h o1 fU M λ_ h=>kv):=x
def Dh(x:p:=by exact cU (lH Q) B O):=x
def Es(x:p:=by exact cY h Tv dT λ_ h=>zB):=x
def aa3(x:p:=by exact λ_=>.inr ⟨Q,Q⟩):=x
def am6(x:p:=by exact λ_ _ h=>dO ⟨E 0 20 [],[],3⟩<|sT<|bi h (λh=>nM h λ_ h=>nV a<|ES) λh=>Dz):=x
def am7(x:p:=by exact bj h (λh=>.inl ⟨λ_=>zB,nofun⟩) λh=>bj h (λh=>zB) λh=>oj h▸⟨Q,tv,mC⟩):=x
def E8(x:p:=by exact vm Q Q<|vl B):=x
def am9(x:p:=by exact λh=>dO ⟨E 0 5<|qc 5 1<|E 6 1<|qt 7 1 [],[],7⟩<|tV<|cG h o1 aaL M λ_ h=>O):=x
def aog(x:p:=by exact Dt a Q):=x
def Fr(x:p:=by exact λb=>⟨SG,tV<|ajS h<|a b⟩):=x
def ane(x:p:=by exact cV<|cn (.agg<|di<|cn (ls B)<|fm<|cn (ls<|cn Dj<|cn EV<|cn Dj B) B) B):=x
def NE(x:p:=by exact λ_=>.inl ⟨Vu,λ_=>⟨Q,yI,tv⟩⟩):=x
def ang(x:p:=by exact dO ⟨E 0 3<|qc 3 1<|E 4 1<|qt 5 1 [],[],6⟩<|tV<|.inl ⟨nofun,λ_=>T2⟩):=x
def wC(x:p:=by exact cV<|dT):=x
def E5(x:p:=by exact cn (ls<|sc B) B):=x
def CR(x:p:=by exact oj h▸qB):=x
def jy(x:p:=by exact tV<|CT):=x
def D8(x:p:=by exact λh=>Dy):=x
def Fq(x:p:=by exact λh=>bJ h λh=>sT<|sT zB):=x
def ann(x:p:=by exact cn (.agg<|cV<|cn (ls B)<|cV<|fm B)<|cn (.agg<|cV<|cn (ls B)<|Wg<|gM B) B):=x
def aol(x:p:=by exact zX (Q:xM b.x.ai (DY c a d)=some _)):=x
def NA(x:p:=by exact bi h (λh=>nM h λ_ h=>ES) λh=>Dz):=x
def anq(x:p:=by exact fm<|cn (ls<|cn (.agg<|cV<|cn (ls<|Di)<|cn (ls B)<|fm<|di<|gM B) B) B):=x
def EO(x:p:=by exact so (1,2) 1 Q Q):=x
def ans(x:p:=by exact dO ⟨E 0 12<|qt 12 1 [],[],1⟩<|cJ h o1 wY M (kq<|Ec) λ_ h=>kv):=x
def aoa(x:p:=by exact iN f):=x
def EM(x:p:=by exact vc Eg<|EA):=x
def N4(x:p:=by exact λh=>bJ h λh=>S h amq λ_ h=>zB):=x
def anw(x:p:=by exact λ⟨_,_⟩=>.inl ⟨Vu,λ_=>⟨Q,(uF ⟨Df,ku⟩),jU⟩⟩):=x
def EL(x:p:=by exact nM h λ_ h=>O):=x
def Lh(x:p:=by exact λh=>.inl ⟨λ_=>EC,nofun⟩):=x
def anA(x:p:=by exact λ_ _ _ _ a b _ h=>.inl ⟨λ_=>.inl<|nV a<|sT<|C6,ZC⟩):=x
def anB(x:p:=by exact λh _=>bu h λh=>cJ h o1 (λh=>anv _ h) M wC λ_ h=>jA h):=x
def anC(x:p:=by exact cn (.agg<|ja<|cn (ls<|ap (ap (rm aD.aq ([]:U aD)) B) B) B) B):=x
def De(x:p:=by exact cV<|fm B):=x
def ajF(x:p:=by exact Dw (Du e) Q):=x
def aoj(x:p:=by exact rm G.str [Gl,H7,Ef,mh,QK,V3,QL]):=x
def anG(x:p:=by exact λh a=>bu h λh=>cJ h o1 aiE M wC λ_ h=>bu h λh=>C5):=x
def anH(x:p:=by exact dO ⟨E 0 8<|qt 8 1<|E 9 1<|qt 10 1 [],[],10⟩<|nV e<|CT):=x
def afw(x:p:=by exact bf Co (bf Co aof)):=x
def DM(x:p:=by exact sq 10 Q):=x
def NG(x:p:=by exact uF ⟨Df,co<|di<|gM B,tv⟩):=x
def aiY(x:p:=by exact Ap (G.int .i64) _ _ 4):=x
def anM(x:p:=by exact λ_ _ _ _ a b _ h=>.inl ⟨λ_=>.inl<|nV a<|CT,ZC⟩):=x
def anO(x:p:=by exact cn (ls<|ap (ap (ap (rm V.aq ([]:U V))<|sc B) B)<|sc B) B):=x
def Fz(x:p:=by exact an3<|.agg<|ja<|ee B):=x
def pk(x:p:=by exact ahM Q):=x
def aoi(x:p:=by exact uK Q):=x
def Fx(x:p:=by exact λh=>bJ h λh=>OL):=x
def Fw(x:p:=by exact oj h▸⟨Q,kF,wy⟩):=x
def Fu(x:p:=by exact oj h▸⟨Q,uk,Av⟩):=x
def anZ(x:p:=by exact oj h▸⟨SG,_,_,(cc (EY 6 Q Q Q)<|QG),dk,.refl _⟩):=x
def an0(x:p:=by exact Bk (Q:zQ (Ro d.ar [HF e]) (Ro d.bV [HF b])=some _)):=x
def an1(x:p:=by exact .inl ⟨Vu,λ_=>⟨Q,Sf,.refl _,.refl _,tv⟩⟩):=x
def an2(x:p:=by exact .inl ⟨Vu,λ_=>⟨Q,uk,.refl _,.refl _,tv⟩⟩):=x
def aos(x:p:=by exact bf Co (bf Co h)):=x
def an5(x:p:=by exact vc (va<|vc E8<|vc (vm Q cD<|qY<|IC)<|vl B)<|EA):=x
def Eo(x:p:=by exact S h anL λ_ h=>O):=x
def an7(x:p:=by exact ls<|ap (ap (ap (rm az.aq ([]:U az))<|sc B) B)<|sc B):=x
def OF(x:p:=by exact lx h f λh=>oj h▸rX dk zS):=x
def an9(x:p:=by exact F 3<|dO ⟨E 0 15 [],[],4⟩<|bi h (λh=>O) λh=>O):=x
def Zn(x:p:=by exact cG h o1 fU M λ_ h=>nV b<|cG h o1 Pj M λ_ h=>jA h):=x
def Ew(x:p:=by exact R h λ_ a h=>⟨cS a,R h λ_ a h=>⟨cS a,O⟩⟩):=x
def zt(x:p:=by exact kS h λa h=>⟨a.1,a.2.1,a.2.2,oj h▸rX tv zS⟩):=x
def ze(x:p:=by exact rz e):=x
def EK(x:p:=by exact λh _=>E6):=x
def OE(x:p:=by exact ⟨.refl _,.refl _,.refl _,.refl _,.refl _,tv⟩):=x
def Cm(x:p:=by exact vp zA):=x
def L9(x:p:=by exact .inl ⟨λ_=>C4,nofun⟩):=x
def aon(x:p:=by exact sT<|cG h o4 jc M λ_ h=>⟨⟨Q,Q,tv⟩,EL⟩):=x
def Zm(x:p:=by exact dT):=x
def aoq(x:p:=by exact uJ (Q:tH c a d=some _)):=x
def Fp(x:p:=by exact bn h λh=>bn h no):=x
def Ds(x:p:=by exact oj h▸rW):=x
end
def fF(a:U Z):T (U Z):=(ck (([]:U Z).length+a.length) 16).b λ_=>some a
def mi{d r}(h:fF d=K r):kj 85 [bS d] [] (AI 0 r) ([]++Vt 0 r):=lR eS Tryz.func85 Q (by decide+kernel) Q Q λ_ a=>.inl ⟨λb=>R h λ_ _ h=>match h with|rfl=>⟨.inr Q,_,_,cc (Nf 2 1 0 Q Q Q)<|dr _ _ _ _,⟨vy G.str<|a b,tv⟩,vz G.str<|a b⟩,λ_=>R h λ_ a h=>.inl ⟨iI a (by simp),.inl<|F 0<|match h with|rfl=>⟨.inr Q,_,_,dr _ _ _ _,⟨lo<|ap (rm G.str []) B,tv⟩,lt<|ap (rm G.str []) B⟩⟩⟩
def qm(a:U Z):T (U Z):=(ck (([]:U Z).length+a.length) 16).b λ_=>some (([]:U Z)++a)
def zJ{d r}(h:qm d=K r):Zl 85 [bS d] r:=dB.enter eS Tryz.func85 Q (by decide+kernel) Q Q λ_ a=>.inl ⟨Fr,λ_=>R h λ_ a h=>.inl ⟨fo,.inl<|F 0<|match h with|rfl=>⟨SG,tV<|ls<|ap (rm G.str []) B⟩⟩⟩
def abA a:=some (HF a)
def wA{a r}(h:abA a=K r):Gh 117 (nW a) r:=en f117<|F 0 O
def abB a:=some (!bg a a)
def Wm{a r}(h:abB a=K r):ZB 417 a (.bool r):=en f417<|O
def KN a b:=n8 (!bg a a) (!!bg b b) λd=>l5 d (An a b) λe=>some e
def Sg{a b r}(h:KN a b=K r):Ad 367 [.str a,.str b] (.bool r):=en f367<|cU (Wm Q) B<|jz h 4 CF 11 I (λh=>bJ h λh=>cU (Wm Q) B zB) λ_ h=>jz h 4 [] 16 I E1 λ_ h=>O
def abC a:=some (!bg a a)
def Wn{a r}(h:abC a=K r):ZB 399 a (.bool r):=en f399<|O
def Wo e i:=y6 (λ(a,d)=>HM (a<d) (zF (yY 0 1) e (w6 ((IntKind.u64.wrap (nJ a d)).fdiv (2 ^ min (1:Int).toNat IntKind.u64.bits))) λo=>(KN o i).b λp=>CL p (T3 (w6 ((IntKind.u64.wrap (nJ a d)).fdiv (2 ^ min (1:Int).toNat IntKind.u64.bits))),d) (a,w6 ((IntKind.u64.wrap (nJ a d)).fdiv (2 ^ min (1:Int).toNat IntKind.u64.bits)))) a) (0,gL e) λf=>(iM (f<gL e) (eE e f λm=>be (bg m i) true (eE e f λk=>be (!bg k k) (!bg i i) cI)) cI).bind λl=>Vm f l
def abD{a b r}(h:Wo a b=K r):Ad 330 [bS a,.str b] (.bZ [H r.1,.bool r.2]):=en f330<|sT<|lp h [0,1,6] (λa=>[(7,H a.1),(8,H a.2)]) [] W [0,1,6] (zi 7) [] W I I qA (λ_⟨_,_⟩h=>bu h λh=>.inl<|kT h λh=>nM h λ_ h=>S h Sg λ_ h=>ba h λh=>jA h) λ_ h=>jz h 18 [31] 53 I (λh=>bJ h λh=>nM h λ_ h=>bj h (λh=>zB) λh=>nM h λ_ h=>cU (Wn Q) B<|bj h (λh=>cU (Wn Q) B<|oj h▸⟨Q,tv,jU⟩) λh=>oj h▸⟨Q,tv,jU⟩) λ_ h=>O
def Iq(a:Z):T At:=(Wo RQ a).b λd=>some d.2
def Wp{a r}(h:Iq a=K r):ZB 222 a (.bool r):=en f222<|⟨_,aad,Q,aaa,S h abD λ_ h=>O⟩
def Bj(b:U Z)(d:Z):T Int:=(bo (λ(a:Nat)(e:Z)=>λ_=>Y (bg d e) (ir (.inr (a:Int))) (il ())) (λ_=>()) 0 b ()).j λ_=>some (-1)
def Wq{e f r}(h:Bj e f=K r):H3 88 [bS e,.str f] r:=en f88<|sT<|Bi h 8 [0,1,7] W [] W I qA GD (λa _ _ _ b c _ h=>.inl ⟨λ_=>.inl<|nV b<|ER,M4⟩) (λ_=>.inl ⟨Vu,λ_=>⟨Q,tv,wy⟩⟩) λ_ h=>O
def lj(a:U Z)(d:Z):T At:=(Bj a d).b λe=>some (decide (e>=0))
def lS{a b r}(h:lj a b=K r):Ad 80 [bS a,.str b] (.bool r):=en f80<|S h Wq λ_ h=>O
def po(a:Z)(e:U Z):T At:=(lj e a).b λf=>(Y f (some true) ((Iq a).b λi=>some i)).bind λd=>some d
def aln{a b r}(h:po a b=K r):HD 221 [.str a,l4] [bS b] (.bool r):=en f221<|S h lS λ_ h=>jz h 3 [] 10 I (λh=>bI h λh=>S h Wp λ_ h=>zB) λ_ h=>O
def Wr a:=iM (a<10) (Y4 (0<=a/\a<=T3 a/\yY (T3 a) Wd.size) (Wd.extract a.toNat (T3 a).toNat)) (Y4 (0<=w6 (a * 2)/\w6 (a * 2)<=nJ (w6 (a * 2)) 2/\yY (nJ (w6 (a * 2)) 2) anI.size) (anI.extract (w6 (a * 2)).toNat (nJ (w6 (a * 2)) 2).toNat))
def abE{d r}(h:Wr d=K r):CB 440 [H d] r:=en f440<|bj h (λh=>zt) λh=>zt
def Wt(a:Int)(e:Int):T Z:=Y (e==10) (n8 (CP 0 a) (vO a 100) λd=>Y d (jg (Wr a)) none) none
def abF{a b r}(h:Wt a b=K r):CB 400 [H a,H b] r:=en f400<|bj h (λh=>jz h 3 [0] 17 I E1 λ_ h=>bj h (λh=>S h abE λ_ h=>O) no) no
def Wu a:=jg (Wt a 10)
def abG{a r}(h:Wu a=K r):CB 331 [H a] r:=en f331<|S h abF λ_ h=>O
def KO(a:Int):T Z:=(Wu a).b λd=>some d
def abH{a r}(h:KO a=K r):CB 223 [H a] r:=en f223<|S h abG λ_ h=>O
def mM(a:Z)(f:U Z):T Z:=(po a f).b λi=>Y (!i) (some a) ((aV (λ(e:Int)=>((KO e).b λd=>(aU (0<=(0:Int)/\0<=(if(w6 (16-(d.size:Int)))<(a.size:Int)then(w6 (16-(d.size:Int)))else(a.size:Int))/\(if(w6 (16-(d.size:Int)))<(a.size:Int)then(w6 (16-(d.size:Int)))else(a.size:Int))<=(a.size:Int))).b λl=>(ed ((a.extract (0:Int).toNat (if(w6 (16-(d.size:Int)))<(a.size:Int)then(w6 (16-(d.size:Int)))else(a.size:Int)).toNat).size+d.size)).b λm=>(po ((a.extract (0:Int).toNat (if(w6 (16-(d.size:Int)))<(a.size:Int)then(w6 (16-(d.size:Int)))else(a.size:Int)).toNat)++d) f).b λk=>Y (!k) (ir (.inr ((a.extract (0:Int).toNat (if(w6 (16-(d.size:Int)))<(a.size:Int)then(w6 (16-(d.size:Int)))else(a.size:Int)).toNat)++d))) (il (w6 (e+1))))) 1000000 1).j Empty.elim)
def zK{b d r}(h:mM b d=K r):CB 118 [.str b,bS d] r:=en f118<|F 0<|cG h H6 aln M λ_ h=>bw h λh=>R h λ_ a h=>.inr<|AC eS (λ(a:Int)=>[yp 0 b,(5,fN 221 [DX 0]),UW 6 a]) (λ(_:Int)=>[Nw 0 [bS d]]) (λ(_:Empty)=>[]) (λ(_:Empty)=>[]) a ⟨Q,dk,wy⟩ (have e:=h;λ_ _ h=>.inl<|S h abH λ_ h=>kS h λa h=>⟨a.1,a.2.1,a.2.2,R h λ_ a h=>⟨cS a,cG h H6 aln M λ_ h=>bj h (λh=>lx h e λh=>oj h▸rX tv zS) λh=>⟨_,oi h,Q,dk,wy⟩⟩⟩) λa _=>a.elim
def wF(a:Int):T (U Z):=Y4 (0<=a/\a * 16<=140737488355328) []
def av7{a r}(h:wF a=K r):kj 300 [.sl 0 .fu [],H a] [] (AI 0 r) ([]++Vt 0 r):=kS h λb h=>match h with|rfl=>avO a b.1 b.2
def pp(i:U (U Z)):T (U Z):=(fI (λ(t:Nat)(l:U Z)=>λe=>cN (decide (w6 (e+gL l)<0)) (il (w6 (e+gL l)))) i 0).j λm=>(wF m).b λk=>(fI (λ(o:Nat)(d:U Z)=>λa=>(ck (a.length+d.length) 16).b λp=>il (a++d)) i k).j λf=>some f
def zP{j r}(h:pp j=K r):Zl 173 [.sl 1 .no (j.map λ(x:U Z)=>G.sl 1 .no (FP x))] r:=en f173<|sT<|Bi h 11 [0,9,10] (zi 3) [] W I qA GD anA (λ_=>.inl ⟨Vu,λ_=>⟨Q,tv,In⟩⟩) λ_ h=>R h λ_ a h=>(bE [] 0 (av7 a) Q) B Q Q tv tv<|sT<|Bi h 27 [25,26] (λa=>[Qw 6 0 a]) [] (λa=>Vt 0 a) I qA (sq 25 Q) anM Ex λ_ h=>O
def wG(i:aB)(k:U Z):T (U Z):=(aV (λ(a,d)=>Y (decide (d<Ks i.bK)) ((pp [k,a]).b λl=>(mM mh l).b λe=>(ck (a.length+([e]:U Z).length) 16).b λm=>il (a++[e],w6 (d+1))) (ir (.inl a))) 1000000 ([],0)).j λf=>some f
def Sl{a b r}(h:wG a b=K r):Zl 119 [aB.X a,bS b] r:=alF
def Iv a b:=some (bL 4 a [b])
def KU{a b r}(h:Iv a b=K r):Gh 120 [.str a,J.X b] r:=en f120<|ic 0 1<|T2
def kU(e:Z)(f:J)(i:Int)(j:Z)(k:Int)(l:Z)(d:U Z)(m:U Z)(a:U J)(o:Int)(p:Int):=uu (d.length+(n9 e).length) (aU (0<(a.map J.aq).length)) λu=>A7 (a.length+(RD eK).length) 136 (aU (0<=gn a/\gn a<((a.map J.aq).length+((RD eK).map J.aq).length:Int))) λw=>Y4 (((a++[f]).map J.aq).length=(a.map J.aq).length+((RD eK).map J.aq).length) (d++[e],a++[f])
def pq{v u b d e f i j a k l r}(h:kU v u b d e f i j a k l=K r):Jh 224 [.str v,J.X u,l4] [v9 [H b,.str d,H e,.str f,cE 0 1 i,bS j,.ms (0,2) 9 (RP a),H k,H l],cL 0 1 i,Zw 0 2 a] (.bZ []) ([v9 [H b,.str d,H e,.str f,cE 0 1 r.1,bS j,.ms Rr 9 (RP r.2),H k,H l],cL 0 1 r.1,Zw 0 2 Ek]++[Zw 1 0 r.2]):=agd eS 7 9 Tryz.func224 Q (by decide+kernel) Q Q<|F 3<|.inl<|aR h λh=>⟨by decide+kernel,dO ⟨E 0 5<|qt 5 1<|E 6 1<|E 8 1<|qc 7 1<|qt 9 1 [],[],4⟩<|kS h λb h=>R h λ_ c h=>⟨Q,(Jq b),iI c (by simp),F 4 ⟨(RP a+RP (RD eK)),Q,kS h λb h=>⟨b.1,b.2,((vS a).toNat * 9),Q,((DE a).length:Int).toNat,0,_,Q,Qb,Q,(DE (a++[u])),(Qa<|hP zA),tV<|kS h λa h=>oj h▸⟨.inl Q,_,_,(cc (ft [] tv)<|cc (gv (1,4) (1,0) Q)<|dr _ _ _ _),⟨co<|di<|cn (lt<|ap B B)<|cV<|cn (od a) B,lo<|ap B B,kF⟩,.refl _⟩⟩⟩⟩,dO ⟨E 0 5<|qt 5 1<|E 6 1<|E 8 1<|qc 9 1 ((7,.tp)::[]),[],4⟩<|kS h λb h=>R h λ_ c h=>⟨Q,(Jq b),iI c (by simp),F 4 ⟨(RP a+RP (RD eK)),Q,kS h λb h=>⟨b.1,b.2,((vS a).toNat * 9),Q,tV ⟨((DE a).length:Int).toNat,0,_,Q,Qb,Q,(DE (a++[u])),(Qa<|hP zA),tV<|kS h λa h=>oj h▸⟨.inl Q,_,_,(cc (ft [] tv)<|cc (gv (1,4) (1,0) Q)<|dr _ _ _ _),⟨co<|di<|cn (lt<|ap B B)<|cV<|cn (od a) B,lo<|ap B B,kF⟩,.refl _⟩⟩⟩⟩⟩⟩
def abI a b:=Fe b [HF a]
def lH{a b r}(h:abI a b=K r):Gh 75 [.str a,.str b] r:=en f75<|F 0<|cU (wA Q) B<|T2
def zQ a b:=some (CM [a,b])
def Bk{a b r}(h:zQ a b=K r):Gh 178 [J.X a,J.X b] r:=en f178<|iZ 0 1 2<|T2
def Iw(m:aB)(o:J)(p:Z)(a9:At)(d:U Z):=Y a9 ((kU p (HF m.bV) 10 bk 0 bk [] [] [o] 0 0).b λa4=>(aU (((RD o).map J.aq).length=1)).b λb0=>mY (λ(a1:Nat)(t:bT)=>λ(a7,a8)=>LQ d (a1:Int) (λa2=>kU a2 (HF t.ai) 10 bk 0 bk a7 [] a8 0 0) λf=>eE d (a1:Int) λa3=>Xs (kU bk (CM [Ro t.ar [HF a3],Ro t.bV [HF p]]) 10 bk 0 bk f.1 [] f.2 0 0) λi=>(i.1,i.2)) m.bK (a4.1,a4.2) λ(w,x)=>ah4 10 w x) (mY (λ(e:Nat)(a:bT)=>λ(u,v)=>LQ d (e:Int) (λa5=>kU a5 (HF a.ai) 10 bk 0 bk u [] v 0 0) λk=>eE d (e:Int) λa6=>Xs (kU bk (CM [Ro a.ar [HF a6],Ro a.bV [HF p]]) 10 bk 0 bk k.1 [] k.2 0 0) λl=>(l.1,l.2)) m.bK ([],[o]) λ(z,a0)=>ah4 10 z a0)
def Wx{a m b a9 j r}(h:Iw a m b a9 j=K r):Gh 121 [aB.X a,J.X m,.str b,.bool a9,bS j] r:=eN f121<|iZ 0 1 2<|.inr ⟨nofun,iZ 3 1 4<|bj h (λh=>cU (wA Q) B<|R h λ_ c h=>kS h λd h=>(RN (1,4) 4 1 5 Q Q Q Q<|(bE [T7,Vl,Rk] 6 (pq c) Q) (cV<|DQ) Q Q tv ⟨co<|tD<|fm<|cn (od d) B,(uj ⟨.bD (ys:=(DE (RD m)))<|cn (hP zA) B,tv⟩)⟩<|sT<|R h λ_ c h=>.inr<|A2 eS (λc(_:U Z×U J)=>[yp 2 b,(4,bS j),Y6 10 2,Y6 11 4,(12,fN 224 [DX 4]),(27,mB a.bK),UW 28 (gd a.bK bT.aq),Ht 29 c]) (λ_(a:U Z×U J)=>[Zw 1 6 a.2,FN 5 a.1,VH [H 10,kE,PU,kE,AI 5 a.1,Fg,.ms Uy 9 (RP a.2),PU,PU],RE 2 eK]) (λ(_:U Z×U J)=>[Y6 10 2,Y6 11 4]) (λ(a:U Z×U J)=>[Zw 1 6 a.2,FN 5 a.1,VH [H 10,kE,PU,kE,AI 5 a.1,Fg,.ms Uy 9 (RP a.2),PU,PU],RE 2 eK]) c ⟨Q,NG,Ip⟩ (sq 27 Q) (have b4:=h;λc d⟨_,_⟩_ e f g h=>.inl ⟨λ_=>.inl<|nV e<|F 7<|dO ⟨E 0 7<|qc 7 1<|qt 8 1 [],[],8⟩<|nM h λ_ h=>cU (wA Q) B<|tV<|R h λ_ e h=>(bE [T7,Vl,Uy] 8 (pq e) Q) (cV<|DQ) Q Q tv ⟨Df,kF⟩<|dO ⟨E 0 7<|E 8 3<|qc 7 1<|qc 11 2<|qt 13 1 [],[],9⟩<|nM h λe h=>cU (lH Q) B<|tV<|cU (lH Q) B<|tV<|cU (Bk (Q:zQ (Ro d.ar [HF e]) (Ro d.bV [HF b])=some _)) Di<|tV<|R h λe f h=>(bE [T7,Vl,vT 8] 9 (pq f) Q) (cV<|Cr) Q Q tv ⟨Df,kF⟩ ⟨_,oi h,⟨_,_,cc (ft [yp 2 b,(4,bS j),Y6 10 2,Y6 11 4,(12,fN 224 [DX 4]),(27,mB a.bK),UW 28 (gd a.bK bT.aq),UW 29 (PY (c:Int))] Ip)<|cc (ll [Zw 1 9 e.2,Zw 1 8 Ek,Nw 7 (bT.C d),Zw 1 6 Ek,FN 5 e.1,VH [H 10,kE,PU,kE,AI 5 e.1,Fg,.ms (vT 9) 9 (RP e.2),PU,PU],RE 2 eK] Q)<|gv (1,9) (1,6) Q,Q,NG,(O5 ⟨wi g,tv⟩)⟩⟩,λa=>eA f a⟩) (λ⟨_,_⟩=>.inl ⟨Vu,λ_=>⟨Q,NG,jU⟩⟩) λ⟨_,_⟩a=>have h:=jL a h;oj h▸⟨SG,_,_,(cc (er (1,2) 6 Q Q Q Q)<|dr _ _ _ _),tV<|.agg<|di<|cn (ls B)<|fm B⟩)) λh=>sT<|R h λ_ c h=>.inr<|ga (1,4) 4 1 5 Q Q Q Q<|A2 eS (λc(_:U Z×U J)=>[yp 2 b,(4,bS j),Y6 10 2,Y6 11 4,(12,fN 224 [DX 4]),(27,mB a.bK),UW 28 (gd a.bK bT.aq),Ht 29 c]) (λ_(a:U Z×U J)=>[FN 5 a.1,VH [H 10,kE,PU,kE,AI 5 a.1,Fg,.ms Rk 9 (RP a.2),PU,PU],Zw 1 3 a.2,RE 2 eK]) (λ(_:U Z×U J)=>[Y6 10 2,Y6 11 4]) (λ(a:U Z×U J)=>[FN 5 a.1,VH [H 10,kE,PU,kE,AI 5 a.1,Fg,.ms Rk 9 (RP a.2),PU,PU],Zw 1 3 a.2,RE 2 eK]) c ⟨Q,(uj ⟨Df,.bD (ys:=(DE (RD m)))<|cn (hP zA) B,co<|di<|gM B,tv⟩),Ip⟩ (sq 27 Q) (have b5:=h;λc d⟨_,_⟩_ e f g h=>.inl ⟨λ_=>.inl<|nV e<|F 6<|dO ⟨E 0 7<|qc 7 1<|qt 8 1 [],[],7⟩<|nM h λ_ h=>cU (wA Q) B<|tV<|R h λ_ e h=>(bE [T7,Vl,Rk] 7 (pq e) Q) (cV<|DQ) Q Q tv ⟨Df,kF⟩<|dO ⟨E 0 7<|E 8 3<|qc 7 1<|qc 11 2<|qt 13 1 [],[],8⟩<|nM h λe h=>cU (lH Q) B<|tV<|cU (lH Q) B<|tV<|cU (Bk (Q:zQ (Ro d.ar [HF e]) (Ro d.bV [HF b])=some _)) Di<|tV<|R h λe f h=>(bE [T7,Vl,Zd] 8 (pq f) Q) (cV<|Cr) Q Q tv ⟨Df,kF⟩ ⟨_,oi h,⟨_,_,cc (ft [yp 2 b,(4,bS j),Y6 10 2,Y6 11 4,(12,fN 224 [DX 4]),(27,mB a.bK),UW 28 (gd a.bK bT.aq),UW 29 (PY (c:Int))] Ip)<|cc (ll [Zw 1 8 e.2,Zw 1 7 Ek,Nw 6 (bT.C d),FN 5 e.1,VH [H 10,kE,PU,kE,AI 5 e.1,Fg,.ms (vT 8) 9 (RP e.2),PU,PU],Zw 1 3 Ek,RE 2 eK] Q)<|gv (1,8) (1,3) Q,Q,(uj ⟨Df,(uj ⟨co<|di<|gM B,tv⟩)⟩),(O5 ⟨wi g,tv⟩)⟩⟩,λa=>eA f a⟩) (λ⟨_,_⟩=>.inl ⟨Vu,λ_=>⟨Q,(uj ⟨Df,(uj ⟨co<|di<|gM B,tv⟩)⟩),jU⟩⟩) λ⟨_,_⟩a=>have h:=jL a h;oj h▸⟨SG,_,_,(cc (er (1,2) 6 Q Q Q Q)<|dr _ _ _ _),tV<|.agg<|di<|cn (ls B)<|fm B⟩⟩
def Wy(a:Z)(d:U Z)(b:Z):=Fe b [HF a]
def abJ{a b d r}(h:Wy a b d=K r):Gh 167 [.str a,bS b,.str d] r:=en f167<|F 0<|Dh
def rC(f:Z)(a:V)(b:Z)(d:At)(e:U bT)(i:Z)(j:U Z):T J:=some (bL 8 f [cw 3 i])
def av6{f a b d e i j r}(h:rC f a b d e i j=K r):Ru 226 [.str f,l4,Rv,VO] [v9 (a.T [.str b,.bool d,mB e,wm 167]),Cz 1 i,tu 2 [bS j]] r:=en f226<|F 3<|cU (abJ (Q:Wy i j f=some _)) B O
def wH(v:V)(a:V)(d:Z)(e:At)(f:U bT)(k:Z)(l:U Z):T J:=(fI (λ(z:Nat)(m:af)=>λ(o,p)=>(ck (o.length+([m.name]:U Z).length) 16).b λw=>(rC m.name a d e f k l).b λi=>(ck (p.length+([i]:U J).length) 136).b λx=>il (o++[m.name],p++[i])) v.ae ([],[])).j λ(t,u)=>some (ip 6 t u)
def awo{m a b d e f i r}(h:wH m a b d e f i=K r):Ru 225 [V.X m,fN 226 [l4,Rv,VO]] [v9 (a.T [.str b,.bool d,mB e,wm 167]),Cz 1 f,tu 2 [bS i]] r:=en f225<|iZ 3 4 5<|sT<|.inr<|ga (1,5) 4 1 6 Q Q Q Q<|ga (1,5) 6 9 7 Q Q Q Q<|li h [4,5,10,11] (λa _=>[FH 226 [l4,Rv,VO],Ht 12 a]) Us (λ_ c=>[VM 7 c.2,FN 6 c.1,Nw 5 [H 6,kE,PU,kE,AI 6 c.1,Fg,VN 7 c.2,PU,PU],v9 (a.T [.str b,.bool d,mB e,wm 167])]) [4,5] W Us (λc=>[VM 7 c.2,FN 6 c.1,Nw 5 [H 6,kE,PU,kE,AI 6 c.1,Fg,VN 7 c.2,PU,PU],v9 (a.T [.str b,.bool d,mB e,wm 167])]) aa I qA DM (λ_ _ _⟨_,_⟩a b _ h=>.inl ⟨λ_=>.inl<|nV a<|F 8<|.inl<|aR h λh=>dO ⟨E 0 5<|qc 5 1<|E 6 1<|qt 7 1<|E 8 1<|qt 9 1 [],[],9⟩<|cG h o3 av6 M λ_ h=>jy,ZC⟩) Eu λ⟨_,_⟩h=>O
def wI(a:V)(d:Z)(e:At)(f:U bT)(i:Z)(j:U Z):T J:=(wH a a d e f i j).b λk=>some k
def awn{a b d e f i r}(h:wI a b d e f i=K r):Gh 122 [.agg (a.T [.str b,.bool d,mB e,wm 167]),.str f,bS i] r:=en f122<|iZ 0 1 2<|F 3<|cG h [Rr,S1,Oq] awo M λ_ h=>O
def wJ(e:Z)(f:U Z)(b:Z)(a:ax):T J:=(Y (bg b a.x.ar) (il a.x.name) (il b)).j λd=>some (bL 8 d [cw 3 e])
def awm{b d e a r}(h:wJ b d e a=K r):Gh 74 [.str b,bS d,.str e,.aS [.aS (ax.C a .any) 0] 0] r:=en f74<|F 0<|jn h ND (λa=>[yp 2 a]) [] W I UR λ_ h=>Dh
def rD(j:Z)(d:V)(e:Z)(f:At)(i:U bT)(a:ax)(k:Z)(l:U Z):T J:=(wJ k l j a).b λm=>some m
def av3{i b d e f a j k r}(h:rD i b d e f a j k=K r):Ru 226 [.str i,l4,Rv,VO] [v9 (b.T [.str d,.bool e,mB f,fN 74 [.aS [.aS (ax.C a .any) 0] 0]]),Cz 1 j,tu 2 [bS k]] r:=en f226<|F 3<|S h awm λ_ h=>O
def wK(w:V)(d:V)(e:Z)(f:At)(i:U bT)(a:ax)(l:Z)(m:U Z):T J:=(fI (λ(a0:Nat)(o:af)=>λ(p,t)=>(ck (p.length+([o.name]:U Z).length) 16).b λx=>(rD o.name d e f i a l m).b λk=>(ck (t.length+([k]:U J).length) 136).b λz=>il (p++[o.name],t++[k])) w.ae ([],[])).j λ(u,v)=>some (ip 6 u v)
def av2{o b d e f a i j r}(h:wK o b d e f a i j=K r):Ru 225 [V.X o,fN 226 [l4,Rv,VO]] [v9 (b.T [.str d,.bool e,mB f,fN 74 [.aS [.aS (ax.C a .any) 0] 0]]),Cz 1 i,tu 2 [bS j]] r:=en f225<|iZ 3 4 5<|sT<|.inr<|ga (1,5) 4 1 6 Q Q Q Q<|ga (1,5) 6 9 7 Q Q Q Q<|li h [4,5,10,11] (λa _=>[FH 226 [l4,Rv,VO],Ht 12 a]) Us (λ_ c=>[VM 7 c.2,FN 6 c.1,Nw 5 [H 6,kE,PU,kE,AI 6 c.1,Fg,VN 7 c.2,PU,PU],v9 (b.T [.str d,.bool e,mB f,fN 74 [.aS [.aS (ax.C a .any) 0] 0]])]) [4,5] W Us (λc=>[VM 7 c.2,FN 6 c.1,Nw 5 [H 6,kE,PU,kE,AI 6 c.1,Fg,VN 7 c.2,PU,PU],v9 (b.T [.str d,.bool e,mB f,fN 74 [.aS [.aS (ax.C a .any) 0] 0]])]) aa I qA DM (λ_ _ _⟨_,_⟩a b _ h=>.inl ⟨λ_=>.inl<|nV a<|F 8<|.inl<|aR h λh=>dO ⟨E 0 5<|qc 5 1<|E 6 1<|qt 7 1<|E 8 1<|qt 9 1 [],[],9⟩<|cG h o3 av3 M λ_ h=>jy,ZC⟩) Eu λ⟨_,_⟩h=>O
def wL(d:V)(e:Z)(f:At)(i:U bT)(a:ax)(j:Z)(k:U Z):T J:=(wK d d e f i a j k).b λl=>some l
def av5{b d e f a i j r}(h:wL b d e f a i j=K r):Gh 122 [.agg (b.T [.str d,.bool e,mB f,fN 74 [.aS [.aS (ax.C a .any) 0] 0]]),.str i,bS j] r:=en f122<|iZ 0 1 2<|F 3<|cG h [Rr,S1,Oq] av2 M λ_ h=>O
def wM(f:Z)(i:U Z)(d:Z)(a:ax):T J:=(lj a.x.ae d).b λk=>(Y k ((aA i 0).b λl=>il l) (il f)).j λe=>some (bL 8 d [cw 3 e])
def awd{b d e a r}(h:wM b d e a=K r):Gh 79 [.str b,bS d,.str e,.aS [.aS (ax.C a .any) 0] 0] r:=en f79<|F 0<|S h lS λ_ h=>jn h [2,7] (λa=>[yp 0 a]) [] W I (λh _=>bu h λh=>nM h λ_ h=>jA h) λ_ h=>Dh
def rE(j:Z)(d:V)(e:Z)(f:At)(i:U bT)(a:ax)(k:Z)(l:U Z):T J:=(wM k l j a).b λm=>some m
def awc{i b d e f a j k r}(h:rE i b d e f a j k=K r):Ru 226 [.str i,l4,Rv,VO] [v9 (b.T [.str d,.bool e,mB f,fN 79 [.aS [.aS (ax.C a .any) 0] 0]]),Cz 1 j,tu 2 [bS k]] r:=en f226<|F 3<|S h awd λ_ h=>O
def wN(w:V)(d:V)(e:Z)(f:At)(i:U bT)(a:ax)(l:Z)(m:U Z):T J:=(fI (λ(a0:Nat)(o:af)=>λ(p,t)=>(ck (p.length+([o.name]:U Z).length) 16).b λx=>(rE o.name d e f i a l m).b λk=>(ck (t.length+([k]:U J).length) 136).b λz=>il (p++[o.name],t++[k])) w.ae ([],[])).j λ(u,v)=>some (ip 6 u v)
def awb{o b d e f a i j r}(h:wN o b d e f a i j=K r):Ru 225 [V.X o,fN 226 [l4,Rv,VO]] [v9 (b.T [.str d,.bool e,mB f,fN 79 [.aS [.aS (ax.C a .any) 0] 0]]),Cz 1 i,tu 2 [bS j]] r:=en f225<|iZ 3 4 5<|sT<|.inr<|ga (1,5) 4 1 6 Q Q Q Q<|ga (1,5) 6 9 7 Q Q Q Q<|li h [4,5,10,11] (λa _=>[FH 226 [l4,Rv,VO],Ht 12 a]) Us (λ_ c=>[VM 7 c.2,FN 6 c.1,Nw 5 [H 6,kE,PU,kE,AI 6 c.1,Fg,VN 7 c.2,PU,PU],v9 (b.T [.str d,.bool e,mB f,fN 79 [.aS [.aS (ax.C a .any) 0] 0]])]) [4,5] W Us (λc=>[VM 7 c.2,FN 6 c.1,Nw 5 [H 6,kE,PU,kE,AI 6 c.1,Fg,VN 7 c.2,PU,PU],v9 (b.T [.str d,.bool e,mB f,fN 79 [.aS [.aS (ax.C a .any) 0] 0]])]) aa I qA DM (λ_ _ _⟨_,_⟩a b _ h=>.inl ⟨λ_=>.inl<|nV a<|F 8<|.inl<|aR h λh=>dO ⟨E 0 5<|qc 5 1<|E 6 1<|qt 7 1<|E 8 1<|qt 9 1 [],[],9⟩<|cG h o3 awc M λ_ h=>jy,ZC⟩) Eu λ⟨_,_⟩h=>O
def wO(d:V)(e:Z)(f:At)(i:U bT)(a:ax)(j:Z)(k:U Z):T J:=(wN d d e f i a j k).b λl=>some l
def awa{b d e f a i j r}(h:wO b d e f a i j=K r):Gh 122 [.agg (b.T [.str d,.bool e,mB f,fN 79 [.aS [.aS (ax.C a .any) 0] 0]]),.str i,bS j] r:=en f122<|iZ 0 1 2<|F 3<|cG h [Rr,S1,Oq] awb M λ_ h=>O
def wP(e:Z)(i:U Z)(d:Z)(a:ax):T J:=Y (!bg d a.x.ar) (some (bL 8 d [cw 3 e])) ((qm a.x.ae).b λf=>some (J.mk 13 bk 0 bk f [bk,bk] [bL 8 d [cw 3 e],cw 2 bk,U5 2] 0 0))
def awQ{b d e a r}(h:wP b d e a=K r):Gh 84 [.str b,bS d,.str e,.aS [.aS (ax.C a .any) 0] 0] r:=en f84<|F 0<|bj h (λh=>Dh) λh=>ic 1 2<|dO ⟨E 0 5<|E 6 3<|E 10 2<|qc 5 1<|qc 9 1<|E 12 2<|qt 14 1 [],[],3⟩<|S h zJ λ_ h=>tV<|cU (lH Q) B<|tV O
def rF(j:Z)(d:V)(e:Z)(f:At)(i:U bT)(a:ax)(k:Z)(l:U Z):T J:=(wP k l j a).b λm=>some m
def awP{i b d e f a j k r}(h:rF i b d e f a j k=K r):Ru 226 [.str i,l4,Rv,VO] [v9 (b.T [.str d,.bool e,mB f,fN 84 [.aS [.aS (ax.C a .any) 0] 0]]),Cz 1 j,tu 2 [bS k]] r:=en f226<|F 3<|S h awQ λ_ h=>O
def wQ(w:V)(d:V)(e:Z)(f:At)(i:U bT)(a:ax)(l:Z)(m:U Z):T J:=(fI (λ(a0:Nat)(o:af)=>λ(p,t)=>(ck (p.length+([o.name]:U Z).length) 16).b λx=>(rF o.name d e f i a l m).b λk=>(ck (t.length+([k]:U J).length) 136).b λz=>il (p++[o.name],t++[k])) w.ae ([],[])).j λ(u,v)=>some (ip 6 u v)
def awO{o b d e f a i j r}(h:wQ o b d e f a i j=K r):Ru 225 [V.X o,fN 226 [l4,Rv,VO]] [v9 (b.T [.str d,.bool e,mB f,fN 84 [.aS [.aS (ax.C a .any) 0] 0]]),Cz 1 i,tu 2 [bS j]] r:=en f225<|iZ 3 4 5<|sT<|.inr<|ga (1,5) 4 1 6 Q Q Q Q<|ga (1,5) 6 9 7 Q Q Q Q<|li h [4,5,10,11] (λa _=>[FH 226 [l4,Rv,VO],Ht 12 a]) Us (λ_ c=>[VM 7 c.2,FN 6 c.1,Nw 5 [H 6,kE,PU,kE,AI 6 c.1,Fg,VN 7 c.2,PU,PU],v9 (b.T [.str d,.bool e,mB f,fN 84 [.aS [.aS (ax.C a .any) 0] 0]])]) [4,5] W Us (λc=>[VM 7 c.2,FN 6 c.1,Nw 5 [H 6,kE,PU,kE,AI 6 c.1,Fg,VN 7 c.2,PU,PU],v9 (b.T [.str d,.bool e,mB f,fN 84 [.aS [.aS (ax.C a .any) 0] 0]])]) aa I qA DM (λ_ _ _⟨_,_⟩a b _ h=>.inl ⟨λ_=>.inl<|nV a<|F 8<|.inl<|aR h λh=>dO ⟨E 0 5<|qc 5 1<|E 6 1<|qt 7 1<|E 8 1<|qt 9 1 [],[],9⟩<|cG h o3 awP M λ_ h=>jy,ZC⟩) Eu λ⟨_,_⟩h=>O
def wR(d:V)(e:Z)(f:At)(i:U bT)(a:ax)(j:Z)(k:U Z):T J:=(wQ d d e f i a j k).b λl=>some l
def awN{b d e f a i j r}(h:wR b d e f a i j=K r):Gh 122 [.agg (b.T [.str d,.bool e,mB f,fN 84 [.aS [.aS (ax.C a .any) 0] 0]]),.str i,bS j] r:=en f122<|iZ 0 1 2<|F 3<|cG h [Rr,S1,Oq] awO M λ_ h=>O
def wS(e:Z)(f:U Z)(a:Z)(i:U Z)(j:Z):T J:=(Bj i a).b λd=>Y (decide (d>=0)) ((aA f d).b λk=>some (bL 8 j [cw 3 k])) (some (bL 8 a [cw 3 e]))
def awM{a b d e f r}(h:wS a b d e f=K r):Gh 87 [.str a,bS b,.str d,.aS [bS e] 0,.aS (nW f) 0] r:=en f87<|F 0<|S h Wq λ_ h=>bj h (λh=>dO ⟨E 0 5<|qt 5 2 [],[],1⟩<|nM h λ_ h=>Dh) λh=>Dh
def rG(k:Z)(e:V)(f:Z)(i:At)(j:U bT)(a:U Z)(d:Z)(l:Z)(m:U Z):T J:=(wS l m k a d).b λo=>some o
def awL{j d e f i a b k l r}(h:rG j d e f i a b k l=K r):Ru 226 [.str j,l4,Rv,VO] [v9 (d.T [.str e,.bool f,mB i,fN 87 [.aS [bS a] 0,.aS (nW b) 0]]),Cz 1 k,tu 2 [bS l]] r:=en f226<|F 3<|S h awM λ_ h=>O
def wT(x:V)(e:V)(f:Z)(i:At)(k:U bT)(a:U Z)(d:Z)(m:Z)(o:U Z):T J:=(fI (λ(a1:Nat)(p:af)=>λ(t,u)=>(ck (t.length+([p.name]:U Z).length) 16).b λz=>(rG p.name e f i k a d m o).b λl=>(ck (u.length+([l]:U J).length) 136).b λa0=>il (t++[p.name],u++[l])) x.ae ([],[])).j λ(v,w)=>some (ip 6 v w)
def awK{p d e f i a b j k r}(h:wT p d e f i a b j k=K r):Ru 225 [V.X p,fN 226 [l4,Rv,VO]] [v9 (d.T [.str e,.bool f,mB i,fN 87 [.aS [bS a] 0,.aS (nW b) 0]]),Cz 1 j,tu 2 [bS k]] r:=en f225<|iZ 3 4 5<|sT<|.inr<|ga (1,5) 4 1 6 Q Q Q Q<|ga (1,5) 6 9 7 Q Q Q Q<|li h [4,5,10,11] (λa _=>[FH 226 [l4,Rv,VO],Ht 12 a]) Us (λ_ c=>[VM 7 c.2,FN 6 c.1,Nw 5 [H 6,kE,PU,kE,AI 6 c.1,Fg,VN 7 c.2,PU,PU],v9 (d.T [.str e,.bool f,mB i,fN 87 [.aS [bS a] 0,.aS (nW b) 0]])]) [4,5] W Us (λc=>[VM 7 c.2,FN 6 c.1,Nw 5 [H 6,kE,PU,kE,AI 6 c.1,Fg,VN 7 c.2,PU,PU],v9 (d.T [.str e,.bool f,mB i,fN 87 [.aS [bS a] 0,.aS (nW b) 0]])]) aa I qA DM (λ_ _ _⟨_,_⟩a b _ h=>.inl ⟨λ_=>.inl<|nV a<|F 8<|.inl<|aR h λh=>dO ⟨E 0 5<|qc 5 1<|E 6 1<|qt 7 1<|E 8 1<|qt 9 1 [],[],9⟩<|cG h o3 awL M λ_ h=>jy,ZC⟩) Eu λ⟨_,_⟩h=>O
def wU(a:V)(f:Z)(i:At)(j:U bT)(d:U Z)(e:Z)(k:Z)(l:U Z):T J:=(wT a a f i j d e k l).b λm=>some m
def awJ{d e f i a b j k r}(h:wU d e f i a b j k=K r):Gh 122 [.agg (d.T [.str e,.bool f,mB i,fN 87 [.aS [bS a] 0,.aS (nW b) 0]]),.str j,bS k] r:=en f122<|iZ 0 1 2<|F 3<|cG h [Rr,S1,Oq] awK M λ_ h=>O
def rf(f:aB)(a:Z)(e:U Z):T J:=match f with
 |⟨t,b,pl,js,.d⟩=>wI t b pl js a e
 |⟨t,b,pl,js,.rc w⟩=>wL t b pl js w a e
 |⟨t,b,pl,js,.sp w⟩=>wO t b pl js w a e
 |⟨t,b,pl,js,.su w⟩=>wR t b pl js w a e
 |⟨t,b,pl,js,.rk c k⟩=>wU t b pl js c k a e
def Gk{a e f r}(h:rf a e f=K r):Gh 122 [aB.X a,.str e,bS f] r:=match a,h with
 |⟨t,b,pl,js,.d⟩,h=>awn h
 |⟨t,b,pl,js,.rc w⟩,h=>av5 h
 |⟨t,b,pl,js,.sp w⟩,h=>awa h
 |⟨t,b,pl,js,.su w⟩,h=>awN h
 |⟨t,b,pl,js,.rk c k⟩,h=>awJ h
def pr(f:ax)(e:U (Z×aB))(i:Z):=(cv e i).elim (some (qj i)) λa=>Cj a.plain (qj a.bV) (mM (Hw 114 111 119) f.eJ) λd=>(fF f.eJ).b λj=>uu (HJ j.length (n9 d)) (wG a (j++[d])) λk=>(rf a d k).b λl=>fv (Iw a l d true k) λm=>Cb 4 (RK 115 111 114 116) [m]
def alZ{e a f r}(h:pr e a f=K r):Ru 43 [.aS (ax.C e (.map (0,0))) 0,.str f] [((0,0),.map (A8 a))] r:=en f43<|F 1<|wt h (λo b h=>⟨true,_,Km aB.aq b,nofun,F 2<|.inl<|.inl ⟨nofun,λ_=>bj h (λh=>cU (wA Q) B O) λh=>S h zK λj h=>dO ⟨E 0 5<|E 6 2<|qc 5 1<|qc 8 1<|qt 9 1<|E 10 1 [],[],3⟩<|R h λk d h=>(bE [] 3 (mi d) Q) B Q Q tv tv<|tV<|aR h λh=>tV<|cY h Sl (cV<|cn (ls<|ap B B) B) λl h=>dO ⟨E 0 4<|E 5 2<|qc 4 1<|qt 7 3 [],[],4⟩<|S h Gk λm h=>tV<|S h Wx λi h=>cU (KU (Q:Iv Be i=some _)) B O⟩⟩) λb h=>⟨false,_,Kn b,λ_=>.inr ⟨Q,Q⟩,F 2<|.inl<|.inl ⟨λ_=>cU (wA Q) B O,nofun⟩⟩
def Sm(a:V):=some a.name
def Wz{a r}(h:Sm a=K r):CB 114 [V.X a] r:=en f114<|F 0 O
def wW b d:=H5 (λ(e:Nat)(a:V)=>λ_=>Cw a.name d (a,true)) 0 b (QN eK,false)
def awH{f i r}(h:wW f i=K r):Ad 113 [pZ f,wm 114,.str i] (.bZ [V.X r.1,.bool r.2]):=en f113<|F 0<|sT<|je h [2,6,11,12] (λa _=>[dF 114,Ht 13 a]) [] (λ_ _=>[]) [6] W [] W aa I qA (sq 11 Q) (λa _ b _ c d _ h=>.inl ⟨λ_=>.inl<|nV c<|F 1<|cU (Wz (Q:Sm b=some _)) B<|ER,λa=>eA d a⟩) DN λ_ h=>F 1 O
def zR(a:U af):T (U af):=(ck (([]:U af).length+a.length) 96).b λ_=>some (([]:U af)++a)
def Ix{d r}(h:zR d=K r):Ad 115 [mL d] (mL r):=dB.enter eS Tryz.func115 Q (by decide+kernel) Q Q λ_ a=>.inl ⟨Fr,λ_=>R h λ_ a h=>.inl ⟨fo,.inl<|F 0<|match h with|rfl=>⟨SG,tV<|ls<|ap (rm af.aq []) B⟩⟩⟩
def zT(a:U aD):T (U aD):=(ck (([]:U aD).length+a.length) 32).b λ_=>some (([]:U aD)++a)
def Iy{d r}(h:zT d=K r):Ad 116 [lG d] (lG r):=dB.enter eS Tryz.func116 Q (by decide+kernel) Q Q λ_ a=>.inl ⟨Fr,λ_=>R h λ_ a h=>.inl ⟨fo,.inl<|F 0<|match h with|rfl=>⟨SG,tV<|ls<|ap (rm aD.aq []) B⟩⟩⟩
def wX(d:aj)(e:Z):T (V×At):=(wW d.an e).b λa=>cN (!a.2) ((zR a.1.ae).b λf=>(qm a.1.key).b λi=>(zT a.1.aX).b λj=>some (V.mk a.1.name f i j a.1.aH,true))
def Bl{a b r}(h:wX a b=K r):Ad 42 [aj.X a,.str b] (.bZ [V.X r.1,.bool r.2]):=en f42<|ic 0 1<|S h awH λ_ h=>F 2<|bn h λh=>dO ⟨E 0 2<|E 3 2<|E 6 2<|qc 2 1<|E 9 1<|qc 5 1<|qc 8 1<|qt 10 1<|E 11 1<|qt 12 1<|E 13 1<|qt 14 1 [],[],3⟩<|S h Ix λ_ h=>tV<|S h zJ λ_ h=>tV<|S h Iy λ_ h=>tV O
def nE(k:ax)(a:U (Z×aB))(j:Z)(l:V)(e:Z)(f:At)(i:U bT):T (U (Z×aB)):=(wX k.gj j).b λm=>some (jr a j (aB.mk m.1 e f i kM.d))
def wY{j f k i a b e r}(h:nE j f k i a b e=K r):Jh 72 [.aS (ax.C j (.map (0,0))) 0,.str k,.agg (i.T [.str a,.bool b,mB e,.bX])] [((0,0),.map (A8 f))] (.bZ []) [((0,0),.map (A8 r))]:=en f72<|F 1<|S h Bl λc h=>.inl ⟨λ_=>dO ⟨E 0 6<|qt 6 1 [],[],2⟩ ⟨_,Ap aB.aq _ _<|aB.mk c.1 a b e kM.d,kv⟩,nofun⟩
def mj(a:ax)(d:U (Z×aB)):T (U (Z×aB)):=(nE a d a.x.ai (V.mk ⟨#[]⟩ [] [] [] (J.mk 0 ⟨#[]⟩ 0 ⟨#[]⟩ [] [] [] 0 0)) a.x.name true []).b λe=>some e
def awZ{b a r}(h:mj b a=K r):Jh 71 [.aS (ax.C b (.map (0,0))) 0] [((0,0),.map (A8 a))] (.bZ []) [((0,0),.map (A8 r))]:=en f71<|ans
def wZ(k:ax)(d:U (Z×aB))(j:Z)(l:V)(e:Z)(f:At)(i:U bT)(a:ax):T (U (Z×aB)):=(wX k.gj j).b λm=>some (jr d j (aB.mk m.1 e f i (kM.rc a)))
def awY{j f k i b d e a r}(h:wZ j f k i b d e a=K r):Jh 72 [.aS (ax.C j (.map (0,0))) 0,.str k,.agg (i.T [.str b,.bool d,mB e,fN 74 [.aS [.aS (ax.C a .any) 0] 0]])] [((0,0),.map (A8 f))] (.bZ []) [((0,0),.map (A8 r))]:=en f72<|F 1<|S h Bl λc h=>.inl ⟨nofun,λ_=>dO ⟨E 0 6<|qt 6 1 [],[],2⟩ ⟨_,Ap aB.aq _ _<|aB.mk c.1 b d e<|kM.rc a,kv⟩⟩
def ml(a:ax)(d:U (Z×aB)):T (U (Z×aB)):=(wZ a d a.x.ai (V.mk ⟨#[]⟩ [] [] [] (J.mk 0 ⟨#[]⟩ 0 ⟨#[]⟩ [] [] [] 0 0)) a.x.ai false [] a).b λe=>some e
def awX{b a r}(h:ml b a=K r):Jh 73 [.aS (ax.C b (.map (0,0))) 0] [((0,0),.map (A8 a))] (.bZ []) [((0,0),.map (A8 r))]:=en f73<|F 1<|dO ⟨E 0 13<|qt 13 1 [],[],2⟩<|R h λ_ a h=>(RO (1,1) (.cells [.aS (ax.C b .any) 0]) Q (co<|cn (Nb _ _) B)<|VW 2 16 0 Q Q Q Q<|(iR o1 (awY a) Q) (kq<|Ec) Q tv dk<|kv)
def mm(a:ax)(d:U (Z×aB)):T (U (Z×aB)):=(nE a d a.x.ai (V.mk ⟨#[]⟩ [] [] [] (J.mk 0 ⟨#[]⟩ 0 ⟨#[]⟩ [] [] [] 0 0)) a.x.ai false []).b λe=>some e
def awW{b a r}(h:mm b a=K r):Jh 76 [.aS (ax.C b (.map (0,0))) 0] [((0,0),.map (A8 a))] (.bZ []) [((0,0),.map (A8 r))]:=en f76<|ans
def w5(k:ax)(d:U (Z×aB))(j:Z)(l:V)(e:Z)(f:At)(i:U bT)(a:ax):T (U (Z×aB)):=(wX k.gj j).b λm=>some (jr d j (aB.mk m.1 e f i (kM.sp a)))
def awV{j f k i b d e a r}(h:w5 j f k i b d e a=K r):Jh 72 [.aS (ax.C j (.map (0,0))) 0,.str k,.agg (i.T [.str b,.bool d,mB e,fN 79 [.aS [.aS (ax.C a .any) 0] 0]])] [((0,0),.map (A8 f))] (.bZ []) [((0,0),.map (A8 r))]:=en f72<|F 1<|S h Bl λc h=>.inl ⟨nofun,λ_=>dO ⟨E 0 6<|qt 6 1 [],[],2⟩ ⟨_,Ap aB.aq _ _<|aB.mk c.1 b d e<|kM.sp a,kv⟩⟩
def kV(a:ax)(d:U (Z×aB))(e:Z):T Z:=(wX a.gj e).b λf=>(aA f.1.key 0).b λi=>some i
def w7{b a d r}(h:kV b a d=K r):l8 78 [.aS (ax.C b (.map (0,0))) 0,.str d] [((0,0),.map (A8 a))] (.str r):=en f78<|S h Bl λ_ h=>F 1<|EL
def mn(a:ax)(d:U (Z×aB)):T (U (Z×aB)):=(kV a d a.x.ai).b λe=>(w5 a d a.x.ai (V.mk ⟨#[]⟩ [] [] [] (J.mk 0 ⟨#[]⟩ 0 ⟨#[]⟩ [] [] [] 0 0)) a.x.ai false [bT.mk a.x.name e e] a).b λf=>some f
def aw5{b a r}(h:mn b a=K r):Jh 77 [.aS (ax.C b (.map (0,0))) 0] [((0,0),.map (A8 a))] (.bZ []) [((0,0),.map (A8 r))]:=en f77<|F 1<|dO ⟨E 0 6<|qt 6 1<|E 7 1 [],[],2⟩<|cG h o1 w7 M λ_ h=>dO ⟨E 0 22<|qt 22 1 [],[],2⟩<|R h λ_ a h=>(RO (1,1) (.cells [.aS (ax.C b .any) 0]) Q (co<|cn (Nb _ _) B)<|VW 2 16 0 Q Q Q Q<|(iR o1 (awV a) Q) (kq<|cn (.agg<|cV<|gM<|di<|gM<|di<|dT) B) Q tv dk<|kv)
def ak4(a:ax)(d:U (Z×aB)):T Unit:=(nE a d a.x.ai (QN eK) a.x.ai false []).b λe=>none
def aw4{b a r}(h:ak4 b a=K r):l8 81 [.aS (ax.C b (.map (0,0))) 0] [((0,0),.map (A8 a))] (.bZ []):=en f81<|dO ⟨E 0 12<|qt 12 1 [],[],1⟩<|cJ h o1 wY M (kq<|Ec) λ_ h=>no h
def ajL(b:ax)(a:U (Z×aB)):=some ()
def aw3{b a r}(h:ajL b a=K r):l8 82 [.aS (ax.C b (.map (0,0))) 0] [((0,0),.map (A8 a))] (.bZ []):=en f82<|rN dk zS
def w8(k:ax)(d:U (Z×aB))(j:Z)(l:V)(e:Z)(f:At)(i:U bT)(a:ax):T (U (Z×aB)):=(wX k.gj j).b λm=>some (jr d j (aB.mk m.1 e f i (kM.su a)))
def aw1{j f k i b d e a r}(h:w8 j f k i b d e a=K r):Jh 72 [.aS (ax.C j (.map (0,0))) 0,.str k,.agg (i.T [.str b,.bool d,mB e,fN 84 [.aS [.aS (ax.C a .any) 0] 0]])] [((0,0),.map (A8 f))] (.bZ []) [((0,0),.map (A8 r))]:=en f72<|F 1<|S h Bl λc h=>.inl ⟨nofun,λ_=>dO ⟨E 0 6<|qt 6 1 [],[],2⟩ ⟨_,Ap aB.aq _ _<|aB.mk c.1 b d e<|kM.su a,kv⟩⟩
def mo(a:ax)(d:U (Z×aB)):T (U (Z×aB)):=(w8 a d a.x.ai (V.mk ⟨#[]⟩ [] [] [] (J.mk 0 ⟨#[]⟩ 0 ⟨#[]⟩ [] [] [] 0 0)) a.x.ai false [] a).b λe=>some e
def aw0{b a r}(h:mo b a=K r):Jh 83 [.aS (ax.C b (.map (0,0))) 0] [((0,0),.map (A8 a))] (.bZ []) [((0,0),.map (A8 r))]:=en f83<|F 1<|dO ⟨E 0 13<|qt 13 1 [],[],2⟩<|R h λ_ a h=>(RO (1,1) (.cells [.aS (ax.C b .any) 0]) Q (co<|cn (Nb _ _) B)<|VW 2 16 0 Q Q Q Q<|(iR o1 (aw1 a) Q) (kq<|Ec) Q tv dk<|kv)
def w9(l:ax)(e:U (Z×aB))(k:Z)(m:V)(f:Z)(i:At)(j:U bT)(a:U Z)(d:Z):T (U (Z×aB)):=(wX l.gj k).b λo=>some (jr e k (aB.mk o.1 f i j (kM.rk a d)))
def wr2{k i l j d e f a b r}(h:w9 k i l j d e f a b=K r):Jh 72 [.aS (ax.C k (.map (0,0))) 0,.str l,.agg (j.T [.str d,.bool e,mB f,fN 87 [.aS [bS a] 0,.aS (nW b) 0]])] [((0,0),.map (A8 i))] (.bZ []) [((0,0),.map (A8 r))]:=en f72<|F 1<|S h Bl λc h=>.inl ⟨nofun,λ_=>dO ⟨E 0 6<|qt 6 1 [],[],2⟩ ⟨_,Ap aB.aq _ _<|aB.mk c.1 d e f<|kM.rk a b,kv⟩⟩
def kW(a:ax)(l:U (Z×aB)):T (U (Z×aB)):=(fI (λ(a3:Nat)(m:V)=>λk=>((fI (λ(a0:Nat)(d:aD)=>λ(e,f)=>(Y (bg d.ai a.x.ai) ((ck (e.length+([bT.mk a.x.ai a.x.ar d.ar]:U bT).length) 48).b λa1=>(ck (f.length+([d.ar]:U Z).length) 16).b λa2=>il (e++[bT.mk a.x.ai a.x.ar d.ar],f++[d.ar])) (il (e,f))).j λ(p,t)=>il (p,t)) m.aX ([],[])).j λ(i,u)=>Y (((i.map bT.aq).length:Int)==0) (il k) ((kV a k a.x.ai).b λv=>(w9 a k m.name (V.mk ⟨#[]⟩ [] [] [] (J.mk 0 ⟨#[]⟩ 0 ⟨#[]⟩ [] [] [] 0 0)) m.name false i u v).b λw=>il w)).j λo=>il o) a.gj.an l).j λz=>some z
def wE5{m a r}(h:kW m a=K r):Jh 86 [.aS (ax.C m (.map (0,0))) 0] [((0,0),.map (A8 a))] (.bZ []) [((0,0),.map (A8 r))]:=en f86<|sT<|Bi h 15 [0,13,14] W [] (λa=>[((0,0),.map (A8 a))]) I qA (sq 13 Q) (λ_ _ _ _ a b _ h=>.inl ⟨λ_=>jn h [0,13,14,15] W [] (λa=>[((0,0),.map (A8 a))]) I (λh _=>.inl<|nV a ⟨1,Q,F 2<|sT<|.inr<|gc 4 3 3 Q Q Q<|ga (1,2) 0 1 4 Q Q Q Q<|zI h 22 [0,3,5,13,14,15,20,21] (λa=>[(4,aku 1 3 a.1)]) [] (λa=>[FN 4 a.2,ale 1 3 a.1,Nw 2 [AI 4 a.2]]) I qA (sq 20 Q) (λ_ _ _⟨_,_⟩a b _ h=>.inl ⟨λ_=>jn h [0,3,5,13,14,15,20,21,22] (λa=>[(4,aku 1 3 a.1)]) [] (λa=>[FN 4 a.2,ale 1 3 a.1,Nw 2 [AI 4 a.2]]) I (λh _=>.inl<|nV a<|F 5<|dO ⟨E 0 8 [],[],6⟩<|bu h λh=>dO ⟨E 0 15<|qt 15 2 [],[],6⟩<|aR h λh=>Uk) λ⟨_,_⟩h=>jA h,ZC⟩) (λ⟨_,_⟩=>.inl ⟨Vu,λ_=>⟨Q,ku,agZ⟩⟩) λ⟨_,a⟩h=>sT<|ba h λh=>cG h o1 w7 M λ_ h=>F 5<|R h λ_ b h=>(RO (1,2) (.cells [bS a]) Q (co<|dT)<|VW 2 16 0 Q Q Q Q<|VW 2 16 1 Q Q Q Q<|(iR o1 (wr2 b) Q) (kq<|cn (.agg<|cV<|gM<|di<|gM<|di<|dT) B) Q tv dk<|jA h)⟩) λ_ h=>jA h,ZC⟩) Ex λ_ h=>kv
def aii(a:af)(b:Z):=DW a.name b
def t83{a b r}(h:aii a b=K r):l8 164 [af.X a,l4] [CN b] (.bool r):=en f164<|F 1 O
def aig e a:=Lr (λ(d:Nat)(f:af)=>λ_=>(aii f a).b λi=>F6 i d) e
def t72{i a r}(h:aig i a=K r):Cf 163 [mL i,J8 164] [CN a] r:=en f163<|sT<|je h ND (λa _=>[QF 164,Kl a]) [] (λ_ _=>[]) [] W [] W aa I qA GD (λa _ _ _ b c _ h=>.inl ⟨λ_=>.inl<|nV b<|cG h o1 t83 M λ_ h=>ER,M4⟩) Zo λ_ h=>O
def lr(a:V)(d:Z):=jg (aig a.ae d)
def lI{a b r}(h:lr a b=K r):H3 68 [V.X a,.str b] r:=en f68<|ic 0 1<|cG h RV t72 M λ_ h=>O
def aic a d:=fv (lr d a) λe=>VY e
def t52{a b r}(h:aic a b=K r):HD 67 [.str a,l4] (V.C b) (.bool r):=en f67<|S h lI λ_ h=>O
def ahl e a:=Lr (λ(d:Nat)(f:Z)=>λ_=>(aic f a).b λi=>F6 i d) e
def t32{i a r}(h:ahl i a=K r):l3 158 [bS i,J8 67] (V.C a) r:=en f158<|sT<|je h ND (λa _=>[QF 67,Kl a]) [] (λ_ _=>[]) [] W [] W aa I qA GD (λa _ _ _ b c _ h=>.inl ⟨λ_=>.inl<|nV b<|cG h o1 t52 M λ_ h=>ER,M4⟩) Zo λ_ h=>O
def pt d a:=fv (ahl d a) λe=>decide (e>=0)
def awv{b a r}(h:pt b a=K r):HD 65 [bS b,J8 67] (V.C a) (.bool r):=en f65<|cG h o1 t32 M λ_ h=>O
def pu(a:U Z):T (U Z):=(ck (([]:U Z).length+a.length) 16).b λ_=>some a
def ah7{d r}(h:pu d=K r):kj 85 [bS d] [] (.ms Rr 1 (zf r)) ([]++[EE 1 0 r]):=lR eS Tryz.func85 Q (by decide+kernel) Q Q λ_ a=>.inl ⟨λb=>R h λ_ _ h=>match h with|rfl=>⟨SG,_,_,cc (qw 2 1 0 Q Q)<|dr _ _ _ _,⟨lE G.str<|a b,tv⟩,ko G.str<|a b⟩,λ_=>R h λ_ a h=>.inl ⟨iI a (by simp),.inr ⟨Q,F 0<|match h with|rfl=>⟨.inr Q,_,_,dr _ _ _ _,⟨.refl _,tv⟩,.refl _⟩⟩⟩⟩
def nF(a:U af):T (U af):=(ck (([]:U af).length+a.length) 96).b λ_=>some a
def xb{d r}(h:nF d=K r):kj 115 [mL d] [] (.ms Rr 6 (mZ r)) ([]++[Zv 1 0 r]):=lR eS Tryz.func115 Q (by decide+kernel) Q Q λ_ a=>.inl ⟨λb=>R h λ_ _ h=>match h with|rfl=>⟨SG,_,_,cc (qw 2 6 0 Q Q)<|dr _ _ _ _,⟨lE af.aq<|a b,tv⟩,ko af.aq<|a b⟩,λ_=>R h λ_ a h=>.inl ⟨iI a (by simp),.inr ⟨Q,F 0<|match h with|rfl=>⟨.inr Q,_,_,dr _ _ _ _,⟨.refl _,tv⟩,.refl _⟩⟩⟩⟩
def xc(a:U aD):T (U aD):=(ck (([]:U aD).length+a.length) 32).b λ_=>some a
def awu{d r}(h:xc d=K r):kj 116 [lG d] [] (Ur 0 r) ([]++[oQ 1 0 r]):=lR eS Tryz.func116 Q (by decide+kernel) Q Q λ_ a=>.inl ⟨λb=>R h λ_ _ h=>match h with|rfl=>⟨.inr Q,_,_,cc (Nf 2 2 0 Q Q Q)<|dr _ _ _ _,⟨vy aD.aq<|a b,tv⟩,vz aD.aq<|a b⟩,λ_=>R h λ_ a h=>.inl ⟨iI a (by simp),.inl<|F 0<|match h with|rfl=>⟨.inr Q,_,_,dr _ _ _ _,⟨lo<|ap (rm aD.aq []) B,tv⟩,lt<|ap (rm aD.aq []) B⟩⟩⟩
def pv(a:U az):T (U az):=(ck (([]:U az).length+a.length) 40).b λ_=>some a
def agT{d r}(h:pv d=K r):kj 165 [oP d] [] (.ms Rr 2 (v4 r)) ([]++[Zx 1 0 r]):=lR eS Tryz.func165 Q (by decide+kernel) Q Q λ_ a=>.inl ⟨λb=>R h λ_ _ h=>match h with|rfl=>⟨SG,_,_,cc (qw 2 2 0 Q Q)<|dr _ _ _ _,⟨lE az.aq<|a b,tv⟩,ko az.aq<|a b⟩,λ_=>R h λ_ a h=>.inl ⟨iI a (by simp),.inr ⟨Q,F 0<|match h with|rfl=>⟨.inr Q,_,_,dr _ _ _ _,⟨.refl _,tv⟩,.refl _⟩⟩⟩⟩
def pw(a:U V):T (U V):=(ck (([]:U V).length+a.length) 224).b λ_=>some a
def ajq{d r}(h:pw d=K r):kj 166 [pZ d] [] (.ms Rr 13 (Hu r)) ([]++[lz 1 0 r]):=lR eS Tryz.func166 Q (by decide+kernel) Q Q λ_ a=>.inl ⟨λb=>R h λ_ _ h=>match h with|rfl=>⟨SG,_,_,cc (qw 2 13 0 Q Q)<|dr _ _ _ _,⟨lE V.aq<|a b,tv⟩,ko V.aq<|a b⟩,λ_=>R h λ_ a h=>.inl ⟨iI a (by simp),.inr ⟨Q,F 0<|match h with|rfl=>⟨.inr Q,_,_,dr _ _ _ _,⟨.refl _,tv⟩,.refl _⟩⟩⟩⟩
def xd(a:U aD):T (U aD):=(ck (([]:U aD).length+a.length) 32).b λ_=>some a
def awt{d r}(h:xd d=K r):kj 116 [lG d] [] (.ms Rr 2 (C0 r)) ([]++[CX 1 0 2 r]):=lR eS Tryz.func116 Q (by decide+kernel) Q Q λ_ a=>.inl ⟨λb=>R h λ_ _ h=>match h with|rfl=>⟨SG,_,_,cc (qw 2 2 0 Q Q)<|dr _ _ _ _,⟨lE aD.aq<|a b,tv⟩,ko aD.aq<|a b⟩,λ_=>R h λ_ a h=>.inl ⟨iI a (by simp),.inr ⟨Q,F 0<|match h with|rfl=>⟨.inr Q,_,_,dr _ _ _ _,⟨.refl _,tv⟩,.refl _⟩⟩⟩⟩
def aQ:=Rp cp [] [] [] 0 0
def Hf(s:aj)(x:GStep):=Y (decide (x.ah=4)) s.an.length (s.an.findIdx λt=>Y (decide (x.ah=0\/x.ah=7)) (t.aX.any λr=>r.ai==x.ai) (t.name==x.ai))
def LF(q:Nat)(e:aj):T (U az×U V×V):=(pv e.aT).b λi=>(pw e.an).b λd=>(aU (d.length<=4611686018427387904)).b λj=>(uy (λ(f:Nat)(a:V)=>Y (decide (f=q)) ((nF a.ae).b λo=>(pu a.key).b λp=>(xd a.aX).b λt=>some ()) ((zR a.ae).b λu=>(qm a.key).b λl=>(zT a.aX).b λm=>some ())) 0 d).b λk=>some (i,d,d.getD q aQ)
def abK{q a8 r}(h:LF q a8=K r):Ac 69 [aj.X a8] [] [] (.agg [.ms (1,0) 2 (r.1.map az.aq).length,.ms (1,1) 13 r.2.1.length]) ([]++[oD 1 0 2 (r.1.map az.aq),oD 1 1 13 (eB V.aq r.2.1 q (.agg (.str r.2.2.name::.ms (1,2) 6 ((r.2.2.ae.map af.aq).length)::.ms (1,3) 1 ((r.2.2.key.map G.str).length)::.ms (1,4) 2 ((r.2.2.aX.map aD.aq).length)::r.2.2.aH.T []))),oD 1 2 6 (r.2.2.ae.map af.aq),oD 1 3 1 (r.2.2.key.map G.str),oD 1 4 2 (r.2.2.aX.map aD.aq)]):=lR eS Tryz.func69 Q (by decide+kernel) Q Q<|ic 0 1<|dO ⟨E 0 2<|E 3 2 ((7,.al (1,2))::(qc 2 1 (qc 5 1 (E 6 1 (qt 8 1 []))))),[(1,2)],3⟩<|R h λa b h=>(bE [] 3 (agT b) Q) B Q Q tv tv<|tV<|R h λb c h=>(bE [] 4 (ajq c) Q) B Q Q tv tv<|tV<|kS h λc h=>R h λ_ d h=>.inr<|Qs eS (xs:=b) (en:=V.aq) (p:=q) (z:=aQ) (X:=.agg [.str ((b.getD q aQ).name),.ms (1,6) 6 ((((b.getD q aQ).ae).map af.aq).length),.ms (1,7) 1 ((((b.getD q aQ).key).map G.str).length),.ms (1,8) 2 ((((b.getD q aQ).aX).map aD.aq).length),H (((b.getD q aQ).aH).ah),.str (((b.getD q aQ).aH).name),H (((b.getD q aQ).aH).n),.str (((b.getD q aQ).aH).s),bS (((b.getD q aQ).aH).ay),bS (((b.getD q aQ).aH).binds),lh (((b.getD q aQ).aH).au),H (((b.getD q aQ).aH).pos),H (((b.getD q aQ).aH).dG)]) (λa=>[(2,pT 1 1),(3,pT 1 2),(14,.ms (1,4) 13 ((b.map V.aq).length)),(15,H ((b.map V.aq).length:Int)),(16,H (a:Int))]) (λc=>[cd 1 2 [.ms (1,3) 2 ((a.map az.aq).length),.ms (1,4) 13 ((b.map V.aq).length)],oD 1 4 13 c,oD 1 3 2 (a.map az.aq),cd 1 1 (aj.C QO)]) (λc=>[oD 1 8 2 (((b.getD q aQ).aX).map aD.aq),oD 1 7 1 (((b.getD q aQ).key).map G.str),oD 1 6 6 (((b.getD q aQ).ae).map af.aq),cd 1 2 [.ms (1,3) 2 ((a.map az.aq).length),.ms (1,4) 13 ((b.map V.aq).length)],oD 1 4 13 c,oD 1 3 2 (a.map az.aq),cd 1 1 (aj.C QO)]) [(2,pT 1 1),(3,pT 1 2)] [cd 1 2 [.ms (1,3) 2 ((a.map az.aq).length),.ms (1,4) 13 ((b.map V.aq).length)],oD 1 4 13 (b.map V.aq),oD 1 3 2 (a.map az.aq),cd 1 1 (aj.C QO)] [oD 1 8 2 (((b.getD q aQ).aX).map aD.aq),oD 1 7 1 (((b.getD q aQ).key).map G.str),oD 1 6 6 (((b.getD q aQ).ae).map af.aq),cd 1 2 [.ms (1,3) 2 ((a.map az.aq).length),.ms (1,4) 13 ((b.map V.aq).length)],oD 1 4 13 (eB V.aq b q (.agg [.str ((b.getD q aQ).name),.ms (1,6) 6 ((((b.getD q aQ).ae).map af.aq).length),.ms (1,7) 1 ((((b.getD q aQ).key).map G.str).length),.ms (1,8) 2 ((((b.getD q aQ).aX).map aD.aq).length),H (((b.getD q aQ).aH).ah),.str (((b.getD q aQ).aH).name),H (((b.getD q aQ).aH).n),.str (((b.getD q aQ).aH).s),bS (((b.getD q aQ).aH).ay),bS (((b.getD q aQ).aH).binds),lh (((b.getD q aQ).aH).au),H (((b.getD q aQ).aH).pos),H (((b.getD q aQ).aH).dG)])),oD 1 3 2 (a.map az.aq),cd 1 1 (aj.C QO)] d ⟨Q,(O4 ⟨co<|ee B,tv⟩),QP⟩ c (ex:=λa=>.agg (a.T [])) (λ_=>Q) (λa c _ d e f h=>.inl ⟨λ_=>.inl ⟨(Ir _),ze,((a:Int).toNat*13),Q,(a:Int).toNat,0,_,Q,jX (⟨Q,uh e⟩:_/\_),F 5<|dO ⟨E 0 11<|E 12 2<|E 15 2<|qc 11 1<|qc 14 1<|qc 17 1<|E 18 2<|qc 20 1<|E 21 2<|qc 23 1<|E 24 2<|qt 26 1 [],[],6⟩<|R h λg i h=>cU (Ix i) B<|tV<|R h λj k h=>cU (zJ k) B<|tV<|R h λl m h=>cU (Iy m) B<|tV ⟨(Ir _),ze,((a:Int).toNat*13),Q,(a:Int).toNat,1,_,Q,jX (⟨Q,uh e⟩:_/\_),Q,(ql (b.map V.aq) a<|.agg (.str c.name::mL g::bS c.key::lG c.aX::c.aH.T [])),pk,tV ⟨(Ir _),ze,((a:Int).toNat*13),Q,(a:Int).toNat,2,_,Q,jX (⟨Q,uh e⟩:_/\_),Q,(ql (b.map V.aq) a<|.agg (.str c.name::mL g::bS j::lG c.aX::c.aH.T [])),pk,tV ⟨(Ir _),ze,((a:Int).toNat*13),Q,(a:Int).toNat,3,_,Q,jX (⟨Q,uh e⟩:_/\_),Q,(ql (b.map V.aq) a<|.agg (.str c.name::mL g::bS j::lG l::c.aH.T [])),pk,(have v:=yD i;have o:=yD k;have t:=yD m;by subst v o t;exact Hc ⟨Q,(uj ⟨(.bD (ZP (mg d))),kF⟩),.refl _,.refl _,.refl _,.refl _,wi f,tv⟩)⟩⟩⟩⟩,λa=>eA (uh e) a⟩) (λa c d e h=>.inl ⟨λ_=>.inl ⟨(Ir _),(rz d),((q:Int).toNat*13),Q,(q:Int).toNat,0,_,Q,jX (⟨Q,uh d⟩:_/\_),F 5<|dO ⟨E 0 11<|E 12 2<|E 15 2<|qc 11 1<|qc 14 1<|qc 17 1<|E 18 2<|qc 20 1<|E 21 2<|qc 23 1<|E 24 2<|qt 26 1 [],[],6⟩<|R h λf g h=>(bE [] 6 (xb g) Q) B Q Q tv tv<|tV<|R h λi j h=>(bE [] 7 (ah7 j) Q) B Q Q tv tv<|tV<|R h λk l h=>(bE [] 8 (awt l) Q) B Q Q tv tv<|tV ⟨(Ir _),(rz d),((q:Int).toNat*13),Q,(q:Int).toNat,1,_,Q,jX (⟨Q,uh d⟩:_/\_),Q,(ql (b.map V.aq) q<|.agg (.str a.name::.ms (1,6) 6 ((f.map af.aq).length)::bS a.key::lG a.aX::a.aH.T [])),pk,tV ⟨(Ir _),(rz d),((q:Int).toNat*13),Q,(q:Int).toNat,2,_,Q,jX (⟨Q,uh d⟩:_/\_),Q,(ql (b.map V.aq) q<|.agg (.str a.name::.ms (1,6) 6 ((f.map af.aq).length)::.ms (1,7) 1 ((i.map G.str).length)::lG a.aX::a.aH.T [])),pk,tV ⟨(Ir _),(rz d),((q:Int).toNat*13),Q,(q:Int).toNat,3,_,Q,jX (⟨Q,uh d⟩:_/\_),Q,(ql (b.map V.aq) q<|.agg (.str a.name::.ms (1,6) 6 ((f.map af.aq).length)::.ms (1,7) 1 ((i.map G.str).length)::.ms (1,8) 2 ((k.map aD.aq).length)::a.aH.T [])),pk,(have v:=yD g;have o:=yD j;have t:=yD l;by subst v o t c;exact Hc ⟨Q,Sf,.refl _,.refl _,.refl _,.refl _,wi e,tv⟩)⟩⟩⟩⟩,λa=>eA (uh d) a⟩) (λa c _ d e f h=>.inl ⟨λ_=>.inl ⟨(Ir _),ze,((a:Int).toNat*13),Q,(a:Int).toNat,0,_,Q,jX (⟨Q,EX e⟩:_/\_),F 9<|dO ⟨E 0 11<|E 12 2<|E 15 2<|qc 11 1<|qc 14 1<|qc 17 1<|E 18 2<|qc 20 1<|E 21 2<|qc 23 1<|E 24 2<|qt 26 1 [],[],10⟩<|R h λg i h=>cU (Ix i) B<|tV<|R h λj k h=>cU (zJ k) B<|tV<|R h λl m h=>cU (Iy m) B<|tV ⟨(Ir _),ze,((a:Int).toNat*13),Q,(a:Int).toNat,1,_,Q,jX (⟨Q,EX e⟩:_/\_),Q,(ql (eB V.aq b q<|.agg [.str ((b.getD q aQ).name),.ms (1,6) 6 ((((b.getD q aQ).ae).map af.aq).length),.ms (1,7) 1 ((((b.getD q aQ).key).map G.str).length),.ms (1,8) 2 ((((b.getD q aQ).aX).map aD.aq).length),H (((b.getD q aQ).aH).ah),.str (((b.getD q aQ).aH).name),H (((b.getD q aQ).aH).n),.str (((b.getD q aQ).aH).s),bS (((b.getD q aQ).aH).ay),bS (((b.getD q aQ).aH).binds),lh (((b.getD q aQ).aH).au),H (((b.getD q aQ).aH).pos),H (((b.getD q aQ).aH).dG)]) a<|.agg (.str c.name::mL g::bS c.key::lG c.aX::c.aH.T [])),pk,tV ⟨(Ir _),ze,((a:Int).toNat*13),Q,(a:Int).toNat,2,_,Q,jX (⟨Q,EX e⟩:_/\_),Q,(ql (eB V.aq b q<|.agg [.str ((b.getD q aQ).name),.ms (1,6) 6 ((((b.getD q aQ).ae).map af.aq).length),.ms (1,7) 1 ((((b.getD q aQ).key).map G.str).length),.ms (1,8) 2 ((((b.getD q aQ).aX).map aD.aq).length),H (((b.getD q aQ).aH).ah),.str (((b.getD q aQ).aH).name),H (((b.getD q aQ).aH).n),.str (((b.getD q aQ).aH).s),bS (((b.getD q aQ).aH).ay),bS (((b.getD q aQ).aH).binds),lh (((b.getD q aQ).aH).au),H (((b.getD q aQ).aH).pos),H (((b.getD q aQ).aH).dG)]) a<|.agg (.str c.name::mL g::bS j::lG c.aX::c.aH.T [])),pk,tV ⟨(Ir _),ze,((a:Int).toNat*13),Q,(a:Int).toNat,3,_,Q,jX (⟨Q,EX e⟩:_/\_),Q,(ql (eB V.aq b q<|.agg [.str ((b.getD q aQ).name),.ms (1,6) 6 ((((b.getD q aQ).ae).map af.aq).length),.ms (1,7) 1 ((((b.getD q aQ).key).map G.str).length),.ms (1,8) 2 ((((b.getD q aQ).aX).map aD.aq).length),H (((b.getD q aQ).aH).ah),.str (((b.getD q aQ).aH).name),H (((b.getD q aQ).aH).n),.str (((b.getD q aQ).aH).s),bS (((b.getD q aQ).aH).ay),bS (((b.getD q aQ).aH).binds),lh (((b.getD q aQ).aH).au),H (((b.getD q aQ).aH).pos),H (((b.getD q aQ).aH).dG)]) a<|.agg (.str c.name::mL g::bS j::lG l::c.aH.T [])),pk,(have v:=yD i;have o:=yD k;have t:=yD m;by subst v o t;exact Hc ⟨Q,(UI ⟨(.bD (ZP (mg d))),kF⟩),.refl _,.refl _,.refl _,.refl _,wi f,tv⟩)⟩⟩⟩⟩,λa=>eA (uh e) a⟩) an2 an1 (λa b=>by rw[b,a];exact cc (D1 6 6 Q) (cc (D1 1 7 Q) (D1 2 8 Q)))<|match h with|rfl=>⟨SG,_,_,cc (ft [(2,pT 1 1)] ⟨.refl _,tv⟩)<|cc (gv (1,3) (1,0) Q)<|cc (gv (1,4) (1,1) Q)<|cc (gv (1,6) (1,2) Q)<|cc (gv (1,7) (1,3) Q)<|cc (gv (1,8) (1,4) Q)<|dr _ _ _ _,OE,.agg<|cn zA<|cn (od (by simp)) B⟩
def rH(q:Nat)(e:aj):T (U az×U V×V):=(pv e.aT).b λi=>(pw e.an).b λd=>(aU (d.length<=4611686018427387904)).b λj=>(uy (λ(f:Nat)(a:V)=>Y (decide (f=q)) ((nF a.ae).b λo=>(pu a.key).b λp=>(xc a.aX).b λt=>some ()) ((zR a.ae).b λu=>(qm a.key).b λl=>(zT a.aX).b λm=>some ())) 0 d).b λk=>some (i,d,d.getD q aQ)
def aws{q a8 r}(h:rH q a8=K r):kj 69 [aj.X a8] [] (.agg [.ms Rr 2 (v4 r.1),.ms S1 13 r.2.1.length]) ([]++[Zx 1 0 r.1,oD 1 1 13 (eB V.aq r.2.1 q (.agg (.str r.2.2.name::.ms Oq 6 (mZ r.2.2.ae)::.ms Rk 1 (zf r.2.2.key)::Ur 4 r.2.2.aX::r.2.2.aH.T []))),Zv 1 2 r.2.2.ae,EE 1 3 r.2.2.key,oQ 1 4 r.2.2.aX]):=lR eS Tryz.func69 Q (by decide+kernel) Q Q<|ic 0 1<|dO ⟨E 0 2<|E 3 2 ((7,.al (1,2))::(sS 2 (fq 5 1 6 1 8))),Vs,3⟩<|R h λa b h=>(bE [] 3 (agT b) Q) B Q Q tv tv<|tV<|R h λb c h=>(bE [] 4 (ajq c) Q) B Q Q tv tv<|tV<|kS h λc h=>R h λ_ d h=>.inr<|Qs eS (xs:=b) (en:=V.aq) (p:=q) (z:=aQ) (X:=.agg [.str (b.getD q aQ).name,.ms Uy 6 (mZ (b.getD q aQ).ae),.ms Zd 1 (zf (b.getD q aQ).key),Ur 8 (b.getD q aQ).aX,H (b.getD q aQ).aH.ah,.str (b.getD q aQ).aH.name,H (b.getD q aQ).aH.n,.str (b.getD q aQ).aH.s,bS (b.getD q aQ).aH.ay,bS (b.getD q aQ).aH.binds,lh (b.getD q aQ).aH.au,H (b.getD q aQ).aH.pos,H (b.getD q aQ).aH.dG]) (λa=>[Y6 2 1,Y6 3 2,(14,.ms T7 13 (Hu b)),UW 15 (Ce b),Ht 16 a]) (λc=>[cd 1 2 [.ms Rk 2 (v4 a),.ms T7 13 (Hu b)],oD 1 4 13 c,oD 1 3 2 (a.map az.aq),cd 1 1 (aj.C QO)]) (λc=>[oQ 1 8 ((b.getD q aQ).aX),oD 1 7 1 (FP (b.getD q aQ).key),oD 1 6 6 ((b.getD q aQ).ae.map af.aq),cd 1 2 [.ms Rk 2 (v4 a),.ms T7 13 (Hu b)],oD 1 4 13 c,oD 1 3 2 (a.map az.aq),cd 1 1 (aj.C QO)]) [Y6 2 1,Y6 3 2] [Nw 2 [.ms Rk 2 (v4 a),.ms T7 13 (Hu b)],lz 1 4 b,Zx 1 3 a,Nw 1 (aj.C QO)] [oQ 1 8 (b.getD q aQ).aX,EE 1 7 (b.getD q aQ).key,Zv 1 6 (b.getD q aQ).ae,Nw 2 [.ms Rk 2 (v4 a),.ms T7 13 (Hu b)],oD 1 4 13 (eB V.aq b q (.agg [.str (b.getD q aQ).name,.ms Uy 6 (mZ (b.getD q aQ).ae),.ms Zd 1 (zf (b.getD q aQ).key),Ur 8 (b.getD q aQ).aX,H (b.getD q aQ).aH.ah,.str (b.getD q aQ).aH.name,H (b.getD q aQ).aH.n,.str (b.getD q aQ).aH.s,bS (b.getD q aQ).aH.ay,bS (b.getD q aQ).aH.binds,lh (b.getD q aQ).aH.au,H (b.getD q aQ).aH.pos,H (b.getD q aQ).aH.dG])),Zx 1 3 a,Nw 1 (aj.C QO)] d ⟨Q,(O4 ⟨co<|ee B,tv⟩),QP⟩ c (ex:=λa=>.agg (a.T [])) (λ_=>Q) (λa c _ d e f h=>.inl ⟨λ_=>.inl ⟨(Ir _),ze,((a:Int).toNat*13),Q,(a:Int).toNat,0,_,Q,jX (⟨Q,uh e⟩:_/\_),F 5<|dO ⟨E 0 11<|E 12 2<|E 15 2<|qc 11 1<|qc 14 1<|qc 17 1<|E 18 2<|qc 20 1<|E 21 2<|qc 23 1<|E 24 2<|qt 26 1 [],[],6⟩<|R h λg i h=>cU (Ix i) B<|tV<|R h λj k h=>cU (zJ k) B<|tV<|R h λl m h=>cU (Iy m) B<|tV ⟨(Ir _),ze,((a:Int).toNat*13),Q,(a:Int).toNat,1,_,Q,jX (⟨Q,uh e⟩:_/\_),Q,(ql (DG b) a<|.agg (.str c.name::mL g::bS c.key::lG c.aX::c.aH.T [])),pk,tV ⟨(Ir _),ze,((a:Int).toNat*13),Q,(a:Int).toNat,2,_,Q,jX (⟨Q,uh e⟩:_/\_),Q,(ql (DG b) a<|.agg (.str c.name::mL g::bS j::lG c.aX::c.aH.T [])),pk,tV ⟨(Ir _),ze,((a:Int).toNat*13),Q,(a:Int).toNat,3,_,Q,jX (⟨Q,uh e⟩:_/\_),Q,(ql (DG b) a<|.agg (.str c.name::mL g::bS j::lG l::c.aH.T [])),pk,(have v:=yD i;have o:=yD k;have t:=yD m;by subst v o t;exact Hc ⟨Q,(uj ⟨(.bD (ZP (mg d))),kF⟩),.refl _,.refl _,.refl _,.refl _,wi f,tv⟩)⟩⟩⟩⟩,λa=>eA (uh e) a⟩) (λa c d e h=>.inl ⟨λ_=>.inl ⟨(Ir _),(rz d),((q:Int).toNat*13),Q,(q:Int).toNat,0,_,Q,jX (⟨Q,uh d⟩:_/\_),F 5<|dO ⟨E 0 11<|E 12 2<|E 15 2<|qc 11 1<|qc 14 1<|qc 17 1<|E 18 2<|qc 20 1<|E 21 2<|qc 23 1<|E 24 2<|qt 26 1 [],[],6⟩<|R h λf g h=>(bE [] 6 (xb g) Q) B Q Q tv tv<|tV<|R h λi j h=>(bE [] 7 (ah7 j) Q) B Q Q tv tv<|tV<|R h λk l h=>(bE [] 8 (awu l) Q) B Q Q tv tv<|tV ⟨(Ir _),(rz d),((q:Int).toNat*13),Q,(q:Int).toNat,1,_,Q,jX (⟨Q,uh d⟩:_/\_),Q,(ql (DG b) q<|.agg (.str a.name::.ms Uy 6 (mZ f)::bS a.key::lG a.aX::a.aH.T [])),pk,tV ⟨(Ir _),(rz d),((q:Int).toNat*13),Q,(q:Int).toNat,2,_,Q,jX (⟨Q,uh d⟩:_/\_),Q,(ql (DG b) q<|.agg (.str a.name::.ms Uy 6 (mZ f)::.ms Zd 1 (zf i)::lG a.aX::a.aH.T [])),pk,tV ⟨(Ir _),(rz d),((q:Int).toNat*13),Q,(q:Int).toNat,3,_,Q,jX (⟨Q,uh d⟩:_/\_),Q,(ql (DG b) q<|.agg (.str a.name::.ms Uy 6 (mZ f)::.ms Zd 1 (zf i)::Ur 8 k::a.aH.T [])),pk,(have v:=yD g;have o:=yD j;have t:=yD l;by subst v o t c;exact Hc ⟨Q,Sf,.refl _,.refl _,.refl _,.refl _,wi e,tv⟩)⟩⟩⟩⟩,λa=>eA (uh d) a⟩) (λa c _ d e f h=>.inl ⟨λ_=>.inl ⟨(Ir _),ze,((a:Int).toNat*13),Q,(a:Int).toNat,0,_,Q,jX (⟨Q,EX e⟩:_/\_),F 9<|dO ⟨E 0 11<|E 12 2<|E 15 2<|qc 11 1<|qc 14 1<|qc 17 1<|E 18 2<|qc 20 1<|E 21 2<|qc 23 1<|E 24 2<|qt 26 1 [],[],10⟩<|R h λg i h=>cU (Ix i) B<|tV<|R h λj k h=>cU (zJ k) B<|tV<|R h λl m h=>cU (Iy m) B<|tV ⟨(Ir _),ze,((a:Int).toNat*13),Q,(a:Int).toNat,1,_,Q,jX (⟨Q,EX e⟩:_/\_),Q,(ql (eB V.aq b q<|.agg [.str (b.getD q aQ).name,.ms Uy 6 (mZ (b.getD q aQ).ae),.ms Zd 1 (zf (b.getD q aQ).key),Ur 8 (b.getD q aQ).aX,H (b.getD q aQ).aH.ah,.str (b.getD q aQ).aH.name,H (b.getD q aQ).aH.n,.str (b.getD q aQ).aH.s,bS (b.getD q aQ).aH.ay,bS (b.getD q aQ).aH.binds,lh (b.getD q aQ).aH.au,H (b.getD q aQ).aH.pos,H (b.getD q aQ).aH.dG]) a<|.agg (.str c.name::mL g::bS c.key::lG c.aX::c.aH.T [])),pk,tV ⟨(Ir _),ze,((a:Int).toNat*13),Q,(a:Int).toNat,2,_,Q,jX (⟨Q,EX e⟩:_/\_),Q,(ql (eB V.aq b q<|.agg [.str (b.getD q aQ).name,.ms Uy 6 (mZ (b.getD q aQ).ae),.ms Zd 1 (zf (b.getD q aQ).key),Ur 8 (b.getD q aQ).aX,H (b.getD q aQ).aH.ah,.str (b.getD q aQ).aH.name,H (b.getD q aQ).aH.n,.str (b.getD q aQ).aH.s,bS (b.getD q aQ).aH.ay,bS (b.getD q aQ).aH.binds,lh (b.getD q aQ).aH.au,H (b.getD q aQ).aH.pos,H (b.getD q aQ).aH.dG]) a<|.agg (.str c.name::mL g::bS j::lG c.aX::c.aH.T [])),pk,tV ⟨(Ir _),ze,((a:Int).toNat*13),Q,(a:Int).toNat,3,_,Q,jX (⟨Q,EX e⟩:_/\_),Q,(ql (eB V.aq b q<|.agg [.str (b.getD q aQ).name,.ms Uy 6 (mZ (b.getD q aQ).ae),.ms Zd 1 (zf (b.getD q aQ).key),Ur 8 (b.getD q aQ).aX,H (b.getD q aQ).aH.ah,.str (b.getD q aQ).aH.name,H (b.getD q aQ).aH.n,.str (b.getD q aQ).aH.s,bS (b.getD q aQ).aH.ay,bS (b.getD q aQ).aH.binds,lh (b.getD q aQ).aH.au,H (b.getD q aQ).aH.pos,H (b.getD q aQ).aH.dG]) a<|.agg (.str c.name::mL g::bS j::lG l::c.aH.T [])),pk,(have v:=yD i;have o:=yD k;have t:=yD m;by subst v o t;exact Hc ⟨Q,(UI ⟨(.bD (ZP (mg d))),kF⟩),.refl _,.refl _,.refl _,.refl _,wi f,tv⟩)⟩⟩⟩⟩,λa=>eA (uh e) a⟩) an2 an1 (λa b=>by rw[b,a];exact cc (D1 6 6 Q) (cc (D1 1 7 Q) (agb 2 8 Q)))<|match h with|rfl=>⟨SG,_,_,cc (ft [Y6 2 1] ⟨.refl _,tv⟩)<|cc (gv (1,3) (1,0) Q)<|cc (gv (1,4) (1,1) Q)<|cc (gv (1,6) (1,2) Q)<|cc (gv (1,7) (1,3) Q)<|cc (gv (1,8) (1,4) Q)<|dr _ _ _ _,OE,.agg<|cn zA<|cn (od (by simp)) B⟩
def WA(a:V):=some (CP (QJ a.ae) 8)
def abL{a r}(h:WA a=K r):Ad 151 [V.X a] (.bool r):=en f151<|F 0<|sT O
def aj3(a:V):=some (!CP (QJ a.ae) 8)
def awr{a r}(h:aj3 a=K r):HD 256 [V.X a,l4] [wm 151] (.bool r):=en f256<|F 1<|cU (abL (Q:WA a=some _)) B O
def aj1 d:=Lr (λ(a:Nat)(e:V)=>λ_=>(aj3 e).b λf=>F6 f a) d
def awz{f r}(h:aj1 f=K r):l3 358 [pZ f,CI] [wm 151] r:=en f358<|sT<|je h ND (λa _=>[QF 256,Kl a]) [] (λ_ _=>R9 [wm 151]) [] W [] (λ_=>R9 [wm 151]) aa I qA GD (λa _ _ _ b c _ h=>.inl ⟨λ_=>.inl<|nV b<|cG h o1 awr M λ_ h=>ER,M4⟩) Zo λ_ h=>O
def aiq a:=Ux (aj1 a)
def awy{a r}(h:aiq a=K r):HD 255 [pZ a,CI] [wm 151] (.bool r):=en f255<|cG h o1 awz M λ_ h=>O
def xe a:=E7 (aiq a)
def awA{a r}(h:xe a=K r):Ad 150 [pZ a,wm 151] (.bool r):=en f150<|F 0<|cG h H6 awy M λ_ h=>O
def Sn a d e:=Am (mK a d) (CP a e)
def WC{a b d r}(h:Sn a b d=K r):Ad 504 [.int .u8 a,.int .u8 b,.int .u8 d] (.bool r):=en f504<|jz h 4 [] 14 I E1 λ_ h=>O
def LN a:=jg (Sn a 97 122)
def Sp{a r}(h:LN a=K r):Ad 490 [.int .u8 a] (.bool r):=en f490<|S h WC λ_ h=>O
def LO(a:Int):T At:=none
def Sq{a r}(h:LO a=K r):Ad 494 [.int .u8 a] (.bool r):=en f494<|(no h)
def WD a:=(LN a).b λf=>Da f (LO a) λd=>Vq d a 95 λe=>some e
def abM{a r}(h:WD a=K r):Ad 491 [.int .u8 a] (.bool r):=en f491<|S h Sp λ_ h=>jz h 3 [0] 8 I (λh=>bI h λh=>S h Sq λ_ h=>zB) λ_ h=>jz h 3 [] 12 I E1 λ_ h=>O
def aif d:=DD (λa=>(iM (UV a d.size) (CA (jp d a) λi=>WD (i.toNat:Int)) cI).bind λe=>IA e (il (T3 a)) a) 0
def awI{b r}(h:aif b=K r):H3 475 [.str b,wm 491] r:=en f475<|lp h [0] (λa=>Wv (dF 491) 5 a) [] W [] (zi 5) [] W I I qA (λ_ _ h=>jb h 6 [0,5] (λa=>[dF 491,(16,.bool a)]) [] W I (λh=>bJ h λh=>R h λ_ a h=>⟨_,(iS a).1,(iS a).2,S h abM λ_ h=>zB⟩) λ_ h=>ES) λ_ h=>O
def Sr a:=jg (Sn a 65 90)
def WE{a r}(h:Sr a=K r):Ad 492 [.int .u8 a] (.bool r):=en f492<|S h WC λ_ h=>O
def WF a:=(LN a).b λf=>Da f (Sr a) λd=>Da d (LO a) λe=>some e
def abN{a r}(h:WF a=K r):Ad 493 [.int .u8 a] (.bool r):=en f493<|S h Sp λ_ h=>jz h 3 [0] 8 I (λh=>bI h λh=>S h WE λ_ h=>zB) λ_ h=>jz h 3 [] 12 I (λh=>bI h λh=>S h Sq λ_ h=>zB) λ_ h=>O
def aiP d:=DD (λa=>(iM (UV a d.size) (CA (jp d a) λi=>WF (i.toNat:Int)) cI).bind λe=>IA e (il (T3 a)) a) 0
def awG{b r}(h:aiP b=K r):H3 475 [.str b,wm 493] r:=en f475<|lp h [0] (λa=>Wv (dF 493) 5 a) [] W [] (zi 5) [] W I I qA (λ_ _ h=>jb h 6 [0,5] (λa=>[dF 493,(16,.bool a)]) [] W I (λh=>bJ h λh=>R h λ_ a h=>⟨_,(iS a).1,(iS a).2,S h abN λ_ h=>zB⟩) λ_ h=>ES) λ_ h=>O
def WG a:=Vq (a==9) a 10 λb=>Vq b a 13 λd=>Vq d a 32 λe=>some e
def abO{a r}(h:WG a=K r):Ad 489 [.int .u8 a] (.bool r):=en f489<|jz h 3 [0] 8 I E1 λ_ h=>jz h 3 [0] 12 I E1 λ_ h=>jz h 3 [] 16 I E1 λ_ h=>O
def WH(d:Z):T (Int×Int):=(jp d 0).b λa=>(WG (a.toNat:Int)).b λk=>VB k ((a.toNat:Int)==35) ((LN (a.toNat:Int)).b λl=>Zy l ((aif d).b λe=>gP (0<=CQ/\0<=e/\yY e d.size) (Iq (d.extract CQ.toNat e.toNat)) λm=>cN m (Vm 2 e)) (Sr (a.toNat:Int)) λf=>Zy f (fv (aiP d) λi=>(3,i)) (LO (a.toNat:Int)) λj=>VB j ((a.toNat:Int)==34) none)
def abP{d r}(h:WH d=K r):ZB 474 d (.bZ [H r.1,H r.2]):=en f474<|R h λ_ a h=>⟨_,(iS a).1,(iS a).2,.inl<|S h abO λ_ h=>bn h λh=>bn h λh=>S h Sp λ_ h=>bj h (λh=>S h awI λ_ h=>kS h λa h=>⟨a.1,a.2.1,a.2.2,S h Wp λ_ h=>bn h λh=>O⟩) λh=>S h WE λ_ h=>bj h (λh=>S h awG λ_ h=>O) λh=>S h Sq λ_ h=>Fp⟩
def WI d:=(WH d).b λa=>be (yS a.2 0) (a.1,a.2) none
def abQ{a r}(h:WI a=K r):ZB 452 a (.bZ [H r.1,H r.2]):=en f452<|S h abP λ_ h=>bw h no
def WJ a:=cN (bg a bk) (fv (WI a) λd=>(d.1,d.2==(a.size:Int)))
def abR{a r}(h:WJ a=K r):ZB 414 a (.bZ [H r.1,.bool r.2]):=en f414<|bn h λh=>S h abQ λ_ h=>O
def Bm(d:dh):=(WJ d.tC).b λa=>l5 (!a.2) (a.1 !=d.ah) λe=>cN e (Hv (a.1==2) (a.1==2) (a.1==3) λf=>be f (CP (d.tC.size:Int) 16) (VB (a.1==4) (a.1==5) none))
def anL{a r}(h:Bm a=K r):Ad 364 [dh.X a] (.bool r):=en f364<|F 0<|S h abR λ_ h=>jz h 5 [1,3] 20 I E1 λ_ h=>bn h λh=>.inl<|jn h [1,3,21] (zb 22) [] W I UR λ_ h=>bw h λh=>Fp
def LR a d:=jg (Bm (Cv a d))
def Ss{a b r}(h:LR a b=K r):Ad 263 [H a,.str b] (.bool r):=en f263<|Eo
def WL(a:af):=jg (LR 2 a.name)
def abS{a r}(h:WL a=K r):Ad 266 [af.X a] (.bool r):=en f266<|F 0<|S h Ss λ_ h=>O
def aiN a:=E7 (WL a)
def awF{a r}(h:aiN a=K r):HD 366 [af.X a,l4] [wm 266] (.bool r):=en f366<|F 1<|S h abS λ_ h=>O
def aiL d:=Lr (λ(a:Nat)(e:af)=>λ_=>(aiN e).b λf=>F6 f a) d
def awE{f r}(h:aiL f=K r):l3 163 [mL f,J8 366] [wm 266] r:=en f163<|sT<|je h ND (λa _=>[QF 366,Kl a]) [] (λ_ _=>R9 [wm 266]) [] W [] (λ_=>R9 [wm 266]) aa I qA GD (λa _ _ _ b c _ h=>.inl ⟨λ_=>.inl<|nV b<|cG h o1 awF M λ_ h=>ER,M4⟩) Zo λ_ h=>O
def ahj a:=Ux (aiL a)
def awD{a r}(h:ahj a=K r):HD 365 [mL a,J8 366] [wm 266] (.bool r):=en f365<|cG h o1 awE M λ_ h=>O
def ahB a:=E7 (ahj a)
def awC{a r}(h:ahB a=K r):Ad 265 [mL a,wm 266] (.bool r):=en f265<|F 0<|cG h H6 awD M λ_ h=>O
def WM(a:V):=(LR 2 a.name).b λe=>D5 e (ahB a.ae)
def abT{a r}(h:WM a=K r):Ad 264 [V.X a] (.bool r):=en f264<|F 0<|S h Ss λ_ h=>jb h 4 [] (zb 10) H6 W I (λh=>bJ h λh=>S h awC λ_ h=>zB) λ_ h=>O
def agW a:=E7 (WM a)
def awB{a r}(h:agW a=K r):HD 256 [V.X a,l4] [wm 264] (.bool r):=en f256<|F 1<|S h abT λ_ h=>O
def agM d:=Lr (λ(a:Nat)(e:V)=>λ_=>(agW e).b λf=>F6 f a) d
def awS{f r}(h:agM f=K r):l3 358 [pZ f,CI] [wm 264] r:=en f358<|sT<|je h ND (λa _=>[QF 256,Kl a]) [] (λ_ _=>R9 [wm 264]) [] W [] (λ_=>R9 [wm 264]) aa I qA GD (λa _ _ _ b c _ h=>.inl ⟨λ_=>.inl<|nV b<|cG h o1 awB M λ_ h=>ER,M4⟩) Zo λ_ h=>O
def ag5 a:=Ux (agM a)
def awR{a r}(h:ag5 a=K r):HD 255 [pZ a,CI] [wm 264] (.bool r):=en f255<|cG h o1 awS M λ_ h=>O
def aa0 a:=E7 (ag5 a)
def awf{a r}(h:aa0 a=K r):Ad 150 [pZ a,wm 264] (.bool r):=en f150<|F 0<|cG h H6 awR M λ_ h=>O
def L2(a:am):=n8 (bg a.name bk) (a.n==0) λd=>(D3 (a.ah==0) (a.ah==0) (CL (a.ah==1) (a.ah==1) (a.ah==2))).j λt=>RB t (Am d (nJ (gL a.ay) (Cp a.au)==0)) (a.ah==3) (n8 (a.n==0) (nJ (gL a.ay) (Cp a.au)==0) λf=>J7 f (E7 (lj [KA,KB,Kz] a.name)) λi=>D5 i (Bm (Cv 3 a.name))) (a.ah==4) (n8 d (gL a.ay==0) λl=>Am l (Cp a.au==1)) (VB (a.ah==6) (a.ah==5) none)
def St{a r}(h:L2 a=K r):Ad 376 [am.X a] (.bool r):=en f376<|F 0<|jz h 4 [1] 13 I E1 λ_ h=>.inl<|jn h [1,3,15] (zb 16) [] W I (λh _=>EW) λ_ h=>bj h (λh=>jb h 9 [] (zb 30) H6 W I Fq λ_ h=>O) λh=>bj h (λh=>jz h 9 [1] 45 I Fq λ_ h=>jz h 6 [1] 52 I (λh=>bJ h λh=>.inl<|cY h lS Zm λ_ h=>zB) λ_ h=>jb h 5 [] (zb 58) H6 W I (λh=>bJ h λh=>S h anL λ_ h=>zB) λ_ h=>O) λh=>bj h (λh=>jz h 5 [1] 67 I Zr λ_ h=>jb h 5 [] (zb 73) H6 W I Zr λ_ h=>O) λh=>Fp
def anj a f:=J7 f (jg (L2 a)) λd=>ju (cN (a.ah==6) (n8 (a.ah==5) (VX a.n) λe=>cN e Cl)) d
def awe{a b r}(h:anj a b=K r):Ac 411 [am.X a,pT 0 4,pT 0 0,pT 0 2] [cd 0 0 [.map (0,1)],((0,1),.map []),cd 0 2 [.map (0,3)],((0,3),.map [])] [cd 0 4 [.bool b]] (.bZ []) [cd 0 4 [.bool r]]:=en f411<|F 5<|jz h 3 [1,2,3,4] 11 I (λh=>bJ h λh=>S h St λ_ h=>zB) λ_ h=>jn h [] W [(1,5)] W I (λh _=>bn h λh=>jz h 4 [1,3,4] 25 I E1 λ_ h=>C6) λ_ h=>oj h▸rN ku zS
def xf:Nat->am->At->T At
 |0,_,_=>none
 |n+1,d,a=>CY (d.ah !=5) (anj d a) a λi=>mY (λ(o:Nat)(m:am)=>λk=>EJ (xf n m k)) d.au i λe=>ju (cN (d.ah==5) Cl) e
def ami:∀(n:Nat){d a r},xf n d a=K r->Ac 410 [am.X d,fN 411 [pT 0 4,pT 0 0,pT 0 2]] [cd 0 0 [.map (0,1)],((0,1),.map []),cd 0 2 [.map (0,3)],((0,3),.map [])] [cd 0 4 [.bool a]] (.bZ []) [cd 0 4 [.bool r]]
 |0,_,_,_,h=>no h
 |n+1,d,a,_,h=>en f410<|F 5<|jn h [2] (λ_=>[(1,fN 411 [pT 0 4,pT 0 0,pT 0 2])]) [] (λs=>[cd 0 4 [.bool s]]) I (λh _=>bu h λh=>cG h [(0,0),(0,1),(0,2),(0,3),(0,4)] awe M λo h=>jA h) λl h=>sT<|Bi h 15 [2,13,14] (λ_=>[(1,fN 411 [pT 0 4,pT 0 0,pT 0 2])]) [] (λs=>[cd 0 4 [.bool s]]) I qA (sq 13 Q) (λ_ m p f e b i h=>.inl ⟨λ_=>.inl<|sT ⟨_,oA e<|kh _,F 6<|cG h [(0,0),(0,1),(0,2),(0,3),(0,4)] (λh=>ami _ h) M λk h=>jA h⟩,λc=>eA b c⟩) (λf=>.inl ⟨λc=>eC c,λ_=>⟨Q,vE,In⟩⟩) λj h=>jn h [] W [(1,5)] W I (λh _=>bn h λh=>jA h) λ_ h=>oj h▸rN ku zS
def L4 a:=(xf 1000000 a true).b λd=>CZ (λ_=>jv ()) () d
def Su{a r}(h:L4 a=K r):Ad 361 [am.X a] (.bool r):=en f361<|⟨0,Q,1,Q,2,Q,3,Q,ic 4 5<|cG h [(1,3),(1,2),(1,5),(1,4),(1,1)] (λh=>ami _ h) M λ_ h=>⟨6,Q,lp h [3,4,13] W [(1,5),(1,0)] W [3] W [(1,6),(1,5),(1,4),(1,3),(1,2),(1,0)] W I I qA (λ_ _ h=>Dz) λ_ h=>Ds⟩⟩
def WN a:=jg (L4 (re 3 a))
def abU{a r}(h:WN a=K r):ZB 259 a (.bool r):=en f259<|cY h Su E9 λ_ h=>O
def WO(a:az):=jg (WN a.name)
def abV{a r}(h:WO a=K r):Ad 258 [az.X a] (.bool r):=en f258<|F 0<|S h abU λ_ h=>O
def ak2 a:=E7 (WO a)
def awq{a r}(h:ak2 a=K r):HD 360 [az.X a,l4] [wm 258] (.bool r):=en f360<|F 1<|S h abV λ_ h=>O
def ajl d:=Lr (λ(a:Nat)(e:az)=>λ_=>(ak2 e).b λf=>F6 f a) d
def awp{f r}(h:ajl f=K r):l3 374 [oP f,J8 360] [wm 258] r:=en f374<|sT<|je h ND (λa _=>[QF 360,Kl a]) [] (λ_ _=>R9 [wm 258]) [] W [] (λ_=>R9 [wm 258]) aa I qA GD (λa _ _ _ b c _ h=>.inl ⟨λ_=>.inl<|nV b<|cG h o1 awq M λ_ h=>ER,M4⟩) Zo λ_ h=>O
def ajN a:=Ux (ajl a)
def awi{a r}(h:ajN a=K r):HD 359 [oP a,J8 360] [wm 258] (.bool r):=en f359<|cG h o1 awp M λ_ h=>O
def aix a:=E7 (ajN a)
def awx{a r}(h:aix a=K r):Ad 257 [oP a,wm 258] (.bool r):=en f257<|F 0<|cG h H6 awi M λ_ h=>O
def WP(a:aG):=jg (LR 3 a.name)
def abW{a r}(h:WP a=K r):Ad 262 [aG.X a] (.bool r):=en f262<|F 0<|S h Ss λ_ h=>O
def aiu a:=E7 (WP a)
def aww{a r}(h:aiu a=K r):HD 363 [aG.X a,l4] [wm 262] (.bool r):=en f363<|F 1<|S h abW λ_ h=>O
def ait d:=Lr (λ(a:Nat)(e:aG)=>λ_=>(aiu e).b λf=>F6 f a) d
def F45{f r}(h:ait f=K r):l3 413 [ui f,J8 363] [wm 262] r:=en f413<|sT<|je h ND (λa _=>[QF 363,Kl a]) [] (λ_ _=>R9 [wm 262]) [] W [] (λ_=>R9 [wm 262]) aa I qA GD (λa _ _ _ b c _ h=>.inl ⟨λ_=>.inl<|nV b<|cG h o1 aww M λ_ h=>ER,M4⟩) Zo λ_ h=>O
def aiB a:=Ux (ait a)
def F44{a r}(h:aiB a=K r):HD 362 [ui a,J8 363] [wm 262] (.bool r):=en f362<|cG h o1 F45 M λ_ h=>O
def agV a:=E7 (aiB a)
def F43{a r}(h:agV a=K r):Ad 260 [ui a,wm 262] (.bool r):=en f260<|F 0<|cG h H6 F44 M λ_ h=>O
def Md(f:aj):=KR (λ(k:Nat)(d:az)=>λa=>l6 (a.length+d.bQ.length) 104 (a++d.bQ)) f.aT []
def Sv{d r}(h:Md d=K r):Ad 261 [aj.X d] (ui r):=en f261<|F 0<|sT<|.inr<|gc 3 7 1 Q Q Q<|zI h 9 [7,8] (λa=>[(3,akv 1 1 a)]) H6 (λa=>[alf 1 1 a]) I qA (sq 7 Q) (λ_ _ _ _ a b _ h=>.inl ⟨λ_=>.inl<|nV a<|F 2<|CT,ZC⟩) Ex λ_ h=>O
def Sw a:=(aix a.aT).b λi=>J7 i (CA (Md a) λj=>agV j) λe=>D5 e (aa0 a.an)
def abX{a r}(h:Sw a=K r):Ad 152 [aj.X a] (.bool r):=en f152<|F 0<|S h awx λ_ h=>jz h 4 [1] 10 I (λh=>bJ h λh=>S h Sv λ_ h=>S h F43 λ_ h=>zB) λ_ h=>jb h 4 [] (zb 15) H6 W I (λh=>bJ h λh=>S h awf λ_ h=>zB) λ_ h=>O
def Sx(a:af):=some a.name
def WQ{a r}(h:Sx a=K r):CB 275 [af.X a] r:=en f275<|F 0 O
def amS f:=KR (λ(k:Nat)(d:af)=>λa=>YS a.length (n9 d.name) 16 a [d.name]) f []
def F37{e r}(h:amS e=K r):Zl 274 [mL e,wm 275] r:=en f274<|sT<|.inr<|gc 5 1 0 Q Q Q<|li h [8,9] (λa b=>[dF 275,Rq 0 b,Ht 10 a]) [] (λ_ a=>Vt 0 a) [] (λa=>[Rq 0 a]) [] (λa=>Vt 0 a) aa I qA (sq 8 Q) (λ_ _ a _ b c _ h=>.inl ⟨λ_=>.inl<|nV b<|F 1<|cU (WQ (Q:Sx a=some _)) B<|Uk,M4⟩) DN λ_ h=>O
def WS(a:aD):=some a.ar
def abY{a r}(h:WS a=K r):CB 277 [aD.X a] r:=en f277<|F 0 O
def alS f:=KR (λ(k:Nat)(d:aD)=>λa=>YS a.length (n9 d.ar) 16 a [d.ar]) f []
def F34{e r}(h:alS e=K r):Zl 276 [lG e,wm 277] r:=en f276<|sT<|.inr<|gc 5 1 0 Q Q Q<|li h [8,9] (λa b=>[dF 277,Rq 0 b,Ht 10 a]) [] (λ_ a=>Vt 0 a) [] (λa=>[Rq 0 a]) [] (λa=>Vt 0 a) aa I qA (sq 8 Q) (λ_ _ a _ b c _ h=>.inl ⟨λ_=>.inl<|nV b<|F 1<|cU (abY (Q:WS a=some _)) B<|Uk,M4⟩) DN λ_ h=>O
def al7(a:U Z):=Ff (Bb.length+a.length) 16 a
def F32{a r}(h:al7 a=K r):kj 304 [J8 306] (R9 [bS a]) (.ms Rr 1 (zf r)) ([]++[EE 1 0 r]):=R h λ_ b h=>match h with|rfl=>avB (by decide+kernel) a<|ckB b
def al2 e l w:=DD (λ(i,k)=>HM (i<w) (y6 (λ(a,d)=>HM (a>l) (zF (0<=a/\a<gL e) d a λm=>zF (0<=P6 a/\P6 a<gL e) d (P6 a) λo=>(KN m o).b λp=>IA p (zF (0<=P6 a/\P6 a<gL e) d (P6 a) λf=>zF (0<=a/\a<gL e) d a λt=>zF (0<=a/\a<gL e) d a λa3=>Fd (0<=P6 a/\P6 a<gL e) (d.set a.toNat f) (P6 a) (P6 a,DU d a.toNat f (P6 a).toNat t)) d) d) (i,k) λv=>il (T3 i,v)) k) (T3 l,e)
def F15{v x z r}(h:al2 v x z=K r):Jh 428 [.ms (0,0) 1 (zf v),H x,H z] [Ww 0 v] (.bZ []) [Ww 0 r]:=en f428<|lp h [0,1,2] (λs=>[(6,H s.1)]) [] (λs=>[Ww 0 s.2]) [] W [] (λs=>[Ww 0 s]) I I qA (λ_⟨a6,a7⟩h=>bu h λh=>.inl<|lp h [0,1,2,6] (λs=>[(7,H s.1)]) [] (λs=>[Ww 0 s.2]) [0,1,2,6] W [] (λs=>[Ww 0 s]) I I qA (λ_⟨a,w⟩h=>dO ⟨E 0 13<|qt 13 1<|E 14 1 [],[],1⟩<|bi h (λh=>kS h λb h=>⟨b.1,b.2,(a.toNat*1),Q,R h λa1 l h=>⟨a.toNat,0,_,Q,(gl l Q),kS h λd h=>⟨d.1,d.2,((Vo a).toNat * 1),Q,R h λa2 m h=>⟨(Vo a).toNat,0,_,Q,(gl m Q),S h Sg λa3 h=>bu h λh=>.inl<|dO ⟨E 0 15<|qc 15 1<|E 16 1<|qt 17 1 [],[],1⟩<|kS h λe h=>⟨e.1,e.2,((Vo a).toNat * 1),Q,R h λk o h=>⟨(Vo a).toNat,0,_,Q,(gl o Q),kS h λf h=>⟨f.1,f.2,(a.toNat*1),Q,R h λa0 p h=>⟨a.toNat,0,_,Q,(gl p Q),kS h λi h=>⟨i.1,i.2,(a.toNat*1),Q,R h λa4 t h=>⟨a.toNat,0,_,Q,(gl t Q),Q,(FP (w.set a.toNat k)),(gI zA),tV<|kS h λj h=>⟨j.1,j.2,((Vo a).toNat * 1),Q,R h λa5 u h=>⟨(Vo a).toNat,0,_,Q,(gl u Q),Q,(FP (DU w a.toNat k (Vo a).toNat a0)),(gI zA),jA h⟩⟩⟩⟩⟩⟩⟩⟩⟩⟩⟩⟩) λh=>.inl ⟨nofun,λ_=>jA h⟩) λa9 h=>jA h) λa8 h=>oj h▸rN dk zS
def ajk(e:U Z)(a:Int)(d:Int)(i:Int):=y6 (λ(_:Unit)=>iM (Gi d a<=12) ((al2 e a d).b λf=>fS f) none) () Empty.elim
def F14{a b d e r}(h:ajk a b d e=K r):Jh 386 [.ms (0,0) 1 (zf a),H b,H d,H e] [Ww 0 a] (.bZ []) [Ww 0 r]:=en f386<|R h λ_ c h=>.inr<|AC eS (λ(_:Unit)=>[(0,.ms (0,0) 1 (zf a)),vT (H b),UW 2 d,UW 3 e,(8,.bool true),(9,.bool true)]) (λ(_:Unit)=>[Ww 0 a]) (λ(_:Empty)=>[]) (λ(_:Empty)=>[]) c ⟨Q,dk,Io⟩ (have f:=h;λ_ _ h=>.inl<|bj h (λh=>cG h o1 F15 M λ_ h=>OF) no) λa _=>a.elim
def WT(a:Int):T Int:=Y4 (0<=a/\a<=18446744073709551615) (Lib.bitLen a.toNat)
def abZ{b r}(h:WT b=K r):H3 437 [.int .u64 b] r:=kS h λa h=>match h with|rfl=>aeh (by decide+kernel) (λa=>Lib.bitLen a.toNat) (λa=>0<=a/\a<=18446744073709551615) (λa b c=>aap a b c.1 c.2) b a
def Mj a:=jg (WT a)
def Sy{a r}(h:Mj a=K r):H3 387 [.int .u64 a] r:=en f387<|.inl ⟨nofun,λ_=>S h abZ λ_ h=>O⟩
end Go.Ab

/- The logic of the walk. -/
import Derived.Test.YtlahelaeeahggaaGreatDoorV7
set_option linter.all false
open Go Go.RowKit
namespace Go.Ab
section
set_option maxRecDepth 100000
set_option maxHeartbeats 20000000
set_option synthInstance.maxHeartbeats 400000
set_option synthInstance.maxSize 2000
set_option linter.unusedVariables false
open Go Go.RowKit Go.Proofs
def ub{τ:Type}{f:τ->AV}(hf:∀x,FR (f x) (f x)){sz:Nat}(g h:G):(xs:amx τ)->(vs:amx Value)->VE g sz (xs.map f) vs->VE h sz (xs.map f) vs
 | [],vs,e=>by simpa only[aoO,VE]using e
 |x::xs,vs,e=>by
  simp only[amV,VE]at e |-;obtain⟨v,rest,e0,e1,e2,e3⟩:=e;exact⟨v,rest,e0,e1,hf x g h v e2,ub hf g h xs rest e3⟩
def ov(s:amx ax):AV:=match s with
 | []=>.sl 2 .eD []
 |_::rs=>.ms (1,1) 2 (rs.length+1)
instance {S:amx Nm}[lY (1,1) S](s:amx ax):UN S (ov s):=by
 cases s with
 |nil=>exact(inferInstance:UN S (.sl 2 .eD []))
 |cons _ rs=>exact(inferInstance:UN S (.ms (1,1) 2 (rs.length+1)))
def ud(p0:ah)(p1:amw):amy (amx ax):=M9 p0 p1
def zV{p0:ah}{p1:amw}{r:amx ax}(h:ud p0 p1=some r):df Tryz.prog gE 581 [ah.X p0,.an p1] [] [] (.ms (1,0) 2 (r.map ax.ak).length) ([]++[((1,0),.br 2 (r.map ax.ak))]):=
 df.gR dX Tryz.func581 rfl (by decide+kernel) rfl rfl<|⟨0,rfl,_,rl _,(have⟨x8,hx8,h⟩:=bs h;.inr (bB.wk (Wk.VW 2 1 rfl) (bB.fv dX (λi2(s:amx ax)=>[(1,.an p1),(5,ov s),(11,.sl 13 .no (p0.am.map ac.ak)),(12,.int .i64 ((p0.am.map ac.ak).length:Int)),(13,.int .i64 (i2:Int))]) (λi2(s:amx ax)=>[((1,1),.br 2 (s.map ax.ak))]) (λ(s:amx ax)=>[(5,ov s)]) (λ(s:amx ax)=>[((1,1),.br 2 (s.map ax.ak))]) hx8 ⟨rfl,⟨.refl _,trivial⟩,.refl _,nf,.refl _,.refl _,.refl _,trivial⟩ (.inl ⟨11,_,_,rfl⟩) (have ho9:=h;λi2 v3 a1 y hv4 hi5 hb6 h=>.inl ⟨λ_=>.inl ⟨_,rl _,_,nv hv4,2,rfl,_,rl _,(have⟨x17,aiv,h⟩:=bs h;.inr (bB.fv dX (λi11(s:amx ax)=>[(1,.an p1),(5,ov s),(7,.ptr (1,2) 0),(11,.sl 13 .no (p0.am.map ac.ak)),(12,.int .i64 ((p0.am.map ac.ak).length:Int)),(13,.int .i64 (i2:Int)),(18,.sl 2 .no (v3.aY.map ax.ak)),(19,.int .i64 ((v3.aY.map ax.ak).length:Int)),(20,.int .i64 (i11:Int))]) (λi11(s:amx ax)=>[((1,2),.cells (ac.C v3)),((1,1),.br 2 (s.map ax.ak))]) (λ(s:amx ax)=>[(1,.an p1),(5,ov s),(11,.sl 13 .no (p0.am.map ac.ak)),(12,.int .i64 ((p0.am.map ac.ak).length:Int)),(13,.int .i64 (i2:Int))]) (λ(s:amx ax)=>[((1,1),.br 2 (s.map ax.ak))]) aiv ⟨rfl,⟨.refl _,.refl _,trivial⟩,.refl _,.refl _,.refl _,.refl _,.refl _,.refl _,.refl _,.refl _,.refl _,trivial⟩ (.inl ⟨18,_,_,rfl⟩) (have aku:=h;λi11 v12 a10 y aiw aix aiy h=>.inl ⟨λ_=>have⟨x20,aiz,h⟩:=bs h;.inr (bB.jv dX (λ(s:amx ax)=>[(1,.an p1),(5,ov s),(7,.ptr (1,2) 0),(11,.sl 13 .no (p0.am.map ac.ak)),(12,.int .i64 ((p0.am.map ac.ak).length:Int)),(13,.int .i64 (i2:Int)),(18,.sl 2 .no (v3.aY.map ax.ak)),(19,.int .i64 ((v3.aY.map ax.ak).length:Int)),(20,.int .i64 (i11:Int))]) (λ(s:amx ax)=>[((1,2),.cells (ac.C v3)),((1,1),.br 2 (s.map ax.ak))]) (have akv:=h;have h:=aiz;.inl ⟨_,rl _,_,nv aiw,3,rfl,.inl ⟨λb22=>have h:=bt b22 h;(match a10,h with
  | [],h=>have⟨v23,af8,h⟩:=bs h;.inl ⟨N3 af8 (rm ax.ak ([]:amx ax)) (rm ax.ak ([(ax.mk v12.aw v3.name)]:amx ax)),.inr ⟨rfl,4,rfl,⟨_,oi h,⟨_,_,Wk.trans (Wk.pick [(1,.an p1),(5,.ms (1,4) 2 (0+1)),(7,.ptr (1,2) 0),(11,.sl 13 .no (p0.am.map ac.ak)),(12,.int .i64 ((p0.am.map ac.ak).length:Int)),(13,.int .i64 (i2:Int)),(18,.sl 2 .no (v3.aY.map ax.ak)),(19,.int .i64 ((v3.aY.map ax.ak).length:Int)),(20,.int .i64 (i11:Int))] ⟨.refl _,.refl _,.refl _,.refl _,.refl _,.refl _,.refl _,.refl _,.refl _,trivial⟩) (Wk.trans (Wk.nf [((1,4),.br 2 (([(ax.mk v12.aw v3.name)]:amx ax).map ax.ak)),((1,3),.cells (ax.C v12)),((1,2),.cells (ac.C v3)),((1,1),.br 2 [])] rfl) (Wk.aX (1,4) (1,1) rfl)),rfl,⟨.refl _,.refl _,trivial⟩,.refl _,.refl _,.refl _,.refl _,.refl _,.refl _,.refl _,.refl _,.refl _,trivial⟩⟩⟩⟩
  |q::qs,h=>have⟨v23,af8,h⟩:=bs h;.inl ⟨(by simp),(by simp),N3 af8 (rl _) (rm ax.ak ([(ax.mk v12.aw v3.name)]:amx ax)),4,rfl,_,rfl,⟨_,oi h,⟨_,_,Wk.trans (Wk.pick [(1,.an p1),(5,.ms (1,4) 2 (qs.length+1+1)),(7,.ptr (1,2) 0),(11,.sl 13 .no (p0.am.map ac.ak)),(12,.int .i64 ((p0.am.map ac.ak).length:Int)),(13,.int .i64 (i2:Int)),(18,.sl 2 .no (v3.aY.map ax.ak)),(19,.int .i64 ((v3.aY.map ax.ak).length:Int)),(20,.int .i64 (i11:Int))] ⟨.refl _,.refl _,.refl _,.refl _,.refl _,.refl _,.refl _,.refl _,.refl _,trivial⟩) (Wk.trans (Wk.nf [((1,4),.br 2 ((q::qs).map ax.ak++([(ax.mk v12.aw v3.name)]:amx ax).map ax.ak)),((1,3),.cells (ax.C v12)),((1,2),.cells (ac.C v3)),((1,1),.br 2 [])] rfl) (Wk.aX (1,4) (1,1) rfl)),rfl,⟨.refl _,.br (ys:=((q::qs++[(ax.mk v12.aw v3.name)]).map ax.ak)) (ap (rl _) (rm ax.ak ([(ax.mk v12.aw v3.name)]:amx ax))),trivial⟩,.refl _,mg (by simp),.refl _,.refl _,.refl _,.refl _,.refl _,.refl _,.refl _,trivial⟩⟩⟩),λb22=>have h:=bf b22 h;⟨_,oi h,Fu ⟨rfl,⟨.refl _,.refl _,trivial⟩,.refl _,.refl _,.refl _,.refl _,.refl _,.refl _,.refl _,.refl _,.refl _,trivial⟩⟩⟩⟩) (λa19 e=>have h:=jL e h;⟨_,oi h,Fu ⟨rfl,⟨.refl _,.refl _,trivial⟩,.refl _,.refl _,.refl _,.refl _,.refl _,.refl _,.refl _,.refl _,wi aiy,trivial⟩⟩)),λc=>eC aix c⟩) (λa10=>.inl ⟨λc=>eG c,λ_=>⟨rfl,⟨.refl _,trivial⟩,.refl _,.refl _,.refl _,.refl _,.refl _,trivial⟩⟩) (λc16 e=>have h:=jL e h;⟨_,oi h,Fu ⟨rfl,⟨.refl _,trivial⟩,.refl _,.refl _,.refl _,.refl _,wi hb6,trivial⟩⟩)))⟩,λc=>eC hi5 c⟩) (λa1=>.inl ⟨λc=>eG c,λ_=>⟨rfl,⟨.refl _,trivial⟩,.refl _,trivial⟩⟩) (λc7 e=>have h:=jL e h;match c7,h with
  | [],rfl=>⟨.inr rfl,_,_,Wk.trans (Wk.pick [(4,.sl 2 .eD [])] ⟨.refl _,trivial⟩) (Wk.trans (Wk.Lk 4 2 2 rfl rfl) (Wk.trans (Wk.aX (1,2) (1,0) rfl) (Wk.refl _ _ _ _))),⟨.refl _,trivial⟩,.refl _⟩
  |q::qs,rfl=>⟨.inr rfl,_,_,Wk.trans (Wk.pick [(4,.ms (1,1) 2 (qs.length+1))] ⟨.refl _,trivial⟩) (Wk.trans (Wk.aX (1,1) (1,0) rfl) (Wk.refl _ _ _ _)),⟨.refl _,trivial⟩,mg (by simp)⟩))))⟩
end
end Go.Ab

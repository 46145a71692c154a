/- The logic of the walk. -/
import Derived.Test.YtoknehglgeiopaaGreatDoorV2
set_option linter.all false
open Go Go.RowKit
namespace Go.Ab
section
set_option maxRecDepth 100000
set_option maxHeartbeats 20000000
set_option synthInstance.maxHeartbeats 400000
set_option synthInstance.maxSize 2000
open Go Go.RowKit Go.Proofs
def zU{y f}(z:∀x,FR (f x) (f x)){sz}g h:∀(xs:U y)vs,VE g sz (xs.map f) vs->VE h sz (xs.map f) vs
 | [],vs,e=>by simpa only[Lb,VE]using e
 |x::xs,vs,e=>by
  simp only[Hx,VE]at e |-;obtain⟨v,rest,e0,e1,e2,e3⟩:=e;exact⟨v,rest,e0,e1,z x g h v e2,zU z g h xs rest e3⟩
def ov(s:U aD):G:=match s with
 | []=>.sl 2 .fu []
 |_::rs=>.ms (1,1) 2 (rs.length+1)
instance {S}[pf (1,1) S]s:UN S (ov s):=by
 cases s with
 |nil=>exact(inferInstance:UN S (.sl 2 .fu []))
 |cons _ rs=>exact(inferInstance:UN S (.ms (1,1) 2 (rs.length+1)))
def zV(p0:aj)(x:Z):T (U aD):=Ta p0 x
def ani{p0 b r}(h:zV p0 b=some r):dB Tryz.prog gE 593 [aj.X p0,.str b] [] [] (.ms (1,0) 2 (r.map aD.aq).length) ([]++[((1,0),.bD 2 (r.map aD.aq))]):=
 lR eS Tryz.func593 rfl E3 rfl rfl<|⟨0,rfl,_,rl _,(have⟨x8,k,h⟩:=bs h;.inr (br.wk (aei 2 1 rfl) (A2 eS (λd(s:U aD)=>[(1,.str b),(5,ov s),(11,.sl 13 .no (p0.an.map V.aq)),(12,.int .i64 ((p0.an.map V.aq).length:Int)),(13,.int .i64 (d:Int))]) (λd(s:U aD)=>[((1,1),.bD 2 (s.map aD.aq))]) (λ(s:U aD)=>[(5,ov s)]) (λ(s:U aD)=>[((1,1),.bD 2 (s.map aD.aq))]) k ⟨rfl,⟨.refl _,trivial⟩,.refl _,nf,.refl _,.refl _,.refl _,trivial⟩ (.inl ⟨11,_,_,rfl⟩) (have A:=h;λd x D y l m n h=>.inl ⟨λ_=>.inl ⟨_,rl _,_,nv l,2,rfl,_,rl _,(have⟨K,o,h⟩:=bs h;.inr (A2 eS (λa(s:U aD)=>[(1,.str b),(5,ov s),(7,.eU (1,2) 0),(11,.sl 13 .no (p0.an.map V.aq)),(12,.int .i64 ((p0.an.map V.aq).length:Int)),(13,.int .i64 (d:Int)),(18,.sl 2 .no (x.aX.map aD.aq)),(19,.int .i64 ((x.aX.map aD.aq).length:Int)),(20,.int .i64 (a:Int))]) (λa(s:U aD)=>[((1,2),.cells (V.C x)),((1,1),.bD 2 (s.map aD.aq))]) (λ(s:U aD)=>[(1,.str b),(5,ov s),(11,.sl 13 .no (p0.an.map V.aq)),(12,.int .i64 ((p0.an.map V.aq).length:Int)),(13,.int .i64 (d:Int))]) (λ(s:U aD)=>[((1,1),.bD 2 (s.map aD.aq))]) o ⟨rfl,⟨.refl _,.refl _,trivial⟩,.refl _,.refl _,.refl _,.refl _,.refl _,.refl _,.refl _,.refl _,.refl _,trivial⟩ (.inl ⟨18,_,_,rfl⟩) (have L:=h;λa z i y p t u h=>.inl ⟨λ_=>have⟨N,v,h⟩:=bs h;.inr (aga eS (λ(s:U aD)=>[(1,.str b),(5,ov s),(7,.eU (1,2) 0),(11,.sl 13 .no (p0.an.map V.aq)),(12,.int .i64 ((p0.an.map V.aq).length:Int)),(13,.int .i64 (d:Int)),(18,.sl 2 .no (x.aX.map aD.aq)),(19,.int .i64 ((x.aX.map aD.aq).length:Int)),(20,.int .i64 (a:Int))]) (λ(s:U aD)=>[((1,2),.cells (V.C x)),((1,1),.bD 2 (s.map aD.aq))]) (have P:=h;have h:=v;.inl ⟨_,rl _,_,nv p,3,rfl,.inl ⟨λf=>have h:=bt f h;(match i,h with
  | [],h=>have⟨w,g,h⟩:=bs h;.inl ⟨UY g (rm aD.aq ([]:U aD)) (rm aD.aq ([(aD.mk z.ar x.name)]:U aD)),.inr ⟨rfl,4,rfl,⟨_,oi h,⟨_,_,cc (ft [(1,.str b),(5,.ms (1,4) 2 (0+1)),(7,.eU (1,2) 0),(11,.sl 13 .no (p0.an.map V.aq)),(12,.int .i64 ((p0.an.map V.aq).length:Int)),(13,.int .i64 (d:Int)),(18,.sl 2 .no (x.aX.map aD.aq)),(19,.int .i64 ((x.aX.map aD.aq).length:Int)),(20,.int .i64 (a:Int))] ⟨.refl _,.refl _,.refl _,.refl _,.refl _,.refl _,.refl _,.refl _,.refl _,trivial⟩) (cc (ll [((1,4),.bD 2 (([(aD.mk z.ar x.name)]:U aD).map aD.aq)),((1,3),.cells (aD.C z)),((1,2),.cells (V.C x)),((1,1),.bD 2 [])] rfl) (gv (1,4) (1,1) rfl)),rfl,⟨.refl _,.refl _,trivial⟩,.refl _,.refl _,.refl _,.refl _,.refl _,.refl _,.refl _,.refl _,.refl _,trivial⟩⟩⟩⟩
  |q::j,h=>have⟨w,g,h⟩:=bs h;.inl ⟨NP,NP,UY g (rl _) (rm aD.aq ([(aD.mk z.ar x.name)]:U aD)),4,rfl,_,rfl,⟨_,oi h,⟨_,_,cc (ft [(1,.str b),(5,.ms (1,4) 2 (j.length+1+1)),(7,.eU (1,2) 0),(11,.sl 13 .no (p0.an.map V.aq)),(12,.int .i64 ((p0.an.map V.aq).length:Int)),(13,.int .i64 (d:Int)),(18,.sl 2 .no (x.aX.map aD.aq)),(19,.int .i64 ((x.aX.map aD.aq).length:Int)),(20,.int .i64 (a:Int))] ⟨.refl _,.refl _,.refl _,.refl _,.refl _,.refl _,.refl _,.refl _,.refl _,trivial⟩) (cc (ll [((1,4),.bD 2 ((q::j).map aD.aq++([(aD.mk z.ar x.name)]:U aD).map aD.aq)),((1,3),.cells (aD.C z)),((1,2),.cells (V.C x)),((1,1),.bD 2 [])] rfl) (gv (1,4) (1,1) rfl)),rfl,⟨.refl _,.bD (ys:=((q::j++[(aD.mk z.ar x.name)]).map aD.aq)) (ap (rl _) (rm aD.aq ([(aD.mk z.ar x.name)]:U aD))),trivial⟩,.refl _,od NP,.refl _,.refl _,.refl _,.refl _,.refl _,.refl _,.refl _,trivial⟩⟩⟩),λf=>have h:=bf f h;⟨_,oi h,Hc ⟨rfl,⟨.refl _,.refl _,trivial⟩,.refl _,.refl _,.refl _,.refl _,.refl _,.refl _,.refl _,.refl _,.refl _,trivial⟩⟩⟩⟩) (λQ e=>have h:=jL e h;⟨_,oi h,Hc ⟨rfl,⟨.refl _,.refl _,trivial⟩,.refl _,.refl _,.refl _,.refl _,.refl _,.refl _,.refl _,.refl _,wi u,trivial⟩⟩)),λc=>eA t c⟩) (λi=>.inl ⟨λc=>eC c,λ_=>⟨rfl,⟨.refl _,trivial⟩,.refl _,.refl _,.refl _,.refl _,.refl _,trivial⟩⟩) (λc16 e=>have h:=jL e h;⟨_,oi h,Hc ⟨rfl,⟨.refl _,trivial⟩,.refl _,.refl _,.refl _,.refl _,wi n,trivial⟩⟩)))⟩,λc=>eA m c⟩) (λD=>.inl ⟨λc=>eC c,λ_=>⟨rfl,⟨.refl _,trivial⟩,.refl _,trivial⟩⟩) (λc7 e=>have h:=jL e h;match c7,h with
  | [],rfl=>⟨.inr rfl,_,_,cc (ft [(4,.sl 2 .fu [])] ⟨.refl _,trivial⟩) (cc (qw 4 2 2 rfl rfl) (cc (gv (1,2) (1,0) rfl) (dr _ _ _ _))),⟨.refl _,trivial⟩,.refl _⟩
  |q::j,rfl=>⟨.inr rfl,_,_,cc (ft [(4,.ms (1,1) 2 (j.length+1))] ⟨.refl _,trivial⟩) (cc (gv (1,1) (1,0) rfl) (dr _ _ _ _)),⟨.refl _,trivial⟩,od NP⟩))))⟩
end
end Go.Ab

/- The logic of the walk. -/
import Derived.LoopIn
import Derived.LoopNIn
import Derived.Maps.AppendAt
import Derived.Maps.RangeWalk
import Derived.OwnWalkIn
import Derived.RangeFuncBox
import Derived.RangeFuncGives
import Derived.RangeFuncLeaves
import Derived.Shelf.Abstract
import Derived.TacticsInMore
import Derived.WalkKit
import Derived.Test.YtlahelaeeahggaaGreatDoorA12
set_option linter.all false
open Go Go.RowKit
namespace Go.Ab
section
variable {P:Program}{ge:GE}{N b:Nat}{tm:Tm}{l:HL}{ti:Nat->amy TE}
def mg{j:Nm}{sz n n':Nat}(h:n'=n):Sub (.ms j sz n) (.ms j sz n'):=h▸ .refl _
def qb{q:Nm}{sz i:Nat}{xs:amx AV}(hq:lk l q=some (.br sz xs)){g:G}{fr:Hp}{w:World}(fi:uC 1 fr)(r:eW g w (aM l) fr)(hi:i<=xs.length)
 {a:amy Addr} {cap:Nat} (ha:xs≠ []->a=(g.tl q).a/\cap=(g.tl q).cap) (hcap:i<=cap/\i<=4611686018427387904) (acU:a=none->cap=0) (acv:∀x∈a,x.spot=none):
 ∃g',G.Le g g'/\eW g' w (aM (((1,nx 0 l),.br sz (xs.take i))::cR q (.br sz []) l)) fr/\V g' (.ms (1,nx 0 l) sz i) (.slice a i cap):=by
 have hn:=fR l 0 1 _ (amW _);rw[<-cz]at hq;have hne:=bX hn (kU fi _);obtain⟨g1,l1,r1,v1⟩:=r.rel.qI (aH hq) hne hi ha hcap acU acv;have hn2:aM (cR q (.br sz []) l) (1,nx 0 l)=none:=by
  rw[<-bm,aT _ _ (λe=>by rw[e]at hn;rw[hn]at hq;simp at hq)];exact hn
 rw[bp,bp,bm,be hn2]at r1;refine⟨g1,l1,⟨r1,?_⟩,v1⟩;rw[<-be hn2,<-bm];exact(r.cw.fE hq).cE (kU fi _)
def Wk.CI(t m:Nat){q:Nm}{sz i n:Nat}{xs:amx AV}(h:get tm t= .sub q sz 0 i n)(hq:lk l q=some (.br sz xs))(hn:xs.length=n)(hm:nx 0 l=m):
 Wk 1 N tm (aM l) ((t,.ms (1,m) sz i)::tm) (aM (((1,m),.br sz (xs.take i))::cR q (.br sz []) l)):=by
 subst hm hn;intro g fr w tmps fi r v;have hv:=v.2 t;rw[h]at hv;simp only[V]at hv;obtain⟨d,p1,p2,a,cap,e1,hc,hnn,ha,acv,q1,q2⟩:=hv;have hq':=hq;rw[<-cz]at hq';obtain⟨g1,l1,r1,v1⟩:=qb hq fi r (i:=i) (by omega) (a:=a) (cap:=cap) (λhne=>by
  obtain⟨_,_,_,_,_,_,o4,_⟩:=r.rel.eP q _ (aH hq') hne;exact q2 o4 trivial) ⟨hc.1,by omega⟩ hnn acv
 refine⟨g1,l1.some _,r1,v.1,λk=>?_⟩;rw[eV];split
 ·rename_i e;subst e;rw[e1];exact v1
 ·exact V.mono l1 _ _ (v.2 k)
def Wk.qd(t m:Nat){q:Nm}{sz n:Nat}{xs:amx AV}(h:get tm t= .ms q sz n)(hq:lk l q=some (.br sz xs))(hn:xs.length=n)(hm:nx 0 l=m):
 Wk 1 N tm (aM l) ((t,.ms (1,m) sz n)::tm) (aM (((1,m),.br sz (xs.take n))::cR q (.br sz []) l)):=by
 subst hm hn;intro g fr w tmps fi r v;have hv:=v.2 t;rw[h]at hv;simp only[V]at hv;obtain⟨d,a,cap,e1,hc,hnn,ha,acv,_,p2,q2⟩:=hv;have hq':=hq;rw[<-cz]at hq';obtain⟨g1,l1,r1,v1⟩:=qb hq fi r (i:=xs.length) (amW _) (a:=a) (cap:=cap) (λhne=>by
  obtain⟨_,_,_,_,_,_,o4,_⟩:=r.rel.eP q _ (aH hq') hne;exact q2 o4) hc hnn acv
 refine⟨g1,l1.some _,r1,v.1,λk=>?_⟩;rw[eV];split
 ·rename_i e;subst e;rw[e1];exact v1
 ·exact V.mono l1 _ _ (v.2 k)
def tI(a c:Nm)(q:Nm)(o:bk):(l:HL)->(cR q o l).map (λp=>(swap a c p.1,p.2.aX (swap a c)))=cR (swap a c q) (o.aX (swap a c)) (l.map (λp=>(swap a c p.1,p.2.aX (swap a c))))
 | []=>rfl
 |(i,p)::l=>by
  by_cases e:i=q
  ·subst e;simp[cR]
  ·have e':swap a c i≠swap a c q:=λh=>e (by rw[<-gm a c i,h,gm])
   simp[cR,e,e',tI a c q o l]
section
set_option linter.unusedVariables false
instance (a c q:Nm)(o o':bk)(l l':HL)[h:N4 a c o o'][r:N5 a c l l']:N5 a c (cR q o l) (cR (Kj a c q) o' l'):=⟨by rw[tI,h.out,r.out,mW]⟩
instance (S:amx Nm)(n:Nat)(xs:amx AV)[h:dM S xs]:dM S (xs.take n):=⟨dQ.2 λy hy=>dQ.1 h.out y (anX hy)⟩
end
def jq{α:Type}(f:α->AV){xs:amx α}{sz:Nat}(e:xs.map f=[]):iL (.br sz []) (.br sz (xs.map f)):=e▸ .refl _
def iz{α:Type}(f:α->AV){xs:amx α}{sz:Nat}{j:Nm}(e:xs.map f=[]):Sub (.ms j sz 0) (.ms j sz ((xs.map f).length)):=by rw[e];exact .refl _
def LA{n w:Nat}{u:Unit}(h:ck n w=some u):n*w<=140737488355328:=by
 unfold ck at h
 grind
def eJ{α:Type}(f:α->AV)(xs:amx α)(n:Nat):bC ((xs.map f).take n) ((xs.take n).map f):=by rw[List.map_take];exact .refl _
def tJ{x y:AV}(h:Sub x y):(n:Nat)->{xs ys:amx AV}->bC xs ys->bC (List.replicate n x++xs) (List.replicate n y++ys)
 |0,_,_,k=>k
 |n+1,_,_,k=>.cons h (tJ h n k)
def tK:(zs:amx AV)->{xs ys:amx AV}->bC xs ys->bC (zs++xs) (zs++ys)
 | [],_,_,k=>k
 |z::zs,_,_,k=>.cons (.refl z) (tK zs k)
def CJ{α:Type}{f:α->AV}{xs:amx α}{lo n:Nat}{zx:AV}{z:α}(h:Sub zx (f z)):
 bC ((xs.map f).take lo++List.replicate n zx++(xs.map f).drop (lo+n)) ((xs.take lo++List.replicate n z++xs.drop (lo+n)).map f):=by
 simp only[amY,List.map_take,List.map_drop,List.map_replicate,aoy];exact tK _ (tJ h n (.refl _))
def UG{α:Type}(f:α->AV)(xs:amx α)(i lo m:Nat):(xs.map f).take i++((xs.map f).drop lo).take m++(xs.map f).drop (i+m)=(xs.take i++(xs.drop lo).take m++xs.drop (i+m)).map f:=by simp
end
end Go.Ab
namespace Go.Proofs
section
open Go.RowKit Go.Maps Go.Shelf
attribute [local go_sem] Oper.semAt_some
set_option maxRecDepth 100000 in
set_option maxHeartbeats 4000000 in
def Tryz.u7 (F:Fence) (n:Nat) (h7:F.fn 377) (hro:F.round=none) (hn:1<=n) (l Bs n₀ b off cap:Nat) (zs:List ByteArray) (hreach:zs.length*16<=140737488355328) (hb:b<n₀) (J:List ByteArray->World->Prop)
 (hY:∀pre x W,J pre W->pre.length<zs.length->YieldAt F (n - 1) Tryz.prog l #[.string x] W λe W'=>e= .returned (.bool true)/\J (pre++[x]) W'/\Below n₀ W W')
 (W:World) (hBs:W.cell? ⟨Bs,0,none⟩=some (.slice (some ⟨b,off,none⟩) zs.length cap)) (hc:∀j,(h:j<zs.length)->W.cell? ⟨b,off+j,none⟩=some (.string zs[j])) (h0:J [] W):
 CallsIn F n Tryz.prog 377 #[.func (.yield l) #[] #[],.pointer (some ⟨Bs,0,none⟩)] W λe W'=>(∃v,e= .returned v)/\J zs W':=by
 refine callsIn_of_wp Tryz.func377 rfl h7 ?_ hro;simp only[Tryz.ntmps377,List.size_toArray,List.length_cons,List.length_nil,Nat.reduceAdd,Nat.reduceSub,Array.replicate_succ,Array.replicate_zero,List.push_toArray,List.append_toArray,List.nil_append,List.cons_append]
 gi_wp2
 gi_loopw [7] (λi wr=>∃k:Nat,k<=zs.length/\i= .int .i64 k/\J (zs.take k) wr/\Below n₀ W wr)
  (λi _=>zs.length - (intOf i).toNat)
 case atStart=>exact⟨0,Nat.zero_le _,rfl,h0,Below.refl _ _⟩
 case round=>
  obtain⟨k,hk,rfl,hJs,hnx⟩:=hrel;have hcx:(h:k<zs.length)->wr.cell? ⟨b,off+k,none⟩=some (.string zs[k]):=λh=>(hnx.cell (p:=⟨b,off+k,none⟩) hb).trans (hc k h)
  by_cases hlt:k<zs.length
  ·obtain⟨fn,tmps,assign,body,hy,hR⟩:=hY _ zs[k] wr hJs (by rw[List.length_take];omega);have hcx':=hcx hlt
   gi_wp2
   refine hR.mono ?_;rintro e W3 ⟨rfl,hJ3,hk3⟩
   gi_wp2
   go_roundw
   case rel=>exact⟨k+1,by omega,by simp,by
    have:zs.take (k+1)=zs.take k++[zs[k]]:=List.take_succ_eq_append_getElem hlt;rw[this];exact hJ3,hnx.trans hk3⟩
   case measure=>simp[intOf];omega
  ·obtain rfl:k=zs.length:=by omega
   gi_wp2
   go_end0
   exact⟨⟨_,rfl⟩,by simpa using hJs⟩
set_option maxRecDepth 100000 in
set_option maxHeartbeats 1000000 in
def Tryz.oY (F:Fence) (n:Nat) (h7:F.fn 377) (hro:F.round=none) (l Bs cap:Nat) (a:Option Addr) (J:List ByteArray->World->Prop) (W:World) (hBs:W.cell? ⟨Bs,0,none⟩=some (.slice a 0 cap)) (h0:J [] W):
 CallsIn F n Tryz.prog 377 #[.func (.yield l) #[] #[],.pointer (some ⟨Bs,0,none⟩)] W λe W'=>(∃v,e= .returned v)/\J [] W':=by
 refine callsIn_of_wp Tryz.func377 rfl h7 ?_ hro;simp only[Tryz.ntmps377,List.size_toArray,List.length_cons,List.length_nil,Nat.reduceAdd,Nat.reduceSub,Array.replicate_succ,Array.replicate_zero,List.push_toArray,List.append_toArray,List.nil_append,List.cons_append]
 gi_wp2
 gi_loopw [7] (λi wr=>i= .int .i64 0/\J [] wr) (λ_ _=>0)
 case atStart=>exact⟨rfl,h0⟩
 case round=>
  obtain⟨rfl,hJs⟩:=hrel
  gi_wp2
  go_end0
  grind
def oZ:Code:=(Code.region 2 #[{dst:=some 5,op:=Op.assign (Operand.tmp 7),type:=9,pos:= "iter.go:51",after:=#[],guard:=none}] false)
def u9:Code:=(Code.block 1 (Code.region 3 #[{dst:=some 8,op:=Op.load 30 (Operand.tmp 2),type:=30,pos:= "iter.go:52",after:=#[],guard:=none},{dst:=some 9,op:=Op.move (Operand.tmp 5),type:=9,pos:= "iter.go:52",after:=#[],guard:=none},{dst:=some 10,op:=Op.buildSlice 30 1 #[(0,Operand.tmp 9)],type:=30,pos:= "iter.go:52",after:=#[{on:=1,ground:=Ground.data}],guard:=none},{dst:=some 11,op:=Op.call {callee:=Callee.builtin Builtin.append,args:=#[Operand.tmp 8,Operand.tmp 10],argTypes:=#[30,30]},type:=30,pos:= "iter.go:52",after:=#[{on:=0,ground:=Ground.data},{on:=2,ground:=Ground.data}],guard:=none},{dst:=none,op:=Op.store 30 (Operand.tmp 2) (Operand.tmp 11),type:=0,pos:= "iter.go:52",after:=#[{on:=3,ground:=Ground.data},{on:=3,ground:=Ground.chain},{on:=0,ground:=Ground.phase},{on:=1,ground:=Ground.phase},{on:=2,ground:=Ground.phase},{on:=3,ground:=Ground.phase}],guard:=none}] false))
def ky(fn:FuncId)(sv:Value)(Bs D:Nat)(st:LoopState)(pend:Option Code):Loop:={state:=st,pending:=pend,fn,tmps:=#[.slice none 0 0,sv,.pointer (some ⟨Bs,0,none⟩),undef,.slice none 0 0,undef,sv,undef,undef,undef,undef,undef,undef],params:=#[7],assign:=oZ,body:=u9,defers:=D}
structure E2(w0:World)(fn:FuncId)(sv:Value)(Bs l D:Nat)(ss:List ByteArray)(W:World):Prop where
 box:∃v,W.heap[Bs]?=some (.cells #[v] 30 (0,0))/\W.ownsRow w0.heap.size 9 1 v ss.length (ss.map Value.string)/\(v= .slice none 0 0↔ss=[])
 L:W.heap[l]?=some (.loop (ky fn sv Bs D .ready none))
 K:W.heap[D]?=some (.deferred (some []))
 below:Below w0.heap.size w0 W
def dp(W:World)(l:Nat)(o:Obj):W.grownBy (W.putObj l o) (some l):=⟨rfl,rfl,rfl,by simp,λk _ hk=>World.putObj_heap_other (λe=>hk (by rw[e]))⟩
def mX(W:World)(b:Nat)(v:Value):W.grownBy (W.setCell ⟨b,0,none⟩ v) (some b):=⟨rfl,rfl,rfl,(KeepsWalks.setCell W _ v).size,λk _ hk=>Below.heap_setCell _ _ _ k (λe=>hk (by rw[e]))⟩
def gu{W:World}{cj:Nat}{e:TypeId}{size:Nat}{v:Value}{k:Nat}{xs:List Value}(h:W.ownsRow cj e size v k xs){j:Nat}{o:Obj}(hj:W.heap[j]?=some o)(hno:∀cur,o≠ .cells cur e (0,0)):
 v.ownBlock=none\/v.ownBlock≠some j:=by
 rcases h.2 with⟨rfl,_⟩|⟨g,cap,cur,rfl,_,hgb,_⟩
 ·exact .inl rfl
 ·refine .inr λe'=>?_
  grind [Value.ownBlock,grind]
def jQ{W:World}{B:Nat}{v:Value}{t:TypeId}(h:W.heap[B]?=some (.cells #[v] t (0,0))):W.cell? ⟨B,0,none⟩=some v/\W.frozen? ⟨B,0,none⟩=false:=by
 constructor<;>simp[World.cell?,World.frozen?,h]
def mh{W:World}{B:Nat}{v:Value}{t:TypeId}(v':Value)(h:W.heap[B]?=some (.cells #[v] t (0,0))):(W.setCell ⟨B,0,none⟩ v').heap[B]?=some (.cells #[v'] t (0,0)):=by
 obtain⟨hlt,hk⟩:=Array.getElem?_eq_some_iff.1 h
 show(W.heap.modify B _)[B]?=_
 grind
def Tryz.LB:(Tryz.prog.info? 9).map (λi=>(i.zero,i.size,i.bytes))=some (some (.string ⟨#[]⟩),1,16):=by kernel_rfl
set_option maxRecDepth 100000 in
set_option maxHeartbeats 4000000 in
def Tryz.E3 (F:Fence) (m:Nat) (w0:World) (fn:FuncId) (hfn:F.fn fn) (sv:Value) (Bs l D:Nat) (hBl:Bs≠l) (hDl:D≠l) (hDB:D≠Bs) (h0B:w0.heap.size<=Bs) (h0l:w0.heap.size<=l)
 (N:Nat) (hN:N<=maxLen) (hNb:N*16<=140737488355328) (ss:List ByteArray) (x:ByteArray) (W:World) (h:E2 w0 fn sv Bs l D ss W) (hlen:ss.length<N):
 YieldAt F m Tryz.prog l #[.string x] W λe W'=>e= .returned (.bool true)/\E2 w0 fn sv Bs l D (ss++[x]) W'/\Below w0.heap.size W W':=by
 obtain⟨i0,hi,hz0,hz1,hz2⟩:=info_parts Tryz.LB;obtain⟨v,hv,hrow,_⟩:=h.box;refine⟨fn,#[.slice none 0 0,sv,.pointer (some ⟨Bs,0,none⟩),undef,.slice none 0 0,undef,sv,.string x,undef,undef,undef,undef,undef],oZ,u9,by simpa[ky]using run_yield (P:=Tryz.prog) (args:=#[.string x]) h.L rfl,roundIn_of_wpIn hfn ?_⟩;have hl:l<W.heap.size:=(Array.getElem?_eq_some_iff.1 h.L).1;have hbr:=run_beginRound (P:=Tryz.prog) h.L rfl;obtain⟨W2,hW2⟩:∃W2,W.putObj l (.loop {ky fn sv Bs D .ready none with state:=.busy})=W2:=⟨_,rfl⟩;rw[hW2]at hbr;have hg2:W.grownBy W2 (some l):=by rw[<-hW2];exact dp _ _ _
 have hv2:W2.heap[Bs]?=some (.cells #[v] 30 (0,0)):=by rw[<-hW2];exact(World.putObj_heap_other hBl).trans hv
 have hK2:W2.heap[D]?=some (.deferred (some [])):=by rw[<-hW2];exact(World.putObj_heap_other hDl).trans h.K
 have hL2:W2.heap[l]?=some (.loop {ky fn sv Bs D .ready none with state:=.busy}):=by rw[<-hW2];exact World.putObj_heap_same hl
 have hrow2:W2.ownsRow w0.heap.size 9 1 v ss.length (ss.map Value.string):=hrow.kept hg2 (gu hrow h.L (λcur e=>by cases e));have hWs:=h.below.size;have hbW2:Below w0.heap.size W W2:=(Below.refl _ W).grown hg2 hWs (λk e=>by cases e;exact h0l);have hb2:Below w0.heap.size w0 W2:=h.below.trans hbW2;obtain⟨hc2,hf2⟩:=jQ hv2;have hBlt:Bs<W2.heap.size:=(Array.getElem?_eq_some_iff.1 hv2).1;have hl2:l<W2.heap.size:=(Array.getElem?_eq_some_iff.1 hL2).1;have hDlt:D<W2.heap.size:=(Array.getElem?_eq_some_iff.1 hK2).1;have ne_of:∀{j:Nat}{o:Obj},W2.heap[j]?=some o->(∀cur,o≠ .cells cur 9 (0,0))->some j≠v.ownBlock:=λhj hno=>by
  rcases gu hrow2 hj hno with e|e
  ·rw[e];simp
  grind
 clear hW2;unfold oZ
 gi_wp2_with (rw[Oper.semAt_eq _ _ _ (λc h=>by cases h)];go_simp;try go_bits)
 unfold u9
 gi_wp2_with (first
  |(
   gi_at_builtin;refine wpListIn_append_own _ rfl _ _ 30 rfl w0.heap.size 9 i0 (.string ⟨#[]⟩) 1 16 Tryz.underlying30 hi hz0 hz1 hz2 rfl (by decide) _ _ _ rfl (hrow2.alloc _) ⟨W2.heap.size,0,none⟩ 1 1 [Value.string x] rfl rfl (cell_one_new _ _ _) (by simp[Value.oneCell']) (by omega) (by omega) (by have:=hb2.size;simp;omega) ?_;intro v' w3 hown' hg3 hnil3
   have hv3:w3.heap[Bs]?=some (.cells #[v] 30 (0,0)):=(hg3.block Bs (by simp;omega) (ne_of hv2 (λcur e=>by cases e))).trans ((Below.heap_alloc _ _ Bs hBlt).trans hv2);obtain⟨hc3,hf3⟩:=jQ hv3;obtain⟨g',cap',cur',rfl,hbase',hgb',hr1,hr2,hr3,hr4⟩:∃g' cap' cur',v'= .slice (some ⟨g',0,none⟩) (ss.length+1) cap'/\w0.heap.size<=g'/\w3.heap[g']?=some (.cells cur' 9 (0,0))/\ss.length+1<=cap'/\cap'<=maxLen/\cur'.size=cap'*1/\cur'.toList.take ((ss.length+1)*1)=ss.map Value.string++[Value.string x]:=by
    rcases hown'.2 with⟨_,h0⟩|h'
    ·exact absurd h0 (by omega)
    ·exact h'
   go_frame)
  |(rw[Oper.semAt_eq _ _ _ (λc h=>by cases h)];go_simp;try go_bits))
 have hg3':(W2.alloc (.cells #[Value.string x] 9)).grownBy w3 v.ownBlock:=hg3;have hL3:w3.heap[l]?=some (.loop {ky fn sv Bs D .ready none with state:=.busy}):=(hg3'.block l (by simp;omega) (ne_of hL2 (λcur e=>by cases e))).trans ((Below.heap_alloc _ _ l hl2).trans hL2);have hK3:w3.heap[D]?=some (.deferred (some [])):=(hg3'.block D (by simp;omega) (ne_of hK2 (λcur e=>by cases e))).trans ((Below.heap_alloc _ _ D hDlt).trans hK2);obtain⟨w4,hw4⟩:∃w4,w3.setCell ⟨Bs,0,none⟩ (.slice (some ⟨g',0,none⟩) (ss.length+1) cap')=w4:=⟨_,rfl⟩;rw[hw4];have hg4:w3.grownBy w4 (some Bs):=by rw[<-hw4];exact mX _ _ _
 have hv4:w4.heap[Bs]?=some (.cells #[.slice (some ⟨g',0,none⟩) (ss.length+1) cap'] 30 (0,0)):=by rw[<-hw4];exact mh _ hv3
 have hL4:w4.heap[l]?=some (.loop {ky fn sv Bs D .ready none with state:=.busy}):=(hg4.block l (Array.getElem?_eq_some_iff.1 hL3).1 (λe=>hBl (by cases e;rfl))).trans hL3;have hK4:w4.heap[D]?=some (.deferred (some [])):=(hg4.block D (Array.getElem?_eq_some_iff.1 hK3).1 (λe=>hDB (by cases e;rfl))).trans hK3;have hrow4:=hown'.kept hg4 (gu hown' hv3 (λcur e=>by cases e));have hl4:l<w4.heap.size:=(Array.getElem?_eq_some_iff.1 hL4).1;have hb3:Below w0.heap.size W w3:=(hbW2.alloc hb2.size _).grown hg3' (by have:=hb2.size;simp;omega) (λk e=>(hrow2.lt k e).1);have hb3s:w0.heap.size<=w3.heap.size:=(h.below.trans hb3).size;have hb4:Below w0.heap.size W w4:=hb3.grown hg4 hb3s (λk e=>by cases e;exact h0B);have hb4s:w0.heap.size<=w4.heap.size:=(h.below.trans hb4).size;clear hw4;have hb5:∀o,Below w0.heap.size W (w4.putObj l o):=λo=>hb4.grown (dp _ _ _) hb4s (λk e=>by cases e;exact h0l)
 refine⟨_,_,run_endRound none hL4,rfl,⟨⟨_,(World.putObj_heap_other hBl).trans hv4,?_,by simp⟩,World.putObj_heap_same hl4,(World.putObj_heap_other hDl).trans hK4,h.below.trans (hb5 _)⟩,hb5 _⟩;have:=hrow4.kept (dp w4 l (.loop {{ky fn sv Bs D .ready none with state:=.busy}with state:=if(none:Option Code).isNone then .ready else .done,pending:=none})) (gu hrow4 hL4 (λcur e=>by cases e));simpa using this
set_option maxRecDepth 100000 in
set_option maxHeartbeats 4000000 in
def Tryz.qU (F:Fence) (n:Nat) (h11:F.fn 420) (h7:F.fn 377) (hro:F.round=none) (hn:2<=n) (Bv:Nat) (sv:Value) (zs:List ByteArray) (hN:zs.length<=maxLen) (hNb:zs.length*16<=140737488355328) (w:World)
 (hBv:Bv<w.heap.size) (hc:w.cell? ⟨Bv,0,none⟩=some sv)
 (hI:∃a cap,sv= .slice a zs.length cap/\(zs=[]\/∃b off,a=some ⟨b,off,none⟩/\b<w.heap.size/\∀j,(h:j<zs.length)->w.cell? ⟨b,off+j,none⟩=some (.string zs[j]))):
 CallsIn F n Tryz.prog 420 #[.slice none 0 0,.func (.func 377) #[] #[.pointer (some ⟨Bv,0,none⟩)]] w λe w'=>∃(v:Value),e= .returned v/\w'.ownsRow w.heap.size 9 1 v zs.length (zs.map Value.string)/\(v= .slice none 0 0↔zs=[])/\Below w.heap.size w w':=by
 have h1:1<=n:=by omega
 have eg:∀args w,(callFunc 377 args).run Tryz.prog w= .ok (.enter 377 args) w:=λargs w=>enters_of Tryz.func377 (by kernel_rfl) rfl args w
 refine callsIn_of_wp_marks Tryz.func420 rfl h11 ?_ hro;simp only[Tryz.ntmps420,List.size_toArray,List.length_cons,List.length_nil,Nat.reduceAdd,Nat.reduceSub,Array.replicate_succ,Array.replicate_zero,List.push_toArray,List.append_toArray,List.nil_append,List.cons_append]
 gi_wp2
 refine wpIn_rangeFunc ?_;intro fn hfn;rw[hro];generalize hlb:(#[.pointer (some ⟨Bv,0,none⟩)]:Array Value)=lb;obtain⟨W0,hW0⟩:∃W0,w.alloc (.cells #[.slice none 0 0] 30)=W0:=⟨_,rfl⟩;have hs0:W0.heap.size=w.heap.size+1:=by rw[<-hW0];simp
 have hv0:W0.heap[w.heap.size]?=some (.cells #[.slice none 0 0] 30 (0,0)):=by rw[<-hW0];exact World.alloc_heap_new w _
 have hb0:Below w.heap.size w W0:=by rw[<-hW0];exact(Below.refl _ w).alloc (Nat.le_refl _) _
 rw[hW0];obtain⟨W1,hW1⟩:∃W1,(W0.alloc (.deferred (some []))).alloc (.loop (ky fn (.func (.func 377) #[] lb) w.heap.size W0.heap.size .ready none))=W1:=⟨_,rfl⟩;have hold:∀k,k<W0.heap.size->W1.heap[k]?=W0.heap[k]?:=λk hk=>by
  rw[<-hW1];exact(Below.heap_alloc _ _ k (by simp;omega)).trans (Below.heap_alloc _ _ k hk)
 have hb1:Below w.heap.size w W1:=by rw[<-hW1];exact(hb0.alloc hb0.size _).alloc (by have:=hb0.size;simp;omega) _
 have hs1:W1.heap.size=W0.heap.size+2:=by rw[<-hW1];simp
 have hM:E2 w fn (.func (.func 377) #[] lb) w.heap.size (W0.heap.size+1) W0.heap.size [] W1:=
  ⟨⟨_,(hold w.heap.size (by omega)).trans hv0,⟨rfl,.inl ⟨rfl,rfl⟩⟩,by simp⟩,
   by rw[<-hW1];have:=World.alloc_heap_new (W0.alloc (.deferred (some []))) (.loop (ky fn (.func (.func 377) #[] lb) w.heap.size W0.heap.size .ready none));rwa [World.size_alloc]at this,
   by rw[<-hW1];exact(Below.heap_alloc _ _ _ (by simp)).trans (World.alloc_heap_new W0 _),hb1⟩
 refine⟨W0.heap.size+1,[{target:=.collected W0.heap.size,args:=#[]}],W1,{target:=.fn (.func 377) lb,args:=#[.func (.yield (W0.heap.size+1)) #[] #[]]},W1,377,
  #[.func (.yield (W0.heap.size+1)) #[] #[]]++lb,W1,?_,?_,?_,?_,λ_=>h1,?_⟩
 ·rw[<-hW1];exact run_enterLoop_outer _ _ _ _ _
 ·simp[resolve,go_sem]
 ·intro f' hf';simp[Target.leads]at hf';subst hf';exact h7
 ·simp[invoke,go_sem,eg]
 ·have hround:CallsIn F (n - 1) Tryz.prog 377 (#[.func (.yield (W0.heap.size+1)) #[] #[]]++lb) W1 λe W'=>(∃v,e= .returned v)/\E2 w fn (.func (.func 377) #[] lb) w.heap.size (W0.heap.size+1) W0.heap.size zs W':=by
   obtain⟨a,cap,rfl,hz⟩:=hI;have hcW:=(hb1.cell (p:=⟨Bv,0,none⟩) hBv).trans hc;subst hlb;rcases hz with rfl|⟨b,off,rfl,hb,hcs⟩
   ·exact Tryz.oY F (n - 1) h7 hro _ Bv cap a _ W1 hcW hM
   ·exact Tryz.u7 F (n - 1) h7 hro (by omega) _ Bv w.heap.size b off cap zs hNb hb _
     (λpre x W hJ hl=>Tryz.E3 F (n - 1 - 1) w fn hfn _ w.heap.size (W0.heap.size+1) W0.heap.size (by omega) (by omega) (by omega) (Nat.le_refl _) (by omega) zs.length hN hNb pre x W hJ hl)
     W1 hcW (λj hj=>(hb1.cell (p:=⟨b,off+j,none⟩) hb).trans (hcs j hj)) hM
  refine hround.mono ?_;rintro e W2 ⟨⟨v0,rfl⟩,h2⟩;obtain⟨v,hv,hrow,hnil⟩:=h2.box;have hend:=run_endLoop (P:=Tryz.prog) h2.L (by simp[ky]);obtain⟨W3,hW3⟩:∃W3,W2.putObj (W0.heap.size+1) (.loop {ky fn (.func (.func 377) #[] lb) w.heap.size W0.heap.size .ready none with state:=.exhausted})=W3:=⟨_,rfl⟩;rw[hW3]at hend;have hg3:W2.grownBy W3 (some (W0.heap.size+1)):=by rw[<-hW3];exact dp _ _ _
  have hv3:W3.heap[w.heap.size]?=some (.cells #[v] 30 (0,0)):=by rw[<-hW3];exact(World.putObj_heap_other (by omega)).trans hv
  have hK3:W3.heap[W0.heap.size]?=some (.deferred (some [])):=by rw[<-hW3];exact(World.putObj_heap_other (by omega)).trans h2.K
  have hrow3:=hrow.kept hg3 (gu hrow h2.L (λcur e=>by cases e));have hb3:Below w.heap.size w W3:=h2.below.grown hg3 h2.below.size (λk e=>by cases e;omega);obtain⟨hc3,hf3⟩:=jQ hv3;clear hW3;refine⟨none,W3,hend,?_⟩
  gi_wp2
  rw[<-hs0];refine⟨by simp,.inl ⟨_,_,rfl,run_takeDeferred hK3,?_⟩⟩;exact⟨_,results_tmp rfl _ _ _,v,rfl,hrow3.kept (dp _ _ _) (gu hrow3 hK3 (λcur e=>by cases e)),hnil,hb3.grown (dp _ _ _) hb3.size (λk e=>by cases e;omega)⟩
set_option maxHeartbeats 1000000 in
def Tryz.vb (F:Fence) (n:Nat) (h8:F.fn 375) (h11:F.fn 420) (h7:F.fn 377) (hro:F.round=none) (hn:3<=n) (Bv:Nat) (sv:Value) (zs:List ByteArray) (hN:zs.length<=maxLen) (hNb:zs.length*16<=140737488355328) (w:World)
 (hBv:Bv<w.heap.size) (hc:w.cell? ⟨Bv,0,none⟩=some sv)
 (hI:∃a cap,sv= .slice a zs.length cap/\(zs=[]\/∃b off,a=some ⟨b,off,none⟩/\b<w.heap.size/\∀j,(h:j<zs.length)->w.cell? ⟨b,off+j,none⟩=some (.string zs[j]))):
 CallsIn F n Tryz.prog 375 #[.func (.func 377) #[] #[.pointer (some ⟨Bv,0,none⟩)]] w λe w'=>∃(v:Value),e= .returned v/\w'.ownsRow w.heap.size 9 1 v zs.length (zs.map Value.string)/\(v= .slice none 0 0↔zs=[])/\Below w.heap.size w w':=by
 have h1:1<=n:=by omega
 refine callsIn_of_wp Tryz.func375 rfl h8 ?_ hro;simp only[Tryz.ntmps375,List.size_toArray,List.length_cons,List.length_nil,Nat.reduceAdd,Nat.reduceSub,Array.replicate_succ,Array.replicate_zero,List.push_toArray,List.append_toArray,List.nil_append,List.cons_append]
 gi_wp2_with (gi_at_call 420;refine(Tryz.qU F (n - 1) h11 h7 hro (by omega) Bv sv zs hN hNb _ hBv hc hI).mono ?_;rintro e w' ⟨v,rfl,hrow,hnil,hb⟩)
 go_ret
 exact⟨v,rfl,hrow,hnil,hb⟩
end
end Go.Proofs
namespace Go.Ab
section
set_option maxHeartbeats 1000000
open Go Go.RowKit Go.Proofs
variable {P:Program}{ge:GE}{hp:Hp}
def de.tL{g:G}{w:World}(r:de g w hp){j:Nm}(hj:hp j=none){sz n cap b:Nat}{xs:amx AV}{elem:TypeId}(hne:xs≠ [])
 {vals rest:amx Value} (hb:g.cj<=b/\b<w.heap.size) (ho:∀i o,hp i=some o->cX g i o≠some b) (hfz:g.fz b=[])
 (hv:VE g sz xs vals) (hw:w.heap[b]?=some (.cells (vals++rest).toArray elem (0,0))) (hn:n=xs.length) (hc:n<=cap) (hm:cap*sz<=vals.length+rest.length) (h63:n<=4611686018427387904):
 ∃g',G.Le g g'/\de g' w (cE hp j (.br sz xs))/\V g' (.ms j sz n) (.slice (some ⟨b,0,none⟩) n cap):=by
 subst hn
 let t:TI:=⟨some ⟨b,0,none⟩,xs.length,cap⟩
 have r0:=r.bF t hj;have hle1:=g.fF t (r.cu hj);have hle2:=G.dA (g.bF j t) (j:=j) b (r0.cu hj);have hle:=hle1.trans hle2;have key:∀i p,cE hp j (.br sz xs) i=some p->(i=j/\p= .br sz xs)\/(i≠j/\hp i=some p):=by
  intro i p h;by_cases e:i=j
  ·subst e;rw[aZ]at h;simp at h;exact .inl ⟨rfl,h.symm⟩
  ·rw[aT _ _ e]at h;exact .inr ⟨e,h⟩
 have hown':∀i p,hp i=some p->cX ((g.bF j t).push j b) i p=cX g i p:=λi p h=>by
  have hij:i≠j:=λe=>by rw[e,hj]at h;simp at h
  exact fy p hle (r.cM h) (by simp[G.push,G.bF,hij])
 have hownj:cX ((g.bF j t).push j b) j (.br sz xs)=some b:=by cases xs with|nil=>exact absurd rfl hne|cons=>simp[cX,G.push]
 refine⟨(g.bF j t).push j b,hle,⟨λi=>?_,r.hU,r.size,r.fz,?_,?_,?_⟩,?_⟩
 ·by_cases e:i=j
  ·subst e;simp[G.push,cE]
  ·simp only[G.push,G.bF,aT _ _ e,e,false_or];exact r.dc i
 ·intro i p h;rcases key i p h with⟨rfl,rfl⟩|⟨hij,h⟩
  ·intro _;refine⟨vals,rest,elem,VE.mono hle _ _ _ hv,by simpa[G.push]using hw,by simpa[G.push,G.bF]using hfz,?_⟩;exact⟨by simp[G.push,G.bF,t],by simp[G.push,G.bF,t,hc],by simp[G.push,G.bF,t],by simpa[G.push,G.bF,t]using hm⟩
  ·exact(r.eP i p h).kR hle (r.cM h) (by simp[G.push,G.bF,hij]) λb hb=>⟨rfl,rfl⟩
 ·intro i p d h hb';rcases key i p h with⟨rfl,rfl⟩|⟨hij,h⟩
  ·rw[hownj]at hb';simp at hb';subst hb';exact hb
  ·rw[hown' i p h]at hb';exact r.dI i p d h hb'
 ·intro i k p q d hi hk hbi hbk;rcases key i p hi with⟨rfl,rfl⟩|⟨hij,h⟩
  ·rcases key k q hk with⟨rfl,rfl⟩|⟨hne',h'⟩
   ·rfl
   ·rw[hownj]at hbi;simp at hbi;subst hbi;rw[hown' k q h']at hbk;exact absurd hbk (ho k q h')
  ·rcases key k q hk with⟨rfl,rfl⟩|⟨hne',h'⟩
   ·rw[hownj]at hbk;simp at hbk;subst hbk;rw[hown' i p h]at hbi;exact absurd hbi (ho i p h)
   ·rw[hown' i p h]at hbi;rw[hown' k q h']at hbk;exact r.hX i k p q d h h' hbi hbk
 ·simp only[V];exact⟨by simp[G.push],_,cap,rfl,⟨hc,h63⟩,by simp,λ_=>by simp[G.push],by simp,by simp[dw,G.push,G.bF,t]⟩
def Kq{g:G}:(zs:amx amw)->(vals:amx Value)->VE g 1 (zs.map AV.an) vals->vals=zs.map Value.string
 | [],vals,h=>by simpa[VE]using h
 |z::zs,vals,h=>by
  simp only[amV,VE]at h;obtain⟨v,rest,rfl,_,hv,hr⟩:=h;simp only[V]at hv;subst hv;rw[Kq zs rest hr];rfl
def tM{g:G}:(zs:amx amw)->VE g 1 (zs.map AV.an) (zs.map Value.string)
 | []=>rfl
 |z::zs=>⟨.string z,zs.map Value.string,rfl,⟨rfl,by intro u hu;simp[Value.cells]at hu;subst hu;rfl⟩,rfl,tM zs⟩
def ckB{p:amx amw}{u:Unit}(h:ck (([]:amx amw).length+p.length) 16=some u):p.length*16<=140737488355328:=by
 have:=LA h
 grind
def CK(he:bL Tryz.prog 375=true)(p:amx amw)(hN:p.length*16<=140737488355328):
 df Tryz.prog ge 375 [.fn (.func 377) [] [.ptr (0,0) 0]] [((0,0),.cells [.sl 1 .no (p.map AV.an)])] [] (.ms (1,0) 1 ((p.map AV.an).length)) ([]++[((1,0),.br 1 (p.map AV.an))]):=by
 refine⟨he,λg fr w vs hin r kk hv=>?_⟩;simp only[VL,V]at hv;obtain⟨_,_,e1,⟨fa,ca,rfl,hfa,_,_,e4,⟨_,rfl⟩,e5⟩,e3⟩:=hv;subst e3;have efa:fa=#[]:=by cases fa;simpa using hfa
 have eca:ca=#[.pointer (some ⟨g.cg (0,0),0,none⟩)]:=by subst e5;exact aos.1 (by rw[e4])
 have K3:vs=#[.func (.func 377) #[] #[.pointer (some ⟨g.cg (0,0),0,none⟩)]]:=by subst efa eca;exact aos.1 (by rw[e1])
 subst K3;have h00:bz (aM ([((0,0),.cells [.sl 1 .no (p.map AV.an)])]++[])) fr (0,0)=some (.cells [.sl 1 .no (p.map AV.an)]):=by simp[bz,aM]
 obtain⟨us,rest,elem,hus,ag6,hfz⟩:=r.rel.eP (0,0) _ h00;simp only[VL]at hus;obtain⟨sv,_,rfl,hsv,rfl⟩:=hus;have hBlt:=(r.rel.dI (0,0) _ (g.cg (0,0)) h00 rfl).2;have hcell:w.cell? ⟨g.cg (0,0),0,none⟩=some sv:=by simp[World.cell?,ag6]
 simp only[V]at hsv;obtain⟨a,cap,rfl,_,_,hel,_,_⟩:=hsv;have h48:p.length<=8796093022208:=by omega
 have hK:=(Tryz.vb Fence.wide 3 trivial trivial trivial rfl (amW _) (g.cg (0,0)) (.slice a (p.map AV.an).length cap) p (by unfold maxLen;omega) hN w hBlt hcell ?_)
 ·refine(callsIn_wide.1 hK).mono λe w'⟨v,e1,hrow,hnil,hb⟩=>?_
  subst e1;have r1:=r.rel.grown hb;have hn1:bz (aM ([((0,0),.cells [.sl 1 .no (p.map AV.an)])]++[])) fr (1,0)=none:=by
   have hf:fr (1,0)=none:=by
    cases hq:fr (1,0)with
    |none=>rfl
    |some o=>exact absurd (hin (1,0) (by simp[hq])) (by simp[lh])
   simp[bz,aM,hf]
  have efin:cE (bz (aM ([((0,0),.cells [.sl 1 .no (p.map AV.an)])]++[])) fr) (1,0) (.br 1 (p.map AV.an))=bz (aM ([((0,0),.cells [.sl 1 .no (p.map AV.an)])]++([]++[((1,0),.br 1 (p.map AV.an))]))) fr:=by
   funext j;by_cases e:j=(1,0)
   ·subst e;simp[cE,bz,aM]
   ·rw[aT _ _ e];simp[bz,aM,e]
  have hdisj:fe (aM ([((0,0),.cells [.sl 1 .no (p.map AV.an)])]++([]++[((1,0),.br 1 (p.map AV.an))]))) fr:=by
   intro j;by_cases e:j=(1,0)
   ·subst e;right;cases hq:fr (1,0)with
    |none=>rfl
    |some o=>exact absurd (hin (1,0) (by simp[hq])) (by simp[lh])
   ·rcases r.cw j with h|h
    ·left;simpa[aM,e]using h
    ·exact .inr h
  by_cases hp0:p=[]
  ·subst hp0;have hv0:=hnil.2 rfl;subst hv0;have r2:=(r1.bF ⟨none,0,0⟩ hn1);have r3:=r2.ix hn1 1 0;have hle:=(g.fF ⟨none,0,0⟩ (r1.cu hn1)).trans (G.dA _ 0 (r2.cu hn1));refine⟨_,_,_,_,rfl,hle,⟨?_,hdisj⟩,?_,rfl,rfl⟩
   ·rw[<-efin];exact r3
   ·simp only[V];exact⟨by simp[G.push],none,0,by simp,by simp,by simp,by simp,by simp,by simp[dw,G.push,G.bF]⟩
  ·obtain⟨hlen,hrow⟩:=hrow;rcases hrow with⟨rfl,h0⟩|⟨b,cap',cur,rfl,ac3,ag7,hcc,hmx,hsz,afI⟩
   ·exact absurd (hnil.1 rfl) hp0
   ·have hlt:b<w'.heap.size:=(anD.1 ag7).1;have adr:g.fz b=[]:=by
     apply anI;intro hne;have:=r.rel.fH hne;omega
    have af5:cur=(p.map Value.string++cur.toList.drop p.length).toArray:=by
     apply aos.1;rw[List.toList_toArray]
     conv=>lhs;rw[<-ao0 p.length cur.toList]
     rw[Nat.mul_one]at afI;rw[afI]
    have ain:p.length<=4611686018427387904:=by omega
    obtain⟨g',hle,r2,hv'⟩:=r1.tL (j:=(1,0)) hn1 (sz:=1) (n:=p.length) (cap:=cap') (b:=b) (xs:=p.map AV.an) (elem:=9) (by simpa using hp0) (vals:=p.map Value.string) (rest:=cur.toList.drop p.length)
     ⟨anH r.rel.size ac3,hlt⟩ (λi o hi ho=>by have:=(r.rel.dI i o b hi ho).2;omega) adr (tM p) (by rw[<-af5];exact ag7) (by simp) hcc (by simp;omega) ain
    refine⟨_,g',_,_,rfl,hle,⟨?_,hdisj⟩,?_,rfl,rfl⟩
    ·rw[<-efin];exact r2
    ·simpa using hv'
 ·refine⟨a,cap,by simp,?_⟩;by_cases hp0:p=[]
  ·exact .inl hp0
  ·right;obtain⟨b,off,vals,rfl,acB,ac8⟩:=hel (by simpa using hp0);have:=Kq p vals acB;subst this;have hfb:g.fz b≠ []:=by
    intro e;rw[e]at ac8;have:=ac8.length_le;simp at this;exact hp0 this
   obtain⟨c,e,fz,hc,hcp⟩:=r.rel.fz b hfb;refine⟨b,off,rfl,r.rel.fH hfb,λj hj=>?_⟩;obtain⟨t1,ht1⟩:=ac8;obtain⟨t2,ht2⟩:=hcp;have h1:((g.fz b).drop off)[j]?=some (Value.string p[j]):=by
    rw[<-ht1,an8 (by simpa using hj)];simp[hj]
   rw[an7]at h1;have h2:c.toList[off+j]?=some (Value.string p[j]):=by
    rw[<-ht2];rw[an8 (fC h1)];exact h1
   simp[World.cell?,hc];simpa using h2
end
end Go.Ab
namespace Go.Proofs
section
set_option maxRecDepth 100000
set_option maxHeartbeats 1000000
open Go.RowKit Go.Maps Go.Shelf
attribute [local go_sem] Oper.semAt_some
def Tryz.E4:Ab.fM Tryz.prog 269=some true:=by kernel_rfl
def Tryz.Pj:Ab.fM Tryz.prog 4=some false:=by kernel_rfl
def Tryz.CL:Ab.cQ Tryz.prog 269=some 5:=by kernel_rfl
def fL{W:World}{B i:Nat}{v:Value}{c:Array Value}{t:TypeId}(h:W.heap[B]?=some (.cells c t (0,0)))(hi:c[i]?=some v):W.setCell ⟨B,i,none⟩ v=W:=by
 obtain⟨hlt,hk⟩:=Array.getElem?_eq_some_iff.1 h;obtain⟨hi1,hi2⟩:=Array.getElem?_eq_some_iff.1 hi;have hc:c.setIfInBounds i v=c:=by
  grind
 have:(W.setCell ⟨B,i,none⟩ v).heap=W.heap:=by
  grind [World.setCell,Array.ext,Array.getElem_modify_self,Array.getElem_modify_of_ne]
 show{W with heap:=(W.setCell ⟨B,i,none⟩ v).heap}=W
 rw[this]
def Tryz.tN(F:Fence)(n:Nat)(h7:F.fn 362)(hro:F.round=none)(l Bs:Nat)(W:World)(hBs:W.cell? ⟨Bs,0,none⟩=some (.pointer none)):
 CallsIn F n Tryz.prog 362 #[.func (.yield l) #[] #[],.pointer (some ⟨Bs,0,none⟩)] W λe W'=>(∃v,e= .returned v)/\W'=W:=by
 refine callsIn_of_wp Tryz.func362 rfl h7 ?_ hro;simp only[Tryz.ntmps362,List.size_toArray,List.length_cons,List.length_nil,Nat.reduceAdd,Nat.reduceSub,Array.replicate_succ,Array.replicate_zero,List.push_toArray,List.append_toArray,List.nil_append,List.cons_append]
 gi_wp2
 gi_loopw [] (λwr=>wr=W) (λ_=>0)
 case atStart=>rfl
 case round=>
  subst hrel
  gi_wp2
  go_end0
  grind
def Tryz.CM(F:Fence)(n:Nat)(h3:F.fn 362)(hro:F.round=none)(hn:1<=n){t:Nat}{ps:Array Tmp}{assign body:Code}{Q:Exit->Act->World->Prop}{a:Act}{w:World}{B:Nat}
 (hg:a.tmps[t]?.getD undef= .func (.func 362) #[] #[.pointer (some ⟨B,0,none⟩)]) (hB:B<w.heap.size) (hc:w.cell? ⟨B,0,none⟩=some (.pointer none))
 (hQ:∀W,Below w.heap.size w W->W.heap[w.heap.size]?=some (.deferred (some []))->Q .normal {a with defers:=[{target:=.collected w.heap.size,args:=#[]}]++a.defers} W):
 (Code.rangeFunc (.tmp t) ps assign body).wpIn F n Tryz.prog Q a w:=by
 have eg:∀args w,(callFunc 362 args).run Tryz.prog w= .ok (.enter 362 args) w:=λargs w=>enters_of Tryz.func362 (by kernel_rfl) rfl args w
 refine wpIn_rangeFunc ?_;intro fn hfn;rw[hro];obtain⟨W1,hW1⟩:∃W1,((w.alloc (.deferred (some []))).alloc (.loop {state:=.ready,pending:=none,fn,tmps:=a.tmps,params:=ps,assign,body,defers:=w.heap.size}))=W1:=⟨_,rfl⟩;have hb1:Below w.heap.size w W1:=by rw[<-hW1];exact((Below.refl _ w).alloc (Nat.le_refl _) _).alloc (by simp) _
 refine⟨w.heap.size+1,[{target:=.collected w.heap.size,args:=#[]}],W1,{target:=.fn (.func 362) #[.pointer (some ⟨B,0,none⟩)],args:=#[.func (.yield (w.heap.size+1)) #[] #[]]},W1,362,
  #[.func (.yield (w.heap.size+1)) #[] #[]]++#[.pointer (some ⟨B,0,none⟩)],W1,?_,?_,?_,?_,λ_=>hn,?_⟩
 ·rw[<-hW1];exact run_enterLoop_outer _ _ _ _ _
 ·simp[resolve,go_sem,hg]
 ·intro f' hf';simp[Target.leads]at hf';subst hf';exact h3
 ·simp[invoke,go_sem,eg]
 ·refine(Tryz.tN F (n - 1) h3 hro (w.heap.size+1) B W1 ((hb1.cell (p:=⟨B,0,none⟩) hB).trans hc)).mono ?_;rintro e W2 ⟨⟨v0,rfl⟩,rfl⟩;have hL:W2.heap[w.heap.size+1]?=some (.loop {state:=.ready,pending:=none,fn,tmps:=a.tmps,params:=ps,assign,body,defers:=w.heap.size}):=by
   rw[<-hW1];have:=World.alloc_heap_new (w.alloc (.deferred (some []))) (.loop {state:=.ready,pending:=none,fn,tmps:=a.tmps,params:=ps,assign,body,defers:=w.heap.size})
   rwa [World.size_alloc]at this
  have hK:W2.heap[w.heap.size]?=some (.deferred (some [])):=by rw[<-hW1];exact(Below.heap_alloc _ _ _ (by simp)).trans (World.alloc_heap_new w _)
  have hend:=run_endLoop (P:=Tryz.prog) hL (by simp);refine⟨none,_,hend,?_⟩;refine hQ _ (hb1.grown (dp _ (w.heap.size+1) _) hb1.size (λk e=>by cases e;omega)) ?_;exact(World.putObj_heap_other (by omega)).trans hK
def Tryz.LD(F:Fence)(n:Nat)(h7:F.fn 295)(hro:F.round=none)(w:World):
 CallsIn F n Tryz.prog 295 #[.pointer none] w λe w'=>e= .returned (.func (.func 362) #[] #[.pointer (some ⟨w.heap.size,0,none⟩)])/\w'=w.alloc (.cells #[.pointer none] 268):=by
 refine callsIn_of_wp Tryz.func295 rfl h7 ?_ hro;simp only[Tryz.ntmps295,List.size_toArray,List.length_cons,List.length_nil,Nat.reduceAdd,Nat.reduceSub,Array.replicate_succ,Array.replicate_zero,List.push_toArray,List.append_toArray,List.nil_append,List.cons_append]
 gi_wp2
 go_ret
 exact⟨rfl,rfl⟩
def Tryz.vd(F:Fence)(n:Nat)(h1:F.fn 201)(h2:F.fn 295)(h3:F.fn 362)(hro:F.round=none)(hn:2<=n)(s:ByteArray)(w:World):
 CallsIn F n Tryz.prog 201 #[.pointer none,.string s] w λe w'=>e= .returned (.tuple #[.agg #[.int .i64 0,.string ⟨#[]⟩,.string ⟨#[]⟩,.string ⟨#[]⟩,.int .i64 0],.bool false])/\Below w.heap.size w w':=by
 have h1n:1<=n:=by omega
 have eg:∀args w,(callFunc 362 args).run Tryz.prog w= .ok (.enter 362 args) w:=λargs w=>enters_of Tryz.func362 (by kernel_rfl) rfl args w
 refine callsIn_of_wp_marks Tryz.func201 rfl h1 ?_ hro;simp only[Tryz.ntmps201,List.size_toArray,List.length_cons,List.length_nil,Nat.reduceAdd,Nat.reduceSub,Array.replicate_succ,Array.replicate_zero,List.push_toArray,List.append_toArray,List.nil_append,List.cons_append]
 gi_wp2_with (gi_at_call 295;refine(Tryz.LD F (n - 1) h2 hro _).mono ?_;rintro e w' ⟨rfl,rfl⟩)
 obtain⟨W0,hW0⟩:∃W0,(((w.alloc (.cells #[.string s] 9)).alloc (.cells #[.int .i64 0,.string ⟨#[]⟩,.string ⟨#[]⟩,.string ⟨#[]⟩,.int .i64 0] 269)).alloc (.cells #[.bool false] 4))=W0:=⟨_,rfl⟩;have hb0:Below w.heap.size w W0:=by rw[<-hW0];exact(((Below.refl _ w).alloc (Nat.le_refl _) _).alloc (by simp) _).alloc (by simp;omega) _
 have hs0:W0.heap.size=w.heap.size+1+1+1:=by rw[<-hW0];simp
 have hr1:W0.heap[w.heap.size+1]?=some (.cells #[.int .i64 0,.string ⟨#[]⟩,.string ⟨#[]⟩,.string ⟨#[]⟩,.int .i64 0] 269 (0,0)):=by
  rw[<-hW0];refine(Below.heap_alloc _ _ _ (by simp)).trans ?_;have:=World.alloc_heap_new (w.alloc (.cells #[.string s] 9)) (.cells #[.int .i64 0,.string ⟨#[]⟩,.string ⟨#[]⟩,.string ⟨#[]⟩,.int .i64 0] 269)
  rwa [World.size_alloc]at this
 have hr2:W0.heap[w.heap.size+1+1]?=some (.cells #[.bool false] 4 (0,0)):=by
  rw[<-hW0];have:=World.alloc_heap_new ((w.alloc (.cells #[.string s] 9)).alloc (.cells #[.int .i64 0,.string ⟨#[]⟩,.string ⟨#[]⟩,.string ⟨#[]⟩,.int .i64 0] 269)) (.cells #[.bool false] 4)
  rwa [World.size_alloc,World.size_alloc]at this
 rw[hW0];refine Tryz.CM F n h3 hro h1n (B:=w.heap.size+1+1+1) rfl (by simp;omega) (by rw[<-hs0];simp only[World.cell?];rw[show(W0.alloc (Obj.cells #[Value.pointer none] 268)).heap[W0.heap.size]?=_ from World.alloc_heap_new W0 _];rfl) ?_;intro W hbW hK;rename_i Q' K hQK
 show K _ W
 refine hQK _ _ ?_;have hk1:W.heap[w.heap.size+1]?=some (.cells #[.int .i64 0,.string ⟨#[]⟩,.string ⟨#[]⟩,.string ⟨#[]⟩,.int .i64 0] 269 (0,0)):=by
  rw[hbW.block _ (by simp;omega)];exact(Below.heap_alloc _ _ _ (by omega)).trans hr1
 have hk2:W.heap[w.heap.size+1+1]?=some (.cells #[.bool false] 4 (0,0)):=by
  rw[hbW.block _ (by simp;omega)];exact(Below.heap_alloc _ _ _ (by omega)).trans hr2
 have hbx:Below w.heap.size w W:=(hb0.alloc (by omega) _).trans (hbW.mono (by simp;omega));have c0:W.cell? ⟨w.heap.size+1,0,none⟩=some (.int .i64 0):=by simp[World.cell?,hk1]
 have c1:W.cell? ⟨w.heap.size+1,1,none⟩=some (.string ⟨#[]⟩):=by simp[World.cell?,hk1]
 have c2:W.cell? ⟨w.heap.size+1,2,none⟩=some (.string ⟨#[]⟩):=by simp[World.cell?,hk1]
 have c3:W.cell? ⟨w.heap.size+1,3,none⟩=some (.string ⟨#[]⟩):=by simp[World.cell?,hk1]
 have c4:W.cell? ⟨w.heap.size+1,4,none⟩=some (.int .i64 0):=by simp[World.cell?,hk1]
 have c5:W.cell? ⟨w.heap.size+1+1,0,none⟩=some (.bool false):=by simp[World.cell?,hk2]
 have f0:W.frozen? ⟨w.heap.size+1,0,none⟩=false:=by simp[World.frozen?,hk1]
 have f1:W.frozen? ⟨w.heap.size+1,1,none⟩=false:=by simp[World.frozen?,hk1]
 have f2:W.frozen? ⟨w.heap.size+1,2,none⟩=false:=by simp[World.frozen?,hk1]
 have f3:W.frozen? ⟨w.heap.size+1,3,none⟩=false:=by simp[World.frozen?,hk1]
 have f4:W.frozen? ⟨w.heap.size+1,4,none⟩=false:=by simp[World.frozen?,hk1]
 have f5:W.frozen? ⟨w.heap.size+1+1,0,none⟩=false:=by simp[World.frozen?,hk2]
 have s0:W.setCell ⟨w.heap.size+1,0,none⟩ (.int .i64 0)=W:=fL hk1 rfl;have s1:W.setCell ⟨w.heap.size+1,1,none⟩ (.string ⟨#[]⟩)=W:=fL hk1 rfl;have s2:W.setCell ⟨w.heap.size+1,2,none⟩ (.string ⟨#[]⟩)=W:=fL hk1 rfl;have s3:W.setCell ⟨w.heap.size+1,3,none⟩ (.string ⟨#[]⟩)=W:=fL hk1 rfl;have s4:W.setCell ⟨w.heap.size+1,4,none⟩ (.int .i64 0)=W:=fL hk1 rfl;have s5:W.setCell ⟨w.heap.size+1+1,0,none⟩ (.bool false)=W:=fL hk2 rfl
 gi_wp2
 try simp only[s0,s1,s2,s3,s4,s5]
 have hK':W.heap[w.heap.size+1+1+1+1]?=some (.deferred (some [])):=by rw[<-hK];congr 1;simp[hs0]
 refine⟨by simp,.inl ⟨_,_,rfl,run_takeDeferred hK',?_⟩⟩;have hW4:(W.putObj (w.heap.size+1+1+1+1) (.deferred none)).heap[w.heap.size+1]?=_:=(World.putObj_heap_other (by omega)).trans hk1;have hW5:(W.putObj (w.heap.size+1+1+1+1) (.deferred none)).heap[w.heap.size+1+1]?=_:=(World.putObj_heap_other (by omega)).trans hk2;have hbe:Below w.heap.size w (W.putObj (w.heap.size+1+1+1+1) (.deferred none)):=hbx.grown (dp _ (w.heap.size+1+1+1+1) _) hbx.size (λk e=>by cases e;omega);generalize W.putObj (w.heap.size+1+1+1+1) (.deferred none)=WE at hW4 hW5 hbe;have hl1:(loadVar 269 ⟨w.heap.size+1,0,none⟩).run Tryz.prog WE= .ok (.agg #[.int .i64 0,.string ⟨#[]⟩,.string ⟨#[]⟩,.string ⟨#[]⟩,.int .i64 0]) WE:=by
  have hl:(loadCells ⟨w.heap.size+1,0,none⟩ 5).run Tryz.prog WE= .ok #[.int .i64 0,.string ⟨#[]⟩,.string ⟨#[]⟩,.string ⟨#[]⟩,.int .i64 0] WE:=
   run_loadCells_list (P:=Tryz.prog) WE ⟨w.heap.size+1,0,none⟩ [.int .i64 0,.string ⟨#[]⟩,.string ⟨#[]⟩,.string ⟨#[]⟩,.int .i64 0] (λj v hv=>by
    have hadd:(⟨w.heap.size+1,0,none⟩:Addr).add j=⟨w.heap.size+1,j,none⟩:=by unfold Addr.add;split<;>simp_all
    rw[hadd];simp only[World.cell?,hW4];simpa using hv)
  simp[loadVar,Sem.run_bind,Ab.jh Tryz.E4,Ab.dt Tryz.CL,hl]
 have hl2:(loadVar 4 ⟨w.heap.size+1+1,0,none⟩).run Tryz.prog WE= .ok (.bool false) WE:=by
  have hcl:WE.cell? ⟨w.heap.size+1+1,0,none⟩=some (.bool false):=by simp[World.cell?,hW5]
  simp[loadVar,Sem.run_bind,Ab.jh Tryz.Pj,hcl,go_sem]
 exact⟨_,by simp[results,Tryz.f201,asAddr,hl1,hl2,Sem.run_bind,Result.andThen],rfl,hbe⟩
end
end Go.Proofs
namespace Go.Ab
section
set_option maxRecDepth 100000
set_option maxHeartbeats 1000000
open Go Go.RowKit Go.Proofs
def E5{ge:GE}(he:bL Tryz.prog 201=true)(p1:ByteArray):
 df Tryz.prog ge 201 [.dY,.an p1] [] [] (.bR [.agg [.int .i64 0,.an ⟨#[]⟩,.an ⟨#[]⟩,.an ⟨#[]⟩,.int .i64 0],.bool false]) []:=by
 refine⟨he,λg fr w vs hin r kk hv=>?_⟩;simp only[VL,V]at hv;obtain⟨_,_,e1,rfl,_,_,rfl,rfl,e3⟩:=hv;subst e3;have K3:vs=#[.pointer none,.string p1]:=Array.toList_inj.1 (by rw[e1]);subst K3;refine(callsIn_wide.1 (Tryz.vd Fence.wide 2 trivial trivial trivial rfl (Nat.le_refl _) p1 w)).mono λe w'⟨e1,hb⟩=>?_
 subst e1;exact⟨_,g,_,_,rfl,G.Le.refl g,⟨r.rel.grown hb,r.cw⟩,by simp[V,VL],rfl,rfl⟩
end
section
variable {P:Program}{ge:GE}{N b:Nat}{tm:Tm}{l:HL}{ti:Nat->amy TE}
end
section
variable {P:Program}{ge:GE}{N b:Nat}{tm:Tm}{l:HL}{ti:Nat->amy TE}
def VL.ve{g g':G}(hl:G.Le g g'){x x':AV}(hx:∀v,V g x v->V g' x' v):(xs:amx AV)->(vs:amx Value)->VL g xs vs->(i:Nat)->xs[i]?=some x->VL g' (xs.set i x') vs
 | [],vs,_,i,hi=>by simp at hi
 |y::xs,vs,h,i,hi=>by
  simp only[VL]at h;obtain⟨v,rest,rfl,h1,h2⟩:=h;cases i with
  |zero=>
   simp at hi;subst hi;exact⟨v,rest,rfl,hx _ h1,VL.mono hl _ _ h2⟩
  |succ i=>
   simp at hi;exact⟨v,rest,rfl,V.mono hl _ _ h1,VL.ve hl hx xs rest h2 i hi⟩
def VE.ve{g g':G}(hl:G.Le g g'){sz:Nat}{x x':AV}(hx:∀v,V g x v->V g' x' v):(xs:amx AV)->(vs:amx Value)->VE g sz xs vs->(i:Nat)->xs[i]?=some x->VE g' sz (xs.set i x') vs
 | [],vs,_,i,hi=>by simp at hi
 |y::xs,vs,h,i,hi=>by
  simp only[VE]at h;obtain⟨v,rest,rfl,h0,h1,h2⟩:=h;cases i with
  |zero=>
   simp at hi;subst hi;exact⟨v,rest,rfl,h0,hx _ h1,VE.mono hl _ _ _ h2⟩
  |succ i=>
   simp at hi;exact⟨v,rest,rfl,h0,V.mono hl _ _ h1,VE.ve hl hx xs rest h2 i hi⟩
def de.CN{g:G}{w:World}{hp:Hp}(r:de g w hp){j:Nm}{sz:Nat}{xs xs':amx AV}(hj:hp j=some (.br sz xs))(hne:xs≠ [])(h:dH g w j (.br sz xs')):de g w (cE hp j (.br sz xs')):=by
 have key:∀i p,cE hp j (.br sz xs') i=some p->(i=j/\p= .br sz xs')\/(i≠j/\hp i=some p):=by
  intro i p h;by_cases e:i=j
  ·subst e;rw[aZ]at h;simp at h;exact .inl ⟨rfl,h.symm⟩
  ·rw[aT _ _ e]at h;exact .inr ⟨e,h⟩
 have acs:∀b,cX g j (.br sz xs')=some b->cX g j (.br sz xs)=some b:=λb hb=>by
  cases xs with
  |nil=>exact absurd rfl hne
  |cons y ys=>cases xs' with
   |nil=>simp[cX]at hb
   |cons=>simpa[cX]using hb
 refine⟨λi=>?_,r.hU,r.size,r.fz,λi p hi=>?_,λi p b hi hb=>?_,λi k p q b hi hk hbi hbk=>?_⟩
 ·by_cases e:i=j
  ·subst e;rw[aZ,r.dc i,hj];simp
  ·rw[aT _ _ e];exact r.dc i
 ·rcases key i p hi with⟨rfl,rfl⟩|⟨_,hi⟩
  ·exact h
  ·exact r.eP i p hi
 ·rcases key i p hi with⟨rfl,rfl⟩|⟨_,hi⟩
  ·exact r.dI _ _ b hj (acs b hb)
  ·exact r.dI i p b hi hb
 ·rcases key i p hi with⟨h1,h1'⟩|⟨h1,hi2⟩<;>rcases key k q hk with⟨h2,h2'⟩|⟨h2,hk2⟩
  ·rw[h1,h2]
  ·subst h1 h1';exact r.hX _ k _ q b hj hk2 (acs b hbi) hbk
  ·subst h2 h2';exact r.hX i _ p _ b hi2 hj hbi (acs b hbk)
  ·exact r.hX i k p q b hi2 hk2 hbi hbk
def Wk.SZ(j:Nm)(i c:Nat){q:Nm}{sz sz' n:Nat}{cs xs ys:amx AV}(h:lk l j=some (.br sz xs))(hi:ey xs i=some (.agg cs))(hc:ey cs c=some (.ms q sz' n))
 (hq:lk l q=some (.br sz' ys)) (hn:ys.length=n) (hne:qL j q=false):
 Wk 1 N tm (aM l) tm (aM (cR j (.br sz (dN xs i (.agg (dN cs c (.sl sz' .no ys))))) (cR q (.br sz' []) l))):=by
 subst hn;intro g fr w tmps fi r v;have hne:=fK.1 hne;rw[<-cz]at h hq;rw[dk]at hi hc;have aek:xs≠ []:=λe=>by subst e;simp at hi
 obtain⟨vals,rest,elem,o1,o2,_,o4⟩:=r.rel.eP j _ (aH h) aek;obtain⟨g1,l1,_,r1,v1⟩:=r.rel.mP (aH hq);rw[bp,bm]at r1;have hj1:Ab.bz (aM (cR q (.br sz' []) l)) fr j=some (.br sz xs):=by
  refine aH ?_;rw[<-bm,aT _ _ hne];exact h
 have acN:=r.rel.cM (aH h);obtain⟨adz,acK,ac4,p1,p2,p3,p4⟩:=r1.eP j _ hj1 aek;have acB:adz=vals:=by
  rw[l1.cg j acN,o2]at p2;have p2:=am5 p2;simp only[aoc]at p2;have e:=p2.1;have e:vals++rest=adz++acK:=by simpa using e
  grind [VE.length,List.append_inj]
 subst acB;have hx:∀v,V g (.agg cs) v->V g1 (.agg (cs.set c (.sl sz' .no ys))) v:=λv hv=>by
  simp only[V]at hv |-;obtain⟨a,e1,e2⟩:=hv;exact⟨a,e1,VL.ve l1 v1 cs _ e2 c hc⟩
 have r2:=r1.CN hj1 aek (xs':=dN xs i (.agg (dN cs c (.sl sz' .no ys)))) (λ_=>⟨adz,acK,ac4,by rw[dS,dS];exact VE.ve l1 hx xs _ o1 i hi,p2,p3,by rw[dS,aoG];exact p4⟩);rw[bp,bm]at r2;refine⟨g1,l1.some _,⟨r2,?_⟩,v.mono l1⟩;have hd1:fe (aM (cR q (.br sz' []) l)) fr:=by rw[<-bm];exact r.cw.fE hq
 rw[<-bm];exact hd1.cE (r.cw.none h)
end
section
variable {P:Program}{ge:GE}{N b:Nat}{tm:Tm}{l:HL}{ti:Nat->amy TE}{α:Type}{f:α->AV}
def dJ(f:α->AV)(ts:amx α)(p:Nat)(x:AV):amx AV:=(ts.map f).set p x
def ci{ts:amx α}{p:Nat}{x:AV}:(dJ f ts p x).length=ts.length:=by simp[dJ]
def gy{ts:amx α}{p:Nat}{x:AV}{i:Int}(h:i.toNat=p/\p<ts.length):ey (dJ f ts p x) i.toNat=some x:=by
 rw[dk,h.1,dJ,aoM (by simpa using h.2)]
def ut{ts:amx α}{p:Nat}{x y:AV}{i:Int}{v:α}(h:au ts i=some v)(e:f v=y)(hn:i.toNat≠p):ey (dJ f ts p x) i.toNat=some y:=by
 obtain⟨_,h⟩:=mM h;rw[dk,dJ,List.getElem?_set_ne (λq=>hn q.symm),anK,h,<-e];rfl
def mY{ts:amx α}{p:Nat}{x z:AV}{i:Nat}(h:i=p):bC ((dJ f ts p x).set i z) (dJ f ts p z):=by
 subst h;simp only[dJ,aou];exact .refl _
def vg{ts:amx α}{p:Nat}{x z:AV}{i:Nat}{v:α}(h:Sub z (f v))(hn:i≠p):bC ((dJ f ts p x).set i z) (dJ f (ts.set i v) p x):=by
 have e:dJ f (ts.set i v) p x=((ts.map f).set p x).set i (f v):=by simp only[dJ,aoL];exact List.set_comm _ _ hn
 grind [dJ,bC.nu]
def bY{ts:amx α}{p:Nat}{x:AV}{u:α}(h:Sub x (f u)):bC (dJ f ts p x) ((ts.set p u).map f):=by
 grind [dJ,List.map_set,bC.nu]
theorem dl.nu{x y:AV}(h:Vw l x y):{xs ys:amx AV}->(p:Nat)->dl l xs ys->dl l (xs.set p x) (ys.set p y)
 |_,_,_,.nil=>.nil
 |_,_,0,.cons _ k=>.cons h k
 |_,_,p+1,.cons q k=>.cons q (k.nu h p)
def nJ{ts:amx α}{p:Nat}{x:AV}{u:α}[hp:Pl f](h:Vw l x (f u)):dl l (dJ f ts p x) ((ts.set p u).map f):=by
 rw[dJ,aoL];refine dl.nu h p (dl.wj (.refl _) (dQ.2 λy hy=>?_))
 grind [List.mem_map.1,hp.out]
theorem qe{j:Nm}{o:bk}:{l:HL}->lk l j=some o->aM (cR j o l)=aM l:=λ{l}h=>by
 rw[<-bm];funext i
 grind [aZ,cz,aT]
def Wk.dK(j:Nm)(c:Nat){q:Nm}{sz sz' n p:Nat}{ts:amx α}{cs ys:amx AV}(h:lk l j=some (.br sz (dJ f ts p (.agg cs))))(hc:ey cs c=some (.ms q sz' n))
 (hq:lk l q=some (.br sz' ys)) (hn:ys.length=n) (hne:qL j q=false):
 Wk 1 N tm (aM l) tm (aM (cR j (.br sz (dJ f ts p (.agg (dN cs c (.sl sz' .no ys))))) (cR q (.br sz' []) l))):=by
 by_cases hp:p<ts.length
 ·have:=Wk.SZ (N:=N) (tm:=tm) j p c h (by rw[dk,dJ,aoM (by simpa using hp)]) hc hq hn hne
  rwa [show dN (dJ f ts p (.agg cs)) p (.agg (dN cs c (.sl sz' .no ys)))=dJ f ts p (.agg (dN cs c (.sl sz' .no ys))) by rw[dS,dJ,dJ,aou]]at this
 ·have e:∀x,dJ f ts p x=ts.map f:=λx=>by simp only[dJ];exact ao4 (by simpa using aoT hp)
  intro g fr w tmps fi r v;obtain⟨g1,l1,r1,v1⟩:=iT hq r;have hne:=fK.1 hne;have hj:lk (cR q (.br sz' []) l) j=some (.br sz (dJ f ts p (.agg (dN cs c (.sl sz' .no ys))))):=by
   rw[<-cz,<-bm,aT _ _ hne,cz,h,e,e]
  grind [l1.some,v.mono,qe]
abbrev FR(x y:AV):Prop:=∀(g h:G)(v:Value),V g x v->V h y v
inductive AW:List AV->List AV->Prop
 |nil:AW [] []
 |cons {x y:AV} {xs ys:List AV}:FR x y->AW xs ys->AW (x::xs) (y::ys)
theorem AW.out{g h:G}:{xs ys:amx AV}->AW xs ys->∀vs,VL g xs vs->VL h ys vs
 |_,_,.nil,vs,e=>by simpa only[VL]using e
 |_,_,.cons a b,vs,e=>by
  simp only[VL]at e |-;obtain⟨v,rest,e0,e1,e2⟩:=e;exact⟨v,rest,e0,a _ _ _ e1,b.out rest e2⟩
def jf{k:IntKind}{n:Int}:FR (.int k n) (.int k n):=λ_ _ _ h=>by simpa only[V]using h
def AX{b:amz}:FR (.bool b) (.bool b):=λ_ _ _ h=>by simpa only[V]using h
def CO{s:amw}:FR (.an s) (.an s):=λ_ _ _ h=>by simpa only[V]using h
def Zg{sz:Nat}{xs:amx AV}:FR (.sl sz .no xs) (.sl 0 .no (List.replicate xs.length .any)):=EF
def SZ{sz:Nat}{xs:amx AV}(e:xs.length=0):FR (.sl sz .no xs) (.sl sz .no []):=λg h v hv=>by
 have:xs=[]:=anu e;subst this;simp only[V,amB]at hv |-;obtain⟨a,cap,e1,e2,e3,_,e5,_⟩:=hv;exact⟨a,cap,e1,e2,e3,λq=>absurd rfl q,e5,trivial⟩
def AY{xs ys:amx AV}(k:AW xs ys):FR (.agg xs) (.agg ys):=λg h v hv=>by
 simp only[V]at hv |-
 grind [k.out]
def Pk{xs ys:amx AV}(k:AW xs ys):FR (.bR xs) (.bR ys):=λg h v hv=>by
 simp only[V]at hv |-
 grind [k.out]
def qV{x y:AV}{xs ys:amx AV}(a:FR x y)(b:AW xs ys):AW (x::xs) (y::ys):=.cons a b
def CP{j:Nm}{c:Nat}{q:Nm}{sz sz' n p:Nat}{ts:amx α}{cs ys:amx AV}(h:lk l j=some (.br sz (dJ f ts p (.agg cs))))(hc:ey cs c=some (.ms q sz' n))
 (hq:lk l q=some (.br sz' ys)) (hn:ys.length=n) (hne:qL j q=false) {g:G} {fr:Hp} {w:World} (r:eW g w (aM l) fr):
 ∃g',G.Le g g'/\eW g' w (aM (cR j (.br sz (dJ f ts p (.agg (dN cs c (.sl sz' .no ys))))) (cR q (.br sz' []) l))) fr:=by
 subst hn;obtain⟨g1,l1,r1,v1⟩:=iT hq r;have hne:=fK.1 hne;have hj0:aM (cR q (.br sz' []) l) j=some (.br sz (dJ f ts p (.agg cs))):=by rw[<-bm,aT _ _ hne,cz,h]
 by_cases hp:p<ts.length
 ·have hi:(dJ f ts p (.agg cs))[p]?=some (.agg cs):=by rw[dJ,aoM (by simpa using hp)]
  have aek:dJ f ts p (.agg cs)≠ []:=λe=>by rw[e]at hi;simp at hi
  rw[<-cz]at h;obtain⟨vals,rest,elem,o1,o2,_,o4⟩:=r.rel.eP j _ (aH h) aek;obtain⟨adz,acK,ac4,p1,p2,p3,p4⟩:=r1.rel.eP j _ (aH hj0) aek;have acN:=r.rel.cM (aH h);have acB:adz=vals:=by
   rw[l1.cg j acN,o2]at p2;have p2:=am5 p2;simp only[aoc]at p2;have e:vals++rest=adz++acK:=by simpa using p2.1
   have n1:=VE.length _ _ o1;have n2:=VE.length _ _ p1;exact(aod e (by omega)).1.symm
  subst acB;rw[dk]at hc;have hx:∀v,V g (.agg cs) v->V g1 (.agg (cs.set c (.sl sz' .no ys))) v:=λv hv=>by
   simp only[V]at hv |-;obtain⟨a,e1,e2⟩:=hv;exact⟨a,e1,VL.ve l1 v1 cs _ e2 c hc⟩
  have e3:(dJ f ts p (.agg cs)).set p (.agg (cs.set c (.sl sz' .no ys)))=dJ f ts p (.agg (dN cs c (.sl sz' .no ys))):=by rw[dS,dJ,dJ,aou]
  have r2:=r1.rel.CN (aH hj0) aek (xs':=dJ f ts p (.agg (dN cs c (.sl sz' .no ys)))) (λ_=>⟨adz,acK,ac4,by rw[<-e3];exact VE.ve l1 hx _ _ o1 p hi,p2,p3,by rw[<-e3,aoG];exact p4⟩);rw[bp,bm]at r2;refine⟨g1,l1,r2,?_⟩;rw[<-bm];exact r1.cw.fE hj0
 ·have e:∀x,dJ f ts p x=ts.map f:=λx=>by simp only[dJ];exact ao4 (by simpa using aoT hp)
  refine⟨g1,l1,?_⟩;rw[qe (by rw[<-cz,hj0,e,e])];exact r1
theorem qM.trans{l1 l2 l3:HL}{a c:amx Nm}(h:qM b l1 l2 a)(k:qM b l2 l3 c):qM b l1 l3 (a++c):=by
 refine⟨λj hj hn=>?_,λj hj=>k.2.1 j (h.2.1 j hj),λj hj hj'=>?_⟩
 ·simp only[amZ,not_or]at hn
  grind [k.1,h.2.1,hn.2,h.1,hn.1]
 ·cases e:(aM l2 j).isSome with
  |true=>exact h.2.2 j hj e
  |false=>exact k.2.2 j e hj'
def o8(j:Nm)(c:Nat){q:Nm}{sz sz' n p:Nat}{ts:amx α}{cs ys:amx AV}{fi:FuncId}{args:amx AV}{K:KX}(h:lk l j=some (.br sz (dJ f ts p (.agg cs))))(hc:ey cs c=some (.ms q sz' n))
 (hq:lk l q=some (.br sz' ys)) (hn:ys.length=n) (hne:qL j q=false)
 (k:bL P fi=true/\lK P ge b fi args (aM (cR j (.br sz (dJ f ts p (.agg (dN cs c (.sl sz' .no ys))))) (cR q (.br sz' []) l))) (CH b (cR j (.br sz (dJ f ts p (.agg (dN cs c (.sl sz' .no ys))))) (cR q (.br sz' []) l)) λx l' ch=>K x l' (([q]++[j])++ch))):
 bL P fi=true/\lK P ge b fi args (aM l) (CH b l K):=by
 have hj0:aM (cR q (.br sz' []) l) j=some (.br sz (dJ f ts p (.agg cs))):=by rw[<-bm,aT _ _ (fK.1 hne),cz,h]
 refine Ue (λg fr w vs _ r v=>?_) ((eY (by rw[cz];exact hq)).trans (eY hj0)) k;obtain⟨g1,l1,r1⟩:=CP h hc hq hn hne r;exact⟨g1,l1,r1,VL.mono l1 _ _ v⟩
def Wk.Pm(q:Nm){sz:Nat}{ys:amx AV}(hq:lk l q=some (.br sz ys)):Wk 1 N tm (aM l) tm (aM (cR q (.br sz []) l)):=by
 intro g fr w tmps fi r v;obtain⟨g1,l1,r1,_⟩:=iT hq r
 grind [l1.some,v.mono]
instance {S:amx Nm}{ts:amx α}{p:Nat}{x:AV}[hf:Pl f][hx:UN S x]:dM S (dJ f ts p x):=⟨by
 rw[dQ];intro y hy;simp only[dJ]at hy;rcases List.mem_or_eq_of_mem_set hy with hy|rfl
 ·obtain⟨z,_,rfl⟩:=am3.1 hy;exact AV.cq (λ_ h=>h.elim) _ (hf.out z)
 ·exact hx.out⟩
end
end Go.Ab

/- The logic of the walk. -/
import Derived.LoopIn
import Derived.LoopNIn
import Derived.Maps.AppendAt
import Derived.Maps.RangeWalk
import Derived.OwnWalkIn
import Derived.RangeFuncBox
import Derived.RangeFuncGives
import Derived.RangeFuncLeaves
import Derived.Shelf.Abstract
import Derived.TacticsInMore
import Derived.WalkKit
import Derived.Test.YtoknehglgeiopaaGreatDoorA5
set_option linter.all false
open Go Go.RowKit
namespace Go.Ab
end Go.Ab
namespace Go.Proofs
section
open Go.RowKit Go.Maps Go.Shelf
attribute [local go_sem] Oper.semAt_some
set_option maxRecDepth 100000 in
set_option maxHeartbeats 4000000 in
def aaq (F:Fence) (n:Nat) (h7:F.fn 306) (hro:F.round=none) (hn:1<=n) (l Bs n₀ b off cap:Nat) (zs:List ByteArray) (hreach:zs.length*16<=140737488355328) (hb:b<n₀) (D:List ByteArray->World->Prop)
 (hY:∀RU x W,D RU W->RU.length<zs.length->YieldAt F (n-1) Tryz.prog l #[.string x] W λe W'=>e= .returned (.bool true)/\D (RU++[x]) W'/\Below n₀ W W')
 (W:World) (hBs:W.cell? ⟨Bs,0,none⟩=some (.slice (some ⟨b,off,none⟩) zs.length cap)) (hc:∀j,(h:j<zs.length)->W.cell? ⟨b,off+j,none⟩=some (.string zs[j])) (h0:D [] W):
 CallsIn F n Tryz.prog 306 #[.func (.yield l) #[] #[],.pointer (some ⟨Bs,0,none⟩)] W λe W'=>(∃v,e= .returned v)/\D zs W':=by
 refine callsIn_of_wp Tryz.func306 rfl h7 ?_ hro;simp only[Tryz.ntmps306,List.size_toArray,List.length_cons,List.length_nil,Nat.reduceAdd,Nat.reduceSub,Array.replicate_succ,Array.replicate_zero,List.push_toArray,List.append_toArray,List.nil_append,List.cons_append]
 gi_wp2
 gi_loopw [7] (λi wr=>∃k:Nat,k<=zs.length/\i= .int .i64 k/\D (zs.take k) wr/\Below n₀ W wr)
  (λi _=>zs.length-(intOf i).toNat)
 case atStart=>exact⟨0,Nat.zero_le _,rfl,h0,Below.refl _ _⟩
 case round=>
  obtain⟨k,hk,rfl,hJs,hnx⟩:=hrel;have hcx:(h:k<zs.length)->wr.cell? ⟨b,off+k,none⟩=some (.string zs[k]):=λh=>(hnx.cell (p:=⟨b,off+k,none⟩) hb).trans (hc k h)
  by_cases hlt:k<zs.length
  .obtain⟨fn,tmps,assign,body,hy,hR⟩:=hY _ zs[k] wr hJs (by rw[List.length_take];omega);have hcx':=hcx hlt
   gi_wp2
   refine hR.mono ?_;rintro e W3 ⟨rfl,hJ3,hk3⟩
   gi_wp2
   go_roundw
   case rel=>exact⟨k+1,by omega,by simp,by
    have:zs.take (k+1)=zs.take k++[zs[k]]:=List.take_succ_eq_append_getElem hlt;rw[this];exact hJ3,hnx.trans hk3⟩
   case measure=>simp[intOf];omega
  .obtain rfl:k=zs.length:=by omega
   gi_wp2
   go_end0
   exact⟨⟨_,rfl⟩,by simpa using hJs⟩
set_option maxRecDepth 100000 in
set_option maxHeartbeats 1000000 in
def aar (F:Fence) (n:Nat) (h7:F.fn 306) (hro:F.round=none) (l Bs cap:Nat) (a:Option Addr) (D:List ByteArray->World->Prop) (W:World) (hBs:W.cell? ⟨Bs,0,none⟩=some (.slice a 0 cap)) (h0:D [] W):
 CallsIn F n Tryz.prog 306 #[.func (.yield l) #[] #[],.pointer (some ⟨Bs,0,none⟩)] W λe W'=>(∃v,e= .returned v)/\D [] W':=by
 refine callsIn_of_wp Tryz.func306 rfl h7 ?_ hro;simp only[Tryz.ntmps306,List.size_toArray,List.length_cons,List.length_nil,Nat.reduceAdd,Nat.reduceSub,Array.replicate_succ,Array.replicate_zero,List.push_toArray,List.append_toArray,List.nil_append,List.cons_append]
 gi_wp2
 gi_loopw [7] (λi wr=>i= .int .i64 0/\D [] wr) (λ_ _=>0)
 case atStart=>exact⟨rfl,h0⟩
 case round=>
  obtain⟨rfl,hJs⟩:=hrel
  gi_wp2
  go_end0
  grind
def tx:Code:=(Code.region 2 #[{dst:=some 5,op:=Op.assign (Operand.tmp 7),type:=9,pos:= "iter.go:51",after:=#[],guard:=none}] false)
def A9:Code:=(Code.block 1 (Code.region 3 #[{dst:=some 8,op:=Op.load 30 (Operand.tmp 2),type:=30,pos:= "iter.go:52",after:=#[],guard:=none},{dst:=some 9,op:=Op.move (Operand.tmp 5),type:=9,pos:= "iter.go:52",after:=#[],guard:=none},{dst:=some 10,op:=Op.buildSlice 30 1 #[(0,Operand.tmp 9)],type:=30,pos:= "iter.go:52",after:=#[{on:=1,ground:=Ground.data}],guard:=none},{dst:=some 11,op:=Op.call {callee:=Callee.builtin Builtin.append,args:=#[Operand.tmp 8,Operand.tmp 10],argTypes:=#[30,30]},type:=30,pos:= "iter.go:52",after:=#[{on:=0,ground:=Ground.data},{on:=2,ground:=Ground.data}],guard:=none},{dst:=none,op:=Op.store 30 (Operand.tmp 2) (Operand.tmp 11),type:=0,pos:= "iter.go:52",after:=#[{on:=3,ground:=Ground.data},{on:=3,ground:=Ground.chain},{on:=0,ground:=Ground.phase},{on:=1,ground:=Ground.phase},{on:=2,ground:=Ground.phase},{on:=3,ground:=Ground.phase}],guard:=none}] false))
def m4(fn:FuncId)(y:Value)(z D:Nat)(st:LoopState)(x:Option Code):Loop:={state:=st,pending:=x,fn,tmps:=#[.slice none 0 0,y,.pointer (some ⟨z,0,none⟩),undef,.slice none 0 0,undef,y,undef,undef,undef,undef,undef,undef],params:=#[7],assign:=tx,body:=A9,defers:=D}
structure Kk(w0:World)(fn:FuncId)(sv:Value)(Bs l D:Nat)(ss:List ByteArray)(W:World):Prop where
 box:∃v,W.heap[Bs]?=some (.cells #[v] 30 (0,0))/\W.ownsRow w0.heap.size 9 1 v ss.length (ss.map Value.string)/\(v= .slice none 0 0↔ss=[])
 L:W.heap[l]?=some (.loop (m4 fn sv Bs D .ready none))
 K:W.heap[D]?=some (.deferred (some []))
 below:Below w0.heap.size w0 W
def cA(W:World)l o:W.grownBy (W.putObj l o) (some l):=⟨rfl,rfl,rfl,by simp,λk _ x=>World.putObj_heap_other (λe=>x (by rw[e]))⟩
def aia(W:World)b v:W.grownBy (W.setCell ⟨b,0,none⟩ v) (some b):=⟨rfl,rfl,rfl,(KeepsWalks.setCell W _ v).size,λk _ x=>Below.heap_setCell _ _ _ k (λe=>x (by rw[e]))⟩
def iG{W:World}{bV e size v k xs}(h:W.ownsRow bV e size v k xs){j o}(a:W.heap[j]?=some o)(y:∀x,o≠ .cells x e (0,0)):
 v.ownBlock=none\/v.ownBlock≠some j:=by
 rcases h.2 with⟨rfl,_⟩|⟨g,cap,x,rfl,_,z,_⟩
 .exact .inl rfl
 .refine .inr λb=>?_
  grind [Value.ownBlock,grind]
def mf{W:World}{B v t}(h:W.heap[B]?=some (.cells #[v] t (0,0))):W.cell? ⟨B,0,none⟩=some v/\W.frozen? ⟨B,0,none⟩=false:=by
 constructor<;>simp[World.cell?,World.frozen?,h]
def anQ{W:World}{B v t}x(h:W.heap[B]?=some (.cells #[v] t (0,0))):(W.setCell ⟨B,0,none⟩ x).heap[B]?=some (.cells #[x] t (0,0)):=by
 obtain⟨y,z⟩:=Array.getElem?_eq_some_iff.1 h
 show(W.heap.modify B _)[B]?=_
 grind
def aas:(Tryz.prog.info? 9).map (λi=>(i.zero,i.size,i.bytes))=some (some (.string ⟨#[]⟩),1,16):=by kernel_rfl
set_option maxRecDepth 100000 in
set_option maxHeartbeats 4000000 in
def aat (F:Fence) (m:Nat) (w0:World) (fn:FuncId) (hfn:F.fn fn) (sv:Value) (Bs l D:Nat) (hBl:Bs≠l) (hDl:D≠l) (hDB:D≠Bs) (h0B:w0.heap.size<=Bs) (h0l:w0.heap.size<=l)
 (N:Nat) (hN:N<=maxLen) (hNb:N*16<=140737488355328) (ss:List ByteArray) (x:ByteArray) (W:World) (h:Kk w0 fn sv Bs l D ss W) (hlen:ss.length<N):
 YieldAt F m Tryz.prog l #[.string x] W λe W'=>e= .returned (.bool true)/\Kk w0 fn sv Bs l D (ss++[x]) W'/\Below w0.heap.size W W':=by
 obtain⟨i0,hi,hz0,hz1,hz2⟩:=info_parts aas;obtain⟨v,hv,hrow,_⟩:=h.box;refine⟨fn,#[.slice none 0 0,sv,.pointer (some ⟨Bs,0,none⟩),undef,.slice none 0 0,undef,sv,.string x,undef,undef,undef,undef,undef],tx,A9,by simpa[m4]using run_yield (P:=Tryz.prog) (args:=#[.string x]) h.L rfl,roundIn_of_wpIn hfn ?_⟩;have hl:l<W.heap.size:=(Array.getElem?_eq_some_iff.1 h.L).1;have hbr:=run_beginRound (P:=Tryz.prog) h.L rfl;obtain⟨W2,hW2⟩:∃W2,W.putObj l (.loop {m4 fn sv Bs D .ready none with state:=.busy})=W2:=⟨_,rfl⟩;rw[hW2]at hbr;have hg2:W.grownBy W2 (some l):=by rw[<-hW2];exact cA _ _ _
 have hv2:W2.heap[Bs]?=some (.cells #[v] 30 (0,0)):=by rw[<-hW2];exact(World.putObj_heap_other hBl).trans hv
 have hK2:W2.heap[D]?=some (.deferred (some [])):=by rw[<-hW2];exact(World.putObj_heap_other hDl).trans h.K
 have hL2:W2.heap[l]?=some (.loop {m4 fn sv Bs D .ready none with state:=.busy}):=by rw[<-hW2];exact World.putObj_heap_same hl
 have hrow2:W2.ownsRow w0.heap.size 9 1 v ss.length (ss.map Value.string):=hrow.kept hg2 (iG hrow h.L (λcur e=>by cases e));have hWs:=h.below.size;have hbW2:Below w0.heap.size W W2:=(Below.refl _ W).grown hg2 hWs (λk e=>by cases e;exact h0l);have hb2:Below w0.heap.size w0 W2:=h.below.trans hbW2;obtain⟨hc2,hf2⟩:=mf hv2;have hBlt:Bs<W2.heap.size:=(Array.getElem?_eq_some_iff.1 hv2).1;have hl2:l<W2.heap.size:=(Array.getElem?_eq_some_iff.1 hL2).1;have hDlt:D<W2.heap.size:=(Array.getElem?_eq_some_iff.1 hK2).1;have ne_of:∀{j:Nat}{o:Obj},W2.heap[j]?=some o->(∀cur,o≠ .cells cur 9 (0,0))->some j≠v.ownBlock:=λhj hno=>by
  rcases iG hrow2 hj hno with e|e
  .rw[e];simp
  grind
 clear hW2;unfold tx
 gi_wp2_with (rw[Oper.semAt_eq _ _ _ (λc h=>by cases h)];go_simp;try go_bits)
 unfold A9
 gi_wp2_with (first
  |(
   gi_at_builtin;refine wpListIn_append_own _ rfl _ _ 30 rfl w0.heap.size 9 i0 (.string ⟨#[]⟩) 1 16 Tryz.underlying30 hi hz0 hz1 hz2 rfl (by decide) _ _ _ rfl (hrow2.alloc _) ⟨W2.heap.size,0,none⟩ 1 1 [Value.string x] rfl rfl (cell_one_new _ _ _) (by simp[Value.oneCell']) (by omega) (by omega) (by have:=hb2.size;simp;omega) ?_;intro v' w3 hown' hg3 hnil3
   have hv3:w3.heap[Bs]?=some (.cells #[v] 30 (0,0)):=(hg3.block Bs (by simp;omega) (ne_of hv2 (λcur e=>by cases e))).trans ((Below.heap_alloc _ _ Bs hBlt).trans hv2);obtain⟨hc3,hf3⟩:=mf hv3;obtain⟨g',cap',cur',rfl,hbase',hgb',hr1,hr2,hr3,hr4⟩:∃g' cap' cur',v'= .slice (some ⟨g',0,none⟩) (ss.length+1) cap'/\w0.heap.size<=g'/\w3.heap[g']?=some (.cells cur' 9 (0,0))/\ss.length+1<=cap'/\cap'<=maxLen/\cur'.size=cap'*1/\cur'.toList.take ((ss.length+1)*1)=ss.map Value.string++[Value.string x]:=by
    rcases hown'.2 with⟨_,h0⟩|h'
    .exact absurd h0 (by omega)
    .exact h'
   go_frame)
  |(rw[Oper.semAt_eq _ _ _ (λc h=>by cases h)];go_simp;try go_bits))
 have hg3':(W2.alloc (.cells #[Value.string x] 9)).grownBy w3 v.ownBlock:=hg3;have hL3:w3.heap[l]?=some (.loop {m4 fn sv Bs D .ready none with state:=.busy}):=(hg3'.block l (by simp;omega) (ne_of hL2 (λcur e=>by cases e))).trans ((Below.heap_alloc _ _ l hl2).trans hL2);have hK3:w3.heap[D]?=some (.deferred (some [])):=(hg3'.block D (by simp;omega) (ne_of hK2 (λcur e=>by cases e))).trans ((Below.heap_alloc _ _ D hDlt).trans hK2);obtain⟨w4,hw4⟩:∃w4,w3.setCell ⟨Bs,0,none⟩ (.slice (some ⟨g',0,none⟩) (ss.length+1) cap')=w4:=⟨_,rfl⟩;rw[hw4];have hg4:w3.grownBy w4 (some Bs):=by rw[<-hw4];exact aia _ _ _
 have hv4:w4.heap[Bs]?=some (.cells #[.slice (some ⟨g',0,none⟩) (ss.length+1) cap'] 30 (0,0)):=by rw[<-hw4];exact anQ _ hv3
 have hL4:w4.heap[l]?=some (.loop {m4 fn sv Bs D .ready none with state:=.busy}):=(hg4.block l (Array.getElem?_eq_some_iff.1 hL3).1 (λe=>hBl (by cases e;rfl))).trans hL3;have hK4:w4.heap[D]?=some (.deferred (some [])):=(hg4.block D (Array.getElem?_eq_some_iff.1 hK3).1 (λe=>hDB (by cases e;rfl))).trans hK3;have hrow4:=hown'.kept hg4 (iG hown' hv3 (λcur e=>by cases e));have hl4:l<w4.heap.size:=(Array.getElem?_eq_some_iff.1 hL4).1;have hb3:Below w0.heap.size W w3:=(hbW2.alloc hb2.size _).grown hg3' (by have:=hb2.size;simp;omega) (λk e=>(hrow2.lt k e).1);have hb3s:w0.heap.size<=w3.heap.size:=(h.below.trans hb3).size;have hb4:Below w0.heap.size W w4:=hb3.grown hg4 hb3s (λk e=>by cases e;exact h0B);have hb4s:w0.heap.size<=w4.heap.size:=(h.below.trans hb4).size;clear hw4;have hb5:∀o,Below w0.heap.size W (w4.putObj l o):=λo=>hb4.grown (cA _ _ _) hb4s (λk e=>by cases e;exact h0l)
 refine⟨_,_,run_endRound none hL4,rfl,⟨⟨_,(World.putObj_heap_other hBl).trans hv4,?_,by simp⟩,World.putObj_heap_same hl4,(World.putObj_heap_other hDl).trans hK4,h.below.trans (hb5 _)⟩,hb5 _⟩;have:=hrow4.kept (cA w4 l (.loop {{m4 fn sv Bs D .ready none with state:=.busy}with state:=if(none:Option Code).isNone then .ready else .done,pending:=none})) (iG hrow4 hL4 (λcur e=>by cases e));simpa using this
set_option maxRecDepth 100000 in
set_option maxHeartbeats 4000000 in
def aau (F:Fence) (n:Nat) (h11:F.fn 385) (h7:F.fn 306) (hro:F.round=none) (hn:2<=n) (Bv:Nat) (sv:Value) (zs:List ByteArray) (hN:zs.length<=maxLen) (hNb:zs.length*16<=140737488355328) (w:World)
 (hBv:Bv<w.heap.size) (hc:w.cell? ⟨Bv,0,none⟩=some sv)
 (hI:∃a cap,sv= .slice a zs.length cap/\(zs=[]\/∃b off,a=some ⟨b,off,none⟩/\b<w.heap.size/\∀j,(h:j<zs.length)->w.cell? ⟨b,off+j,none⟩=some (.string zs[j]))):
 CallsIn F n Tryz.prog 385 #[.slice none 0 0,.func (.func 306) #[] #[.pointer (some ⟨Bv,0,none⟩)]] w λe w'=>∃(v:Value),e= .returned v/\w'.ownsRow w.heap.size 9 1 v zs.length (zs.map Value.string)/\(v= .slice none 0 0↔zs=[])/\Below w.heap.size w w':=by
 have h1:1<=n:=by omega
 have eg:∀args w,(callFunc 306 args).run Tryz.prog w= .ok (.enter 306 args) w:=λargs w=>enters_of Tryz.func306 (by kernel_rfl) rfl args w
 refine callsIn_of_wp_marks Tryz.func385 rfl h11 ?_ hro;simp only[Tryz.ntmps385,List.size_toArray,List.length_cons,List.length_nil,Nat.reduceAdd,Nat.reduceSub,Array.replicate_succ,Array.replicate_zero,List.push_toArray,List.append_toArray,List.nil_append,List.cons_append]
 gi_wp2
 refine wpIn_rangeFunc ?_;intro fn hfn;rw[hro];generalize hlb:(#[.pointer (some ⟨Bv,0,none⟩)]:Array Value)=lb;obtain⟨W0,hW0⟩:∃W0,w.alloc (.cells #[.slice none 0 0] 30)=W0:=⟨_,rfl⟩;have hs0:W0.heap.size=w.heap.size+1:=by rw[<-hW0];simp
 have hv0:W0.heap[w.heap.size]?=some (.cells #[.slice none 0 0] 30 (0,0)):=by rw[<-hW0];exact World.alloc_heap_new w _
 have hb0:Below w.heap.size w W0:=by rw[<-hW0];exact(Below.refl _ w).alloc (Nat.le_refl _) _
 rw[hW0];obtain⟨W1,hW1⟩:∃W1,(W0.alloc (.deferred (some []))).alloc (.loop (m4 fn (.func (.func 306) #[] lb) w.heap.size W0.heap.size .ready none))=W1:=⟨_,rfl⟩;have hold:∀k,k<W0.heap.size->W1.heap[k]?=W0.heap[k]?:=λk hk=>by
  rw[<-hW1];exact(Below.heap_alloc _ _ k (by simp;omega)).trans (Below.heap_alloc _ _ k hk)
 have hb1:Below w.heap.size w W1:=by rw[<-hW1];exact(hb0.alloc hb0.size _).alloc (by have:=hb0.size;simp;omega) _
 have hs1:W1.heap.size=W0.heap.size+2:=by rw[<-hW1];simp
 have hM:Kk w fn (.func (.func 306) #[] lb) w.heap.size (W0.heap.size+1) W0.heap.size [] W1:=
  ⟨⟨_,(hold w.heap.size (by omega)).trans hv0,⟨rfl,.inl ⟨rfl,rfl⟩⟩,by simp⟩,
   by rw[<-hW1];have:=World.alloc_heap_new (W0.alloc (.deferred (some []))) (.loop (m4 fn (.func (.func 306) #[] lb) w.heap.size W0.heap.size .ready none));rwa [World.size_alloc]at this,
   by rw[<-hW1];exact(Below.heap_alloc _ _ _ (by simp)).trans (World.alloc_heap_new W0 _),hb1⟩
 refine⟨W0.heap.size+1,[{target:=.collected W0.heap.size,args:=#[]}],W1,{target:=.fn (.func 306) lb,args:=#[.func (.yield (W0.heap.size+1)) #[] #[]]},W1,306,
  #[.func (.yield (W0.heap.size+1)) #[] #[]]++lb,W1,?_,?_,?_,?_,λ_=>h1,?_⟩
 .rw[<-hW1];exact run_enterLoop_outer _ _ _ _ _
 .simp[resolve,go_sem]
 .intro f' hf';simp[Target.leads]at hf';subst hf';exact h7
 .simp[invoke,go_sem,eg]
 .have hround:CallsIn F (n-1) Tryz.prog 306 (#[.func (.yield (W0.heap.size+1)) #[] #[]]++lb) W1 λe W'=>(∃v,e= .returned v)/\Kk w fn (.func (.func 306) #[] lb) w.heap.size (W0.heap.size+1) W0.heap.size zs W':=by
   obtain⟨a,cap,rfl,hz⟩:=hI;have hcW:=(hb1.cell (p:=⟨Bv,0,none⟩) hBv).trans hc;subst hlb;rcases hz with rfl|⟨b,off,rfl,hb,hcs⟩
   .exact aar F (n-1) h7 hro _ Bv cap a _ W1 hcW hM
   .exact aaq F (n-1) h7 hro (by omega) _ Bv w.heap.size b off cap zs hNb hb _
     (λRU x W hJ hl=>aat F (n-1-1) w fn hfn _ w.heap.size (W0.heap.size+1) W0.heap.size (by omega) (by omega) (by omega) (Nat.le_refl _) (by omega) zs.length hN hNb RU x W hJ hl)
     W1 hcW (λj hj=>(hb1.cell (p:=⟨b,off+j,none⟩) hb).trans (hcs j hj)) hM
  refine hround.mono ?_;rintro e W2 ⟨⟨v0,rfl⟩,h2⟩;obtain⟨v,hv,hrow,hnil⟩:=h2.box;have hend:=run_endLoop (P:=Tryz.prog) h2.L (by simp[m4]);obtain⟨W3,hW3⟩:∃W3,W2.putObj (W0.heap.size+1) (.loop {m4 fn (.func (.func 306) #[] lb) w.heap.size W0.heap.size .ready none with state:=.exhausted})=W3:=⟨_,rfl⟩;rw[hW3]at hend;have hg3:W2.grownBy W3 (some (W0.heap.size+1)):=by rw[<-hW3];exact cA _ _ _
  have hv3:W3.heap[w.heap.size]?=some (.cells #[v] 30 (0,0)):=by rw[<-hW3];exact(World.putObj_heap_other (by omega)).trans hv
  have hK3:W3.heap[W0.heap.size]?=some (.deferred (some [])):=by rw[<-hW3];exact(World.putObj_heap_other (by omega)).trans h2.K
  have hrow3:=hrow.kept hg3 (iG hrow h2.L (λcur e=>by cases e));have hb3:Below w.heap.size w W3:=h2.below.grown hg3 h2.below.size (λk e=>by cases e;omega);obtain⟨hc3,hf3⟩:=mf hv3;clear hW3;refine⟨none,W3,hend,?_⟩
  gi_wp2
  rw[<-hs0];refine⟨by simp,.inl ⟨_,_,rfl,run_takeDeferred hK3,?_⟩⟩;exact⟨_,results_tmp rfl _ _ _,v,rfl,hrow3.kept (cA _ _ _) (iG hrow3 hK3 (λcur e=>by cases e)),hnil,hb3.grown (cA _ _ _) hb3.size (λk e=>by cases e;omega)⟩
set_option maxHeartbeats 1000000 in
def aav (F:Fence) (n:Nat) (h8:F.fn 304) (h11:F.fn 385) (h7:F.fn 306) (hro:F.round=none) (hn:3<=n) (Bv:Nat) (sv:Value) (zs:List ByteArray) (hN:zs.length<=maxLen) (hNb:zs.length*16<=140737488355328) (w:World)
 (hBv:Bv<w.heap.size) (hc:w.cell? ⟨Bv,0,none⟩=some sv)
 (hI:∃a cap,sv= .slice a zs.length cap/\(zs=[]\/∃b off,a=some ⟨b,off,none⟩/\b<w.heap.size/\∀j,(h:j<zs.length)->w.cell? ⟨b,off+j,none⟩=some (.string zs[j]))):
 CallsIn F n Tryz.prog 304 #[.func (.func 306) #[] #[.pointer (some ⟨Bv,0,none⟩)]] w λe w'=>∃(v:Value),e= .returned v/\w'.ownsRow w.heap.size 9 1 v zs.length (zs.map Value.string)/\(v= .slice none 0 0↔zs=[])/\Below w.heap.size w w':=by
 have h1:1<=n:=by omega
 refine callsIn_of_wp Tryz.func304 rfl h8 ?_ hro;simp only[Tryz.ntmps304,List.size_toArray,List.length_cons,List.length_nil,Nat.reduceAdd,Nat.reduceSub,Array.replicate_succ,Array.replicate_zero,List.push_toArray,List.append_toArray,List.nil_append,List.cons_append]
 gi_wp2_with (gi_at_call 385;refine(aau F (n-1) h11 h7 hro (by omega) Bv sv zs hN hNb _ hBv hc hI).mono ?_;rintro e w' ⟨v,rfl,hrow,hnil,hb⟩)
 go_ret
 exact⟨v,rfl,hrow,hnil,hb⟩
end
end Go.Proofs
namespace Go.Ab
section
set_option maxHeartbeats 1000000
open Go Go.RowKit Go.Proofs
variable {P:Program}{ge:GE}{hp:Hp}
def dy.zz{g w}(r:dy g w hp){j}(A:hp j=none){sz n cap b xs elem}(C:xs≠ []){vals rest}(L:g.bV<=b/\b<w.heap.size)(N:∀i o,hp i=some o->dq g i o≠some b)(D:g.fz b=[])(X:VE g sz xs vals)(hw:w.heap[b]?=some (.cells (vals++rest).toArray elem (0,0)))(hn:n=xs.length)(P:n<=cap)(hm:cap*sz<=vals.length+rest.length)(K:n<=4611686018427387904):
 ∃g',AV.Le g g'/\dy g' w (cW hp j (.bD sz xs))/\ac g' (.ms j sz n) (.slice (some ⟨b,0,none⟩) n cap):=by
 subst hn
 let t:TI:=⟨some ⟨b,0,none⟩,xs.length,cap⟩
 have r0:=r.bO t A;have m:=g.gG t (r.cT A);have s:=lu (g.bO j t) (j:=j) b (r0.cT A);have l:=m.trans s;have key:∀i p,cW hp j (.bD sz xs) i=some p->(i=j/\p= .bD sz xs)\/(i≠j/\hp i=some p):=by
  intro i p h;by_cases e:i=j
  .subst e;rw[bp]at h;simp at h;exact .inl ⟨rfl,h.symm⟩
  .rw[aZ _ _ e]at h;exact .inr ⟨e,h⟩
 have x:∀i p,hp i=some p->dq ((g.bO j t).push j b) i p=dq g i p:=λi p h=>by
  have c:i≠j:=λe=>by rw[e,A]at h;simp at h
  exact gC p l (r.dl h) (by simp[AV.push,AV.bO,c])
 have y:dq ((g.bO j t).push j b) j (.bD sz xs)=some b:=by cases xs with|nil=>exact absurd rfl C|cons=>simp[dq,AV.push]
 refine⟨(g.bO j t).push j b,l,⟨λi=>?_,r.jI,r.size,r.fz,?_,?_,?_⟩,?_⟩
 .by_cases e:i=j
  .subst e;simp[AV.push,cW]
  .simp only[AV.push,AV.bO,aZ _ _ e,e,false_or];exact r.dC i
 .intro i p h;rcases key i p h with⟨rfl,rfl⟩|⟨c,h⟩
  .intro _;refine⟨vals,rest,elem,VE.mono l _ _ _ X,by simpa[AV.push]using hw,by simpa[AV.push,AV.bO]using D,?_⟩;exact⟨by simp[AV.push,AV.bO,t],by simp[AV.push,AV.bO,t,P],by simp[AV.push,AV.bO,t],by simpa[AV.push,AV.bO,t]using hm⟩
  .exact(r.fR i p h).lU l (r.dl h) (by simp[AV.push,AV.bO,c]) λb L=>⟨rfl,rfl⟩
 .intro i p d h f;rcases key i p h with⟨rfl,rfl⟩|⟨c,h⟩
  .rw[y]at f;simp at f;subst f;exact L
  .rw[x i p h]at f;exact r.el i p d h f
 .intro i k p q d hi Q z a;rcases key i p hi with⟨rfl,rfl⟩|⟨c,h⟩
  .rcases key k q Q with⟨rfl,rfl⟩|⟨u,v⟩
   .rfl
   .rw[y]at z;simp at z;subst z;rw[x k q v]at a;exact absurd a (N k q v)
  .rcases key k q Q with⟨rfl,rfl⟩|⟨u,v⟩
   .rw[y]at a;simp at a;subst a;rw[x i p h]at z;exact absurd z (N i p h)
   .rw[x i p h]at z;rw[x k q v]at a;exact r.jH i k p q d h v z a
 .simp only[ac];exact⟨by simp[AV.push],_,cap,rfl,⟨P,K⟩,by simp,λ_=>by simp[AV.push],by simp,by simp[dV,AV.push,AV.bO,t]⟩
def QE{g}:∀(x:U Z)vals,VE g 1 (x.map G.str) vals->vals=x.map Value.string
 | [],vals,h=>by simpa[VE]using h
 |z::x,vals,h=>by
  simp only[Hx,VE]at h;obtain⟨v,rest,rfl,_,y,a⟩:=h;simp only[ac]at y;subst y;rw[QE x rest a];rfl
def zC{g}:(x:U Z)->VE g 1 (x.map G.str) (x.map Value.string)
 | []=>rfl
 |z::x=>⟨.string z,x.map Value.string,rfl,⟨rfl,by intro u hu;simp[Value.cells]at hu;subst hu;rfl⟩,rfl,zC x⟩
def ckB{p:U Z}{u}(h:ck (([]:U Z).length+p.length) 16=some u):p.length*16<=140737488355328:=by
 have:=aaW h
 grind
def avB(he:bW Tryz.prog 304=true)(p:U Z)(hN:p.length*16<=140737488355328):
 dB Tryz.prog ge 304 [.fn (.func 306) [] [.eU (0,0) 0]] [((0,0),.cells [.sl 1 .no (p.map G.str)])] [] (.ms (1,0) 1 ((p.map G.str).length)) ([]++[((1,0),.bD 1 (p.map G.str))]):=by
 refine⟨he,λg fr w vs t r kk hv=>?_⟩;simp only[VL,ac]at hv;obtain⟨_,_,e1,⟨fa,ca,rfl,X,_,_,e4,⟨_,rfl⟩,e5⟩,e3⟩:=hv;subst e3;have efa:fa=#[]:=by cases fa;simpa using X
 have eca:ca=#[.pointer (some ⟨g.cC (0,0),0,none⟩)]:=by subst e5;exact M9.1 (by rw[e4])
 have Rw:vs=#[.func (.func 306) #[] #[.pointer (some ⟨g.cC (0,0),0,none⟩)]]:=by subst efa eca;exact M9.1 (by rw[e1])
 subst Rw;have u:bG (aN ([((0,0),.cells [.sl 1 .no (p.map G.str)])]++[])) fr (0,0)=some (.cells [.sl 1 .no (p.map G.str)]):=by simp[bG,aN]
 obtain⟨us,rest,elem,A,aok,hfz⟩:=r.rel.fR (0,0) _ u;simp only[VL]at A;obtain⟨sv,_,rfl,C,rfl⟩:=A;have D:=(r.rel.el (0,0) _ (g.cC (0,0)) u rfl).2;have q:w.cell? ⟨g.cC (0,0),0,none⟩=some sv:=by simp[World.cell?,aok]
 simp only[ac]at C;obtain⟨a,cap,rfl,_,_,hel,_,_⟩:=C;have h48:p.length<=8796093022208:=by omega
 have hK:=(aav Fence.wide 3 trivial trivial trivial rfl (Hq _) (g.cC (0,0)) (.slice a (p.map G.str).length cap) p (by unfold maxLen;omega) hN w D q ?_)
 .refine(callsIn_wide.1 hK).mono λe w'⟨v,e1,y,l,hb⟩=>?_
  subst e1;have r1:=r.rel.grown hb;have z:bG (aN ([((0,0),.cells [.sl 1 .no (p.map G.str)])]++[])) fr (1,0)=none:=by
   have hf:fr (1,0)=none:=by
    cases hq:fr (1,0)with
    |none=>rfl
    |some o=>exact absurd (t (1,0) DS) (by simp[ol])
   simp[bG,aN,hf]
  have m:cW (bG (aN ([((0,0),.cells [.sl 1 .no (p.map G.str)])]++[])) fr) (1,0) (.bD 1 (p.map G.str))=bG (aN ([((0,0),.cells [.sl 1 .no (p.map G.str)])]++([]++[((1,0),.bD 1 (p.map G.str))]))) fr:=by
   funext j;by_cases e:j=(1,0)
   .subst e;simp[cW,bG,aN]
   .rw[aZ _ _ e];simp[bG,aN,e]
  have d:gp (aN ([((0,0),.cells [.sl 1 .no (p.map G.str)])]++([]++[((1,0),.bD 1 (p.map G.str))]))) fr:=by
   intro j;by_cases e:j=(1,0)
   .subst e;right;cases hq:fr (1,0)with
    |none=>rfl
    |some o=>exact absurd (t (1,0) DS) (by simp[ol])
   .rcases r.cM j with h|h
    .left;simpa[aN,e]using h
    .exact .inr h
  by_cases x:p=[]
  .subst x;have hv0:=l.2 rfl;subst hv0;have Q:=(r1.bO ⟨none,0,0⟩ z);have r3:=Q.ki z 1 0;have s:=(g.gG ⟨none,0,0⟩ (r1.cT z)).trans (lu _ 0 (Q.cT z));refine⟨_,_,_,_,rfl,s,⟨?_,d⟩,?_,rfl,rfl⟩
   .rw[<-m];exact r3
   .simp only[ac];exact⟨by simp[AV.push],none,0,by simp,by simp,by simp,by simp,by simp,by simp[dV,AV.push,AV.bO]⟩
  .obtain⟨hlen,y⟩:=y;rcases y with⟨rfl,h0⟩|⟨b,K,k,rfl,ajx,L,hcc,hmx,hsz,N⟩
   .exact absurd (l.1 rfl) x
   .have hlt:b<w'.heap.size:=(LD.1 L).1;have ajY:g.fz b=[]:=by
     apply L3;intro hne;have:=r.rel.gm hne;omega
    have am5:k=(p.map Value.string++k.toList.drop p.length).toArray:=by
     apply M9.1;rw[List.toList_toArray]
     conv=>lhs;rw[<-NY p.length k.toList]
     rw[Nat.mul_one]at N;rw[N]
    have ap5:p.length<=4611686018427387904:=by omega
    obtain⟨g',s,Q,hv'⟩:=r1.zz (j:=(1,0)) z (sz:=1) (n:=p.length) (cap:=K) (b:=b) (xs:=p.map G.str) (elem:=9) (by simpa using x) (vals:=p.map Value.string) (rest:=k.toList.drop p.length)
     ⟨KV r.rel.size ajx,hlt⟩ (λi o hi ho=>by have:=(r.rel.el i o b hi ho).2;omega) ajY (zC p) (by rw[<-am5];exact L) NP hcc Ar ap5
    refine⟨_,g',_,_,rfl,s,⟨?_,d⟩,?_,rfl,rfl⟩
    .rw[<-m];exact Q
    .simpa using hv'
 .refine⟨a,cap,by simp,?_⟩;by_cases x:p=[]
  .exact .inl x
  .right;obtain⟨b,off,vals,rfl,ai2,f⟩:=hel (by simpa using x);have:=QE p vals ai2;subst this;have P:g.fz b≠ []:=by
    intro e;rw[e]at f;have:=f.length_le;simp at this;exact x this
   obtain⟨c,e,fz,hc,hcp⟩:=r.rel.fz b P;refine⟨b,off,rfl,r.rel.gm P,λj hj=>?_⟩;obtain⟨t1,ht1⟩:=f;obtain⟨t2,ht2⟩:=hcp;have h1:((g.fz b).drop off)[j]?=some (Value.string p[j]):=by
    rw[<-ht1,Ld (by simpa using hj)];simp[hj]
   rw[L1]at h1;have h2:c.toList[off+j]?=some (Value.string p[j]):=by
    rw[<-ht2];rw[Ld (gD h1)];exact h1
   simp[World.cell?,hc];simpa using h2
end
section
variable {P:Program}{ge:GE}{N b:Nat}{tm:Tm}{l:HL}{ti:Nat->T TE}
def Nd{g g'}(a:AV.Le g g'){x b}(hx:∀v,ac g x v->ac g' b v):∀xs vs,VL g xs vs->∀i,xs[i]?=some x->VL g' (xs.set i b) vs
 | [],vs,_,i,z=>by simp at z
 |y::xs,vs,h,i,z=>by
  simp only[VL]at h;obtain⟨v,rest,rfl,c,d⟩:=h;cases i with
  |zero=>
   simp at z;subst z;exact⟨v,rest,rfl,hx _ c,VL.mono a _ _ d⟩
  |succ i=>
   simp at z;exact⟨v,rest,rfl,ac.mono a _ _ c,Nd a hx xs rest d i z⟩
def Nc{g g'}(a:AV.Le g g'){sz x b}(hx:∀v,ac g x v->ac g' b v):∀xs vs,VE g sz xs vs->∀i,xs[i]?=some x->VE g' sz (xs.set i b) vs
 | [],vs,_,i,z=>by simp at z
 |y::xs,vs,h,i,z=>by
  simp only[VE]at h;obtain⟨v,rest,rfl,c,d,e⟩:=h;cases i with
  |zero=>
   simp at z;subst z;exact⟨v,rest,rfl,c,hx _ d,VE.mono a _ _ _ e⟩
  |succ i=>
   simp at z;exact⟨v,rest,rfl,c,ac.mono a _ _ d,Nc a hx xs rest e i z⟩
def dy.Ia{g w hp}(r:dy g w hp){j sz xs xs'}(m:hp j=some (.bD sz xs))(n:xs≠ [])(h:ey g w j (.bD sz xs')):dy g w (cW hp j (.bD sz xs')):=by
 have key:∀i p,cW hp j (.bD sz xs') i=some p->(i=j/\p= .bD sz xs')\/(i≠j/\hp i=some p):=by
  intro i p h;by_cases e:i=j
  .subst e;rw[bp]at h;simp at h;exact .inl ⟨rfl,h.symm⟩
  .rw[aZ _ _ e]at h;exact .inr ⟨e,h⟩
 have z:∀b,dq g j (.bD sz xs')=some b->dq g j (.bD sz xs)=some b:=λb d=>by
  cases xs with
  |nil=>exact absurd rfl n
  |cons y ys=>cases xs' with
   |nil=>simp[dq]at d
   |cons=>simpa[dq]using d
 refine⟨λi=>?_,r.jI,r.size,r.fz,λi p x=>?_,λi p b x d=>?_,λi k p q b x v a c=>?_⟩
 .by_cases e:i=j
  .subst e;rw[bp,r.dC i,m];simp
  .rw[aZ _ _ e];exact r.dC i
 .rcases key i p x with⟨rfl,rfl⟩|⟨_,x⟩
  .exact h
  .exact r.fR i p x
 .rcases key i p x with⟨rfl,rfl⟩|⟨_,x⟩
  .exact r.el _ _ b m (z b d)
  .exact r.el i p b x d
 .rcases key i p x with⟨o,s⟩|⟨o,f⟩<;>rcases key k q v with⟨t,u⟩|⟨t,l⟩
  .rw[o,t]
  .subst o s;exact r.jH _ k _ q b m l (z b a) c
  .subst t u;exact r.jH i _ p _ b f m a (z b c)
  .exact r.jH i k p q b f l a c
def af9 j i c{q sz x n cs xs ys}(h:lk l j=some (.bD sz xs))(m:fy xs i=some (.agg cs))(A:fy cs c=some (.ms q x n))
 (hq:lk l q=some (.bD x ys)) (L:ys.length=n) (y:wh j q=false):
 Wk 1 N tm (aN l) tm (aN (dp j (.bD sz (eH xs i (.agg (eH cs c (.sl x .no ys))))) (dp q (.bD x []) l))):=by
 subst L;intro g fr w tmps fi r v;have y:=gR.1 y;rw[<-cQ]at h hq;rw[dJ]at m A;have z:xs≠ []:=λe=>by subst e;simp at m
 obtain⟨vals,rest,elem,o1,o2,_,o4⟩:=r.rel.fR j _ (aK h) z;obtain⟨C,f,_,o,P⟩:=r.rel.nw (aK hq);rw[bz,bx]at o;have k:Ab.bG (aN (dp q (.bD x []) l)) fr j=some (.bD sz xs):=by
  refine aK ?_;rw[<-bx,aZ _ _ y];exact h
 have p:=r.rel.dl (aK h);obtain⟨b,ajc,s,p1,d,Q,X⟩:=o.fR j _ k z;have t:b=vals:=by
  rw[f.cC j p,o2]at d;have d:=GZ d;simp only[Ls]at d;have e:=d.1;have e:vals++rest=b++ajc:=by simpa using e
  grind [VE.length,List.append_inj]
 subst t;have hx:∀v,ac g (.agg cs) v->ac C (.agg (cs.set c (.sl x .no ys))) v:=λv D=>by
  simp only[ac]at D |-;obtain⟨a,e1,e2⟩:=D;exact⟨a,e1,Nd f P cs _ e2 c A⟩
 have K:=o.Ia k z (xs':=eH xs i (.agg (eH cs c (.sl x .no ys)))) (λ_=>⟨b,ajc,s,by rw[eR,eR];exact Nc f hx xs _ o1 i m,d,Q,by rw[eR,NF];exact X⟩);rw[bz,bx]at K;refine⟨C,f.some _,⟨K,?_⟩,v.mono f⟩;have u:gp (aN (dp q (.bD x []) l)) fr:=by rw[<-bx];exact r.cM.fW hq
 rw[<-bx];exact u.cW (r.cM.none h)
end
section
variable {P:Program}{ge:GE}{N b:Nat}{tm:Tm}{l:HL}{ti:Nat->T TE}{α:Type}{f:α->G}
def eB(f:α->G)(ts:U α)(p:Nat)(x:G):U G:=(ts.map f).set p x
def cD{ts p x}:(eB f ts p x).length=ts.length:=by simp[eB]
def iN{ts p x}{i:Int}(h:i.toNat=p/\p<ts.length):fy (eB f ts p x) i.toNat=some x:=by
 rw[dJ,h.1,eB,M7 (by simpa using h.2)]
def Aq{ts p x y i v}(h:aA ts i=some v)(e:f v=y)(z:i.toNat≠p):fy (eB f ts p x) i.toNat=some y:=by
 obtain⟨_,h⟩:=p8 h;rw[dJ,eB,List.getElem?_set_ne (λq=>z q.symm),K9,h,<-e];rfl
def qk{ts p x z i}(h:i=p):bF ((eB f ts p x).set i z) (eB f ts p z):=by
 subst h;simp only[eB,NR];exact .refl _
def agx{ts p x z i v}(h:Sub z (f v))(y:i≠p):bF ((eB f ts p x).set i z) (eB f (ts.set i v) p x):=by
 have e:eB f (ts.set i v) p x=((ts.map f).set p x).set i (f v):=by simp only[eB,axD];exact List.set_comm _ _ y
 grind [eB,bF.qP]
def cr{ts p x u}(h:Sub x (f u)):bF (eB f ts p x) ((ts.set p u).map f):=by
 grind [eB,List.map_set,bF.qP]
theorem dN.qP{x y}(h:Vw l x y):∀{xs ys}p,dN l xs ys->dN l (xs.set p x) (ys.set p y)
 |_,_,_,.nil=>.nil
 |_,_,0,.cons _ k=>.cons h k
 |_,_,p+1,.cons q k=>.cons q (k.qP h p)
def qY{ts p x u}[hp:Pl f](h:Vw l x (f u)):dN l (eB f ts p x) ((ts.set p u).map f):=by
 rw[eB,axD];refine dN.qP h p (AN (.refl _) (eP.2 λy z=>?_))
 grind [List.mem_map.1,hp.out]
theorem vx{j o}:∀{l},lk l j=some o->aN (dp j o l)=aN l:=λ{l}h=>by
 rw[<-bx];funext i
 grind [bp,cQ,aZ]
def em j c{q sz y n p ts cs ys}(h:lk l j=some (.bD sz (eB f ts p (.agg cs))))(a:fy cs c=some (.ms q y n))
 (hq:lk l q=some (.bD y ys)) (b:ys.length=n) (z:wh j q=false):
 Wk 1 N tm (aN l) tm (aN (dp j (.bD sz (eB f ts p (.agg (eH cs c (.sl y .no ys))))) (dp q (.bD y []) l))):=by
 by_cases hp:p<ts.length
 .have:=af9 (N:=N) (tm:=tm) j p c h (by rw[dJ,eB,M7 Jj]) a hq b z
  rwa [show eH (eB f ts p (.agg cs)) p (.agg (eH cs c (.sl y .no ys)))=eB f ts p (.agg (eH cs c (.sl y .no ys))) by rw[eR,eB,eB,NR]]at this
 .have e:∀x,eB f ts p x=ts.map f:=λx=>by simp only[eB];exact NV (by simpa using P9 hp)
  intro g fr w tmps i r v;obtain⟨k,d,m,o⟩:=kR hq r;have z:=gR.1 z;have s:lk (dp q (.bD y []) l) j=some (.bD sz (eB f ts p (.agg (eH cs c (.sl y .no ys))))):=by
   rw[<-cQ,<-bx,aZ _ _ z,cQ,h,e,e]
  grind [d.some,v.mono,vx]
abbrev FR(x y:G):Prop:=∀(g h:AV)(v:Value),ac g x v->ac h y v
inductive F9:List G->List G->Prop
 |nil:F9 [] []
 |cons {x y:G} {xs ys:List G}:FR x y->F9 xs ys->F9 (x::xs) (y::ys)
theorem F9.out{g h}:∀{xs ys},F9 xs ys->∀vs,VL g xs vs->VL h ys vs
 |_,_,.nil,vs,e=>by simpa only[VL]using e
 |_,_,.cons a b,vs,e=>by
  simp only[VL]at e |-;obtain⟨v,rest,e0,e1,e2⟩:=e;exact⟨v,rest,e0,a _ _ _ e1,b.out rest e2⟩
def lg{k n}:FR (.int k n) (.int k n):=λ_ _ _ h=>by simpa only[ac]using h
def Ga{b}:FR (.bool b) (.bool b):=λ_ _ _ h=>by simpa only[ac]using h
def Ib{s}:FR (.str s) (.str s):=λ_ _ _ h=>by simpa only[ac]using h
def Of{sz xs}:FR (.sl sz .no xs) (.sl 0 .no (List.replicate xs.length .any)):=awh
def ZM{sz xs}(e:xs.length=0):FR (.sl sz .no xs) (.sl sz .no []):=λg h v x=>by
 have:xs=[]:=KE e;subst this;simp only[ac,B1]at x |-;obtain⟨a,cap,e1,e2,e3,_,y,_⟩:=x;exact⟨a,cap,e1,e2,e3,λq=>absurd rfl q,y,trivial⟩
def Gb{xs ys}(k:F9 xs ys):FR (.agg xs) (.agg ys):=λg h v x=>by
 simp only[ac]at x |-
 grind [k.out]
def VU{xs ys}(k:F9 xs ys):FR (.bZ xs) (.bZ ys):=λg h v x=>by
 simp only[ac]at x |-
 grind [k.out]
def wn{x y xs ys}(a:FR x y)(b:F9 xs ys):F9 (x::xs) (y::ys):=.cons a b
def avL{j c q sz y n p ts cs ys}(h:lk l j=some (.bD sz (eB f ts p (.agg cs))))(D:fy cs c=some (.ms q y n))(hq:lk l q=some (.bD y ys))(N:ys.length=n)(b:wh j q=false){g fr w}(r:gh g w (aN l) fr):
 ∃g',AV.Le g g'/\gh g' w (aN (dp j (.bD sz (eB f ts p (.agg (eH cs c (.sl y .no ys))))) (dp q (.bD y []) l))) fr:=by
 subst N;obtain⟨s,m,o,P⟩:=kR hq r;have b:=gR.1 b;have z:aN (dp q (.bD y []) l) j=some (.bD sz (eB f ts p (.agg cs))):=by rw[<-bx,aZ _ _ b,cQ,h]
 by_cases hp:p<ts.length
 .have t:(eB f ts p (.agg cs))[p]?=some (.agg cs):=by rw[eB,M7 Jj]
  have d:eB f ts p (.agg cs)≠ []:=λe=>by rw[e]at t;simp at t
  rw[<-cQ]at h;obtain⟨vals,rest,elem,o1,o2,_,o4⟩:=r.rel.fR j _ (aK h) d;obtain⟨i,ajc,u,Q,k,X,p4⟩:=o.rel.fR j _ (aK z) d;have A:=r.rel.dl (aK h);have C:i=vals:=by
   rw[m.cC j A,o2]at k;have k:=GZ k;simp only[Ls]at k;have e:vals++rest=i++ajc:=by simpa using k.1
   have n1:=VE.length _ _ o1;have n2:=VE.length _ _ Q;exact(aw2 e B9).1.symm
  subst C;rw[dJ]at D;have hx:∀v,ac g (.agg cs) v->ac s (.agg (cs.set c (.sl y .no ys))) v:=λv K=>by
   simp only[ac]at K |-;obtain⟨a,e1,e2⟩:=K;exact⟨a,e1,Nd m P cs _ e2 c D⟩
  have e3:(eB f ts p (.agg cs)).set p (.agg (cs.set c (.sl y .no ys)))=eB f ts p (.agg (eH cs c (.sl y .no ys))):=by rw[eR,eB,eB,NR]
  have L:=o.rel.Ia (aK z) d (xs':=eB f ts p (.agg (eH cs c (.sl y .no ys)))) (λ_=>⟨i,ajc,u,by rw[<-e3];exact Nc m hx _ _ o1 p t,k,X,by rw[<-e3,NF];exact p4⟩);rw[bz,bx]at L;refine⟨s,m,L,?_⟩;rw[<-bx];exact o.cM.fW z
 .have e:∀x,eB f ts p x=ts.map f:=λx=>by simp only[eB];exact NV (by simpa using P9 hp)
  refine⟨s,m,?_⟩;rw[vx (by rw[<-cQ,z,e,e])];exact o
theorem vg.trans{f y g a c}(h:vg b f y a)(k:vg b y g c):vg b f g (a++c):=by
 refine⟨λj x z=>?_,λj x=>k.2.1 j (h.2.1 j x),λj x d=>?_⟩
 .simp only[Hy,not_or]at z
  grind [k.1,h.2.1,z.2,h.1,z.1]
 .cases e:(aN y j).isSome with
  |true=>exact h.2.2 j x e
  |false=>exact k.2.2 j e d
def tz j c{q sz y n p ts cs ys a args K}(h:lk l j=some (.bD sz (eB f ts p (.agg cs))))(i:fy cs c=some (.ms q y n))
 (hq:lk l q=some (.bD y ys)) (m:ys.length=n) (z:wh j q=false)
 (k:bW P a=true/\ox P ge b a args (aN (dp j (.bD sz (eB f ts p (.agg (eH cs c (.sl y .no ys))))) (dp q (.bD y []) l))) (CH b (dp j (.bD sz (eB f ts p (.agg (eH cs c (.sl y .no ys))))) (dp q (.bD y []) l)) λx l' ch=>K x l' (([q]++[j])++ch))):
 bW P a=true/\ox P ge b a args (aN l) (CH b l K):=by
 have d:aN (dp q (.bD y []) l) j=some (.bD sz (eB f ts p (.agg cs))):=by rw[<-bx,aZ _ _ (gR.1 z),cQ,h]
 refine Mn (λg fr w vs _ r v=>?_) ((fJ (by rw[cQ];exact hq)).trans (fJ d)) k;obtain⟨o,e,s⟩:=avL h i hq m z r;exact⟨o,e,s,VL.mono e _ _ v⟩
def A1 q{sz ys}(hq:lk l q=some (.bD sz ys)):Wk 1 N tm (aN l) tm (aN (dp q (.bD sz []) l)):=by
 intro g fr w tmps y r v;obtain⟨z,x,a,_⟩:=kR hq r
 grind [x.some,v.mono]
instance {S ts p x}[b:Pl f][hx:UN S x]:eL S (eB f ts p x):=⟨by
 rw[eP];intro y a;simp only[eB]at a;rcases List.mem_or_eq_of_mem_set a with a|rfl
 .obtain⟨z,_,rfl⟩:=Hr.1 a;exact lA (λ_ h=>h.elim) _ (b.out z)
 .exact hx.out⟩
end
section
variable {P:Program}{ge:GE}{N b:Nat}{tm:Tm}{l:HL}{ti:Nat->T TE}{α σ ρ τ:Type}
def ZN(N:Nat)(tm:Tm)(l:HL)(y:Tm)(lo:HL):Prop:=∃x l',Wk 1 N tm (aN l) x (aN l')/\lQ x l' y lo
def Hc{x lo}(h:lQ tm l x lo):ZN N tm l x lo:=⟨_,_,dr _ _ _ _,h⟩
def jnV(N:Nat)(y:α->Tm)(lo:α->HL)(x:α⊕ρ)(K:KC):KC:=λe tm l=>match e with
 |.normal=>∃v,x= .inl v/\ZN N tm l (y v) (lo v)
 |e=>∃r,x= .inr r/\K e tm l
def aga(E:zn P ti){c K}y lo[u:∀a,UT (y a) (lo a)]{x:α⊕ρ}(h:SC P ge ti N c (jnV N y lo x K) tm l)
 (k:∀v,x= .inl v->K .normal (y v) (lo v)):br P ge 1 N c (LC K) tm (aN l):=
 hT (SC.cb E c h) λe tm hp⟨l,e1,q⟩=>by
  subst e1;cases e with
  |normal=>obtain⟨v,z,b,l',d,f⟩:=q;exact⟨_,_,cc d f.wk,_,rfl,k v z⟩
  |_=>obtain⟨r,_,q⟩:=q;exact⟨tm,_,dr _ _ _ _,l,rfl,q⟩
def lpV(N:Nat)(id:Nat)(z:σ->Tm)(lo:σ->HL)(a:α->Tm)(b:α->HL)(x:α⊕ρ)(y:σ⊕(α⊕ρ))(K:KC):KC:=λe tm l=>match e with
 |.normal=>∃s,y= .inl s/\ZN N tm l (z s) (lo s)
 |e=>qX id z lo a b x y K e tm l
def A2(E:zn P ti){id c K}(z:Nat->σ->Tm)(lo:Nat->σ->HL)b k[u:∀i s,UT (z i s) (lo i s)][uA:∀a,UT (b a) (k a)]
 {f:Nat->τ->σ->T (σ⊕(α⊕ρ))} {p} {xs} {s} {x} (h:bo f p 0 xs s=some x) (hs:lQ tm l (z 0 s) (lo 0 s))
 {en} (hx:gq (z 0 s) (lo 0 s) (xs.map en))
 (round:∀i v s y,xs[i]?=some v->i<(xs.map en).length->i+1<=4611686018427387904->f i v s=some y->SC P ge ti N c (lpV N id (z (i+1)) (lo (i+1)) b k x y K) (z i s) (lo i s))
 (stop:∀s,SC P ge ti N c (ux id b k (p s)) (z (xs.map en).length s) (lo (xs.map en).length s))
 (after:∀v,x= .inl v->K .normal (b v) (k v)):br P ge 1 N (.block id (.loop c)) (LC K) tm (aN l):=by
 refine br.wk hs.wk (Sd hx λA=>?_);simp only[B7]at A;refine br.block (br.loop (λm tm hp=>∃i s,i<=xs.length/\m=xs.length+1-i/\tm=z i s/\hp=aN (lo i s)/\bo f p i (xs.drop i) s=some x) (xs.length+1) ⟨0,s,K8 _,rfl,rfl,rfl,by simpa using h⟩ ?_);rintro m tm hp ⟨i,s,hi,rfl,rfl,rfl,h⟩;by_cases g:i<xs.length
 .have C:xs[i]?=some xs[i]:=K6 g;rw[NW g]at h;simp only[bo]at h;cases r:f i xs[i] s with
  |none=>simp[r]at h
  |some y=>
   simp only[r,B2]at h;refine hT (SC.cb E c (round i xs[i] s y C (by simpa using g) B9 r)) λe tm hp⟨l,e1,q⟩=>?_
   subst e1;by_cases d:e= .normal
   .subst d;obtain⟨D,rfl,n,l',L,Q⟩:=q;exact⟨_,_,cc L Q.wk,xs.length+1-(i+1),by omega,i+1,D,by omega,rfl,rfl,rfl,h⟩
   .have q:qX id (z (i+1)) (lo (i+1)) b k x y K e tm l:=by cases e<;>first|exact absurd rfl d|exact q
    obtain⟨n,t,X,h2⟩:=A4 (N:=N) d q (λq e=>by subst e;exact GZ h) after;refine⟨n,t,X,?_⟩;cases e<;>first|exact h2|exact absurd rfl d
 .have w:i=xs.length:=by omega
  subst w;simp only[Ov,bo,Hs]at h;have o:=stop s;simp only[B7]at o;refine hT (SC.cb E c o) λe tm hp⟨l,e1,q⟩=>?_
  subst e1;cases e with
  |exit j=>
   simp only[ux]at q;split at q
   .rename_i hj;have:=FU hj;subst this;refine⟨_,_,q.wk,?_⟩;simp only[uX,ky,J0];exact⟨_,rfl,after _ h.symm⟩
   .exact q.elim
  |_=>exact q.elim
def aei sz m(c:nx 0 l=m):Wk 1 N tm (aN l) tm (aN (((1,m),.bD sz [])::l)):=by
 subst c;intro g fr w tmps a r v;have z:=hE l 0 1 _ (Hq _);have x:=cm z (nU a _);have y:=lu g (j:=(1,nx 0 l)) 0 (r.rel.cT x);have b:=r.rel.ki x sz 0;rw[bz,bq z]at b;refine⟨g.push (1,nx 0 l) 0,y.some _,⟨b,?_⟩,v.mono y⟩;rw[<-bq z];exact r.cM.cW (nU a _)
def wo{f args D sz n xs K}m(C:dB P ge f D [] [] (.ms (1,0) sz n) ([]++[((1,0),.bD sz xs)]))(hv:dN l args D)(hx:∀g h vs,VE g sz xs vs->VE h sz xs vs)(hn:xs.length=n)(hm:nx b l=m)
 (k:K (.ms (1,m) sz n) (((1,m),.bD sz xs)::l) []):bW P f=true/\ox P ge b f args (aN l) (CH b l K):=by
 refine⟨C.1,λg fr w vs fi r kk v=>?_⟩;subst hm hn
 let L:=(g.all w).me w.heap.size w
 have hg:oO L ge:=λq cs hq=>by
  obtain⟨u,vals,h1,h2⟩:=kk q cs hq;have s:(g.cut (λ_=>False)).Le (g.all w):=⟨rfl,rfl,λb=>r.rel.pj b,λ_ h=>h.elim,λ_ h=>h.elim,λ_ h=>h.elim⟩;exact⟨u,vals,(VL.me cs vals).2 (VL.mono s _ _ (VL.cut _ _ h1 u)),h2.trans (r.rel.pj q)⟩
 have r0:dy L w ej:=⟨λj=>by simp[L,AV.all,AV.me,ej],Below.refl _ _,Hq _,λb N=>by
  simp only[L,AV.all,AV.me,zu]at N |-;split at N
  .rename_i c e fr h;exact⟨c,e,fr,h,by simp⟩
  .exact absurd rfl N,λj o h=>by simp[ej]at h,λj o b h=>by simp[ej]at h,λi j o p b h=>by simp[ej]at h⟩
 have e0:Ab.bG (aN []) ej=ej:=by funext j;simp[Ab.bG,aN,ej]
 refine(C.2 L ej w vs (λj h=>by simp[ej]at h) ⟨by simp only[Lm];rw[e0];exact r0,λj=>.inr rfl⟩ hg ((VL.me _ _).2 (dN.cb r hv _ v))).mono λe w'⟨u,g',x,hp',e1,k1,k2,k3,e2,e3⟩=>?_
 subst e2 e3;have N:Below w.heap.size w w':=by
  have:=k2.rel.jI;rw[k1.bV,k1.w0]at this;exact this
 have rg:=r.rel.grown N;have y:=hE l b 1 _ (Hq _);have t:fr (1,nx b l)=none:=by
  cases e:fr (1,nx b l)with
  |none=>rfl
  |some o=>
   have:=lB l b;rcases fi (1,nx b l) E0 with h|h
   .exact absurd h (MH 1)
   .have h:nx b l<b:=h.2;omega
 have z:=cm y t;have ap6:=k2.rel.fR (1,0) (.bD sz xs) (by simp[Ab.bG,aN,ej]);simp only[ac]at k3;obtain⟨hd,a,cap,ev,hc,ha0,ha1,hsp,ak6⟩:=k3;by_cases d:xs=[]
 .subst d;have r1:=rg.bO ⟨a,0,cap⟩ z;have A:=(g.gG ⟨a,0,cap⟩ (rg.cT z)).trans (lu _ 0 (r1.cT z));have Q:=r1.ki z sz 0;rw[bz,bq y]at Q;refine⟨u,_,.ms (1,nx b l) sz 0,_,e1,A,⟨Q,?_⟩,?_,_,[],rfl,ia,k⟩
  .rw[<-bq y];exact r.cM.cW t
  .simp only[ac];exact⟨.inl rfl,a,cap,ev,hc,ha0,λh=>absurd h (MH 0),hsp,by simp[dV,AV.push,AV.bO]⟩
 .obtain⟨vals,rest,elem,o1,o2,o3,o4⟩:=ap6 d;have amm:0<xs.length:=KS.2 d;have aiR:dq g' (1,0) (.bD sz xs)=some (g'.cC (1,0)):=by cases xs with|nil=>exact absurd rfl d|cons=>rfl
  have X:=k2.rel.el (1,0) _ _ (by simp[Ab.bG,aN,ej]) aiR;have ajx:w.heap.size<=g'.cC (1,0):=by have:=X.1;rw[k1.bV]at this;exact this
  obtain⟨t1,t2,t3,t4⟩:=o4;have hat:=ha1 amm;have hcap:cap=(g'.tl (1,0)).cap:=(ak6.2.2 t1).2;subst hat;have s:g.fz (g'.cC (1,0))=[]:=by
   cases e:g.fz (g'.cC (1,0))with
   |nil=>rfl
   |cons=>have:=r.rel.gm (b:=g'.cC (1,0)) CD;omega
  obtain⟨g2,A,Q,v2⟩:=rg.zz (j:=(1,nx b l)) z (sz:=sz) (n:=xs.length) (cap:=cap) (b:=g'.cC (1,0)) (xs:=xs) (elem:=elem) d (vals:=vals) (rest:=rest)
   ⟨KV r.rel.size ajx,X.2⟩ (λi o hi ho=>by have:=(r.rel.el i o _ hi ho).2;omega) s (hx _ _ _ o1) o2 rfl hc.1 (by rw[hcap];exact t4) hc.2
  rw[bz,bq y]at Q;refine⟨u,g2,_,_,e1,A,⟨Q,?_⟩,?_,_,[],rfl,ia,k⟩
  .rw[<-bq y];exact r.cM.cW t
  .rw[ev];exact v2
def ql(B:U G)(i:Nat)(x:G):U G:=B.set i x
def jX{B p x}{i:Int}(h:i.toNat=p/\p<B.length):fy (ql B p x) i.toNat=some x:=by
 rw[dJ,h.1,ql,M7 h.2]
def ahM{B p x z i}(h:i=p):bF ((ql B p x).set i z) (ql B p z):=by
 subst h;simp only[ql,NR];exact .refl _
def mg{B i x}(h:B[i]?=some x):ql B i x=B:=by
 obtain⟨y,rfl⟩:=LI.1 h;exact List.set_getElem_self y
def uy(f:Nat->τ->T Unit):Nat->U τ->T Unit
 |_,[]=>some ()
 |i,v::vs=>(f i v).bind λ_=>uy f (i+1) vs
def zD{f}:∀{xs k u},uy f k xs=some u->(i:Nat)->(v:τ)->xs[i]?=some v->f (k+i) v=some ()
 | [],_,_,_,i,v,e=>by simp at e
 |x::xs,k,u,h,0,v,e=>by
  simp only[uy]at h;obtain⟨a,y,_⟩:=Lg.1 h
  grind
 |x::xs,k,u,h,i+1,v,e=>by
  simp only[uy]at h;obtain⟨a,y,h⟩:=Lg.1 h;have:=zD h i v (by simpa using e)
  rwa [show k+(i+1)=k+1+i by omega]
def ZO(N:Nat)(x:Tm)(lo:HL):KC:=λe tm l=>match e with
 |.normal=>ZN N tm l x lo
 |_=>False
def Qs(E:zn P ti){id c K xs en p z X}(x:Nat->Tm)(a b:U G->HL)y g d[u1:∀i,UT (x i) (a (xs.map en))][u2:∀i,UT (x i) (b (eB en xs p X))][uA:UT y g][uB:UT y d]
 {A L:τ->T Unit} {u} (h:uy (λi v=>bif decide (i=p)then L v else A v) 0 xs=some u) (hs:lQ tm l (x 0) (a (xs.map en)))
 (hx:xs.length<=4611686018427387904) {ex:τ->G} (C:∀v,ex v=en v)
 (Q:∀i v,xs[i]?=some v->(xs.map en)[i]?=some (en v)->i<xs.length->i+1<=4611686018427387904->A v=some ()->SC P ge ti N c (ZO N (x (i+1)) (a (xs.map en))) (x i) (a (ql (xs.map en) i (ex v))))
 (rb:∀v,v=xs.getD p z->p<xs.length->p+1<=4611686018427387904->L v=some ()->SC P ge ti N c (ZO N (x (p+1)) (b (eB en xs p X))) (x p) (a (ql (xs.map en) p (ex v))))
 (rc:∀i v,xs[i]?=some v->(eB en xs p X)[i]?=some (en v)->i<xs.length->i+1<=4611686018427387904->A v=some ()->SC P ge ti N c (ZO N (x (i+1)) (b (eB en xs p X))) (x i) (b (ql (eB en xs p X) i (ex v))))
 (s1:SC P ge ti N c (ux id (λ_=>y) (λ_=>g) ()) (x (xs.map en).length) (a (xs.map en)))
 (s2:SC P ge ti N c (ux id (λ_=>y) (λ_=>d) ()) (x (xs.map en).length) (b (eB en xs p X)))
 (n:xs.getD p z=z->eB en xs p X=xs.map en->Wk 1 N y (aN g) y (aN d))
 (after:K .normal y d):br P ge 1 N (.block id (.loop c)) (LC K) tm (aN l):=by
 simp only[C]at Q rb rc;rw[B7]at s1 s2;refine br.wk hs.wk ?_;refine br.block (br.loop (λm tm hp=>∃i,i<=xs.length/\m=xs.length+1-i/\tm=x i/\hp=aN (if i<=p then a (xs.map en)else b (eB en xs p X))) (xs.length+1) ⟨0,K8 _,rfl,rfl,by simp⟩ ?_);rintro m tm hp ⟨i,hi,rfl,rfl,rfl⟩;by_cases f:i<xs.length
 .have o:xs[i]?=some xs[i]:=K6 f;have s:(xs.map en)[i]?=some (en xs[i]):=by rw[K9,o];rfl
  have t:=zD h i _ o;rw[LB]at t;have dG:∀{lo:HL},lo=(if i+1<=p then a (xs.map en)else b (eB en xs p X))->∀{l0:HL},SC P ge ti N c (ZO N (x (i+1)) lo) (x i) l0->∀[UT (x (i+1)) lo],
   br P ge 1 N c (uX (λm tm hp=>∃i,i<=xs.length/\m=xs.length+1-i/\tm=x i/\hp=aN (if i<=p then a (xs.map en)else b (eB en xs p X))) (xs.length+1-i) (ky id (LC K))) (x i) (aN l0):=by
   intro lo e l0 k _;refine hT (SC.cb E c k) λe tm hp⟨l,e1,q⟩=>?_
   subst e1;cases e<;>first|exact q.elim|skip
   obtain⟨tm',l',n,hk⟩:=q;exact⟨_,_,cc n hk.wk,xs.length+1-(i+1),by omega,i+1,by omega,rfl,rfl,by rw[e]⟩
  rcases Nat.lt_trichotomy i p with hip|hip|hip
  .have:=Q i xs[i] o s f B9 (by simpa[Nat.ne_of_lt hip]using t);rw[mg s]at this;rw[BX B9];exact dG (by rw[BX B9]) this
  .subst hip;have hg:xs.getD i z=xs[i]:=by rw[LG,o];rfl
   have:=rb xs[i] hg.symm f B9 (by simpa using t);rw[mg s]at this;rw[BX B9];exact dG (by rw[BY B9]) this
  .have r:(eB en xs p X)[i]?=some (en xs[i]):=by rw[eB,List.getElem?_set_ne B9];exact s
   have:=rc i xs[i] o r f B9 (by simpa[Nat.ne_of_gt hip]using t);rw[mg r]at this;rw[BY B9];exact dG (by rw[BY B9]) this
 .have D:i=xs.length:=by omega
  subst D;have dG:∀{w l0:HL}[UT y w],Wk 1 N y (aN w) y (aN d)->SC P ge ti N c (ux id (λ_:Unit=>y) (λ_=>w) ()) (x xs.length) l0->
   br P ge 1 N c (uX (λm tm hp=>∃i,i<=xs.length/\m=xs.length+1-i/\tm=x i/\hp=aN (if i<=p then a (xs.map en)else b (eB en xs p X))) (xs.length+1-xs.length) (ky id (LC K))) (x xs.length) (aN l0):=by
   intro w l0 _ n k;refine hT (SC.cb E c k) λe tm hp⟨l,e1,q⟩=>?_
   subst e1;cases e with
   |exit j=>
    simp only[ux]at q;split at q
    .rename_i hj;have:=FU hj;subst this;refine⟨_,_,cc q.wk n,?_⟩;simp only[uX,ky,J0];exact⟨_,rfl,after⟩
    .exact q.elim
   |_=>exact q.elim
  by_cases hp:xs.length<=p
  .rw[BX hp];refine dG (n ?_ ?_) s1
   .rw[LG,Ll hp];rfl
   .rw[eB];exact NV Jj
  .rw[BY hp];exact dG (dr _ _ _ _) s2
def yD{α n k}{x w:α}(h:((ck n k).bind λ_=>some x)=some w):w=x:=by
 obtain⟨_,_,h⟩:=Lg.1 h
 grind
def D1 sz m(z:Nat.ble (nx 0 l) m=true):Wk 1 N tm (aN l) tm (aN (((1,m),.bD sz [])::l)):=by
 have z:=J1 z;intro g fr w tmps b r v;have a:=hE l 0 1 _ z;have x:=cm a (nU b _);have y:=lu g (j:=(1,m)) 0 (r.rel.cT x);have c:=r.rel.ki x sz 0;rw[bz,bq a]at c;refine⟨g.push (1,m) 0,y.some _,⟨c,?_⟩,v.mono y⟩;rw[<-bq a];exact r.cM.cW (nU b _)
variable {S:U Nm}{f:α->G}
theorem zG σ x:∀xs p,hO σ (xs.set p x)=(hO σ xs).set p (x.bm σ)
 | [],_=>rfl
 |y::ys,0=>rfl
 |y::ys,p+1=>by simp only[List.set,hO];rw[zG σ x ys p]
def tA[y:Pl f]σ ts p x:hO σ (eB f ts p x)=eB f ts p (x.bm σ):=by
 grind [eB,zG,zW,eP.2,List.mem_map.1,y.out]
instance {a c ts p x y}[z:Pl f][h:R3 a c x y]:Ck a c (eB f ts p x) (eB f ts p y):=⟨by rw[tA,h.out]⟩
instance {y ts p x z}[a:Pl f][h:Rn y x z]:yC y (eB f ts p x) (eB f ts p z):=⟨λσ hs=>by rw[tA,h.out σ hs]⟩
instance {y ts p x z}[a:Pl f][h:R2 y N x z]:Ao y N (eB f ts p x) (eB f ts p z):=⟨λσ hs=>by rw[tA,h.out σ hs]⟩
def uh{xs:U τ}{en:τ->G}{i}(h:i<xs.length):i<(xs.map en).length:=by simpa using h
def EX{xs:U τ}{en i p X}(h:i<xs.length):i<(eB en xs p X).length:=by simpa[eB]using h
def rz{xs:U τ}{en:τ->G}{i}(h:i<xs.length):i<((xs.map en).length:Int):=by simpa using h
def uz{c x X D}{r:x}{Q:Prop}(h:(bif c then X else D)=some r)(f:c=true->X=some r->Q)(g:c=false->D=some r->Q):Q:=by cases c with|true=>exact f rfl h|false=>exact g rfl h
def Dt{i k j:Int}(e:i=k)(n:decide (k=j)=true):decide (i=j)=true:=by rw[e];exact n
def jd{i k j:Int}(e:i=k)(n:decide (k=j)=false):decide (i=j)=false:=by rw[e];exact n
def ZP{B C}(h:B=C):bF B C:=h▸ .refl _
end
section
variable {P:Program}{ge:GE}{N b:Nat}{tm:Tm}{l:HL}{ti:Nat->T TE}{hp:Hp}
def dy.zH{g w}(r:dy g w hp){j cs}(m:hp j=some (.cells cs)):
 ∃g',AV.Le g g'/\g'.dC=g.dC/\dy g' w (cW hp j (.bD 0 []))/\∀off v,ac g (.eU j off) v->ac g' (.aS cs off) v:=by
 obtain⟨vals,rest,elem,n,K,o⟩:=r.fR j _ m;have s:dq g j (.cells cs)=some (g.cC j):=rfl;have z:AV.Le g (g.cO (g.cC j) vals):=K1 (by rw[o];exact LV);have y:∀i p,dq (g.cO (g.cC j) vals) i p=dq g i p:=λi p=>by cases p<;>rfl
 have key:∀i p,cW hp j (.bD 0 []) i=some p->(i=j/\p= .bD 0 [])\/(i≠j/\hp i=some p):=by
  intro i p h;by_cases e:i=j
  .subst e;rw[bp]at h;simp at h;exact .inl ⟨rfl,h.symm⟩
  .rw[aZ _ _ e]at h;exact .inr ⟨e,h⟩
 refine⟨_,z,rfl,⟨λi=>?_,r.jI,r.size,λb a=>?_,λi p x=>?_,λi p d x hd=>?_,λi k p q d x t f l=>?_⟩,λoff v D=>?_⟩
 .show g.dC i↔_
  by_cases e:i=j
  .subst e;rw[bp,r.dC i,m];simp
  .rw[aZ _ _ e];exact r.dC i
 .by_cases e:b=g.cC j
  .subst e;exact⟨_,elem,(0,0),K,by simp[AV.cO]⟩
  .have u:g.fz b≠ []:=by simpa[AV.cO,e]using a
   obtain⟨c,L,fr,h,A⟩:=r.fz b u;exact⟨c,L,fr,h,by simpa[AV.cO,e]using A⟩
 .rcases key i p x with⟨rfl,rfl⟩|⟨N,x⟩
  .intro h;exact absurd rfl h
  .refine(r.fR i p x).lU z (r.dl x) rfl λb a=>⟨rfl,?_⟩
   have C:b≠g.cC j:=λe=>by
    subst e;exact N (r.jH i j p _ _ x m a s)
   simp[AV.cO,C]
 .rw[y]at hd;rcases key i p x with⟨rfl,rfl⟩|⟨_,x⟩
  .simp[dq]at hd
  .exact r.el i p d x hd
 .rw[y]at f l;rcases key i p x with⟨rfl,rfl⟩|⟨_,x⟩
  .simp[dq]at f
  .rcases key k q t with⟨rfl,rfl⟩|⟨_,t⟩
   .simp[dq]at l
   .exact r.jH i k p q d x t f l
 .simp only[ac]at D |-;exact⟨g.cC j,0,vals,by rw[D.2,LB],VL.mono z _ _ n,by simp[AV.cO]⟩
def pm{j cs}(x:lk l j=some (.cells cs)){g fr w}(r:gh g w (aN l) fr):
 ∃g',AV.Le g g'/\gh g' w (aN (dp j (.bD 0 []) l)) fr/\∀off v,ac g (.eU j off) v->ac g' (.aS cs off) v:=by
 rw[<-cQ]at x;obtain⟨z,a,_,y,b⟩:=r.rel.zH (aK x);rw[bz,bx]at y;exact⟨z,a,⟨y,by rw[<-bx];exact r.cM.fW x⟩,b⟩
def Qr t{j off cs}(h:get tm t= .eU j off)(x:lk l j=some (.cells cs)):Wk 1 N tm (aN l) ((t,.aS cs off)::tm) (aN (dp j (.bD 0 []) l)):=by
 intro g fr w tmps c r v;obtain⟨y,z,a,d⟩:=pm x r;have b:=v.2 t;rw[h]at b;refine⟨y,z.some _,a,v.1,λi=>?_⟩
 grind [ff,ac.mono,v.2]
def VW n c i{j cs y wq fn f args K}(h:fy args n=some (.agg cs))(p:fy cs c=some (.fn fn [] wq))(q:fy wq i=some (.eU j 0))(s:lk l j=some (.cells y))
 (k:bW P f=true/\ox P ge b f (eH args n (.agg (eH cs c (.fn fn [] (eH wq i (.aS y 0)))))) (aN (dp j (.bD 0 []) l)) (CH b (dp j (.bD 0 []) l) λx l' ch=>K x l' ([j]++ch))):bW P f=true/\ox P ge b f args (aN l) (CH b l K):=by
 refine Mn (λg fr w vs _ r v=>?_) (fJ (by rw[cQ];exact s)) k;obtain⟨C,z,D,L⟩:=pm s r;rw[dJ]at h p q;obtain⟨X,e,a⟩:=VL.get args vs v n _ h;simp only[ac]at a;obtain⟨bD,e0,d⟩:=a;obtain⟨u,hu,t⟩:=VL.get cs bD.toList d c _ p;simp only[ac]at t;obtain⟨N,b0,e1,Q,A⟩:=t;obtain⟨u2,m,o⟩:=VL.get wq b0.toList A i _ q;refine⟨C,z,D,?_⟩;rw[eR];refine md (VL.mono z _ _ v) e ?_;simp only[ac];refine⟨bD,e0,?_⟩;rw[eR];refine md (VL.mono z _ _ d) hu ?_;simp only[ac];refine⟨N,b0,e1,VL.mono z _ _ Q,?_⟩;rw[eR];exact md (VL.mono z _ _ A) m (L _ _ o)
def aej{n m ρ o}(E:zn P ti){id c K}(z:Nat->m->Tm)(lo:Nat->m->HL)g j[u:∀i s,UT (z i s) (lo i s)][uA:∀a,UT (g a) (j a)]
 {f:Nat->o->m->T (m⊕(n⊕ρ))} {p} {xs} {s} {x} (h:bo f p 0 xs s=some x) (hs:lQ tm l (z 0 s) (lo 0 s))
 {en} (hx:gq (z 0 s) (lo 0 s) (xs.map en))
 (round:∀i v s y,xs[i]?=some v->i<(xs.map en).length->i+1<=4611686018427387904->f i v s=some y->SC P ge ti N c (qX id (z (i+1)) (lo (i+1)) g j x y K) (z i s) (lo i s))
 (stop:∀s,SC P ge ti N c (ux id g j (p s)) (z (xs.map en).length s) (lo (xs.map en).length s))
 (after:∀v,x= .inl v->∃k l',Wk 1 N (g v) (aN (j v)) k (aN l')/\K .normal k l'):br P ge 1 N (.block id (.loop c)) (LC K) tm (aN l):=by
 let K0:KC:=λe tm l=>match e with
  |.normal=>∃v,x= .inl v/\tm=g v/\l=j v
  |e=>K e tm l
 refine hT (Ng E z lo g j (K:=K0) h hs hx (λi v s y a b t d=>?_) stop (λv r=>⟨v,r,rfl,rfl⟩)) λe tm hp⟨l,e1,q⟩=>?_
 .have:=round i v s y a b t d;have e:qX id (z (i+1)) (lo (i+1)) g j x y K0=qX id (z (i+1)) (lo (i+1)) g j x y K:=by
   funext e tm l;cases e<;>rfl
  grind
 .subst e1;cases e with
  |normal=>obtain⟨v,r,rfl,rfl⟩:=q;obtain⟨k,l',w,A⟩:=after v r;exact⟨_,_,w,_,rfl,A⟩
  |_=>exact⟨tm,_,dr _ _ _ _,l,rfl,q⟩
def vy{x}(f:x->G){xs:U x}{sz}(e:xs.map f=[]):jk (.tail sz 0) (.tail sz (xs.map f).length):=by rw[e];exact .refl _
def vz{x}f{xs:U x}{sz j}(e:xs.map f=[]):Sub (.sl sz (.tail j) []) (.sl sz (.tail j) (xs.map f)):=by rw[e];exact .refl _
def Dw{x sz cs}{i k:Int}{z}(e:i=k)(h:cut x sz cs (k.toNat*sz)=some z):cut x sz cs (i.toNat*sz)=some z:=e▸h
def wt{z x o}{A:z->T x}{B r}{Q:Prop}(h:o.elim B A=some r)(f:∀y,o=some y->A y=some r->Q)(g:o=none->B=some r->Q):Q:=by
 cases o with
 |none=>exact g rfl h
 |some y=>exact f y rfl h
def Km{x}f{L s}{y:x}(h:cv L s=some y):fh (L.map (mE f)) s=some (cond true (some (f y)) none):=by
 rw[ZJ f L s y,h];rfl
def Kn{x}{f:x->G}{L s z}(h:cv L s=none):fh (L.map (mE f)) s=some (cond false (some z) none):=by
 induction L with
 |nil=>rfl
 |cons p r y=>
  simp only[Hx,mE,fh,cv]at h |-
  grind
def awg{y f}{ts:U y}{p x z z' i}(a:Sub z z')(h:i=p):bF ((eB f ts p x).set i z) (eB f ts p z'):=by
 grind [eB,List.set_set,bF.qP]
def agb sz m(x:Nat.ble (nx 0 l) m=true):Wk 1 N tm (aN l) tm (aN (((1,m),.tail sz 0)::l)):=by
 have x:=J1 x;intro g fr w tmps z r v;have y:=hE l 0 1 _ x;obtain⟨c,a,b,d⟩:=r.rel.jW (sz:=sz) (xs:=[]) (v:=.slice none 0 0) (cm y (nU z _)) (by simp only[ac];exact⟨none,0,rfl,⟨by simp,by simp⟩,by simp,λh=>absurd rfl h,by simp,rfl⟩);rw[bz,bq y]at b;refine⟨c,a.some _,⟨b,?_⟩,v.mono a⟩;rw[<-bq y];exact r.cM.cW (nU z _)
def Z0 q{sz n}(hq:lk l q=some (.tail sz n)):Wk 1 N tm (aN l) tm (aN (dp q (.bD sz []) l)):=by
 intro g fr w tmps y r v;rw[<-cQ]at hq;have x:=r.rel.yT (m:=sz) (aK hq);rw[bz,bx]at x;exact⟨g,AV.nk.refl _ g,⟨x,by rw[<-bx];exact r.cM.fW hq⟩,v⟩
end
section
variable {X D:Type}{a b x y:G}{ws bs xs ys:U G}{o p:bB}{i k n m:Nat}{t:jV}{tm tn:Tm}{l q:HL}{j:Nm}
class Eb(a b:Bool):Prop where o:a=b
instance (a:At):Eb a a:=⟨rfl⟩
class SA(x y:G):Prop where o:Sub x y
class SL(xs ys:List G):Prop where o:bF xs ys
class SO(o p:bB):Prop where o:jk o p
instance [h:SL xs ys]:SA (.sl n t xs) (.sl n .no ys):=⟨ls h.o⟩
instance [h:SL xs ys]:SA (.sl n t xs) (.sl n t ys):=⟨lt h.o⟩
instance:SA (.sl n t []) (.sl m t []):=⟨nf⟩
instance {f}:SA (.sl n t []) (.sl m .no (([]:U X).map f)):=⟨nl⟩
instance {f}:SA (.sl n t []) (.sl m t (([]:U X).map f)):=⟨nf⟩
instance {f g}:SA (.sl n t (([]:U X).map f)) (.sl m .no (([]:U D).map g)):=⟨nl⟩
instance {k}:SA (.int k 0) (.int k (0:Int)):=⟨.refl _⟩
instance {b c}[h:SA (.bool c) x]:SA (.bool (if false=true then b else c)) x:=⟨h.o⟩
instance {b c}[h:SA (.bool b) x]:SA (.bool (if true=true then b else c)) x:=⟨h.o⟩
instance [h:SL xs ys]:SA (.agg xs) (.agg ys):=⟨.agg h.o⟩
instance [h:SL xs ys]:SA (.bZ xs) (.bZ ys):=⟨.bZ h.o⟩
instance [h:SL xs ys]:SA (.aS xs n) (.aS ys n):=⟨.aS h.o⟩
instance:SA x x:=⟨.refl x⟩
instance {f}{e:X}{y}[h:SA x (f e)][k:SL xs (y.map f)]:SL (x::xs) ((e::y).map f):=⟨.cons h.o k.o⟩
instance {f}:SL [] (([]:U X).map f):=⟨.refl _⟩
instance {f}{us vs:U X}[h:SL xs (us.map f)][k:SL ys (vs.map f)]:SL (xs++ys) ((us++vs).map f):=⟨ap h.o k.o⟩
instance {f}{us:U X}[h:SL xs (us.map f)]:SL (xs.drop i) ((us.drop i).map f):=⟨by rw[NH];exact bF.drop i h.o⟩
instance [h:SA x y][k:SL xs ys]:SL (x::xs) (y::ys):=⟨.cons h.o k.o⟩
instance:SL xs xs:=⟨.refl xs⟩
instance [h:SL xs ys]:SO (.cells xs) (.cells ys):=⟨.cells h.o⟩
instance [h:SL xs ys]:SO (.bD n xs) (.bD n ys):=⟨.bD h.o⟩
instance [h:SL xs ys]:SO (.tail n xs.length) (.tail n ys.length):=⟨lo h.o⟩
instance:SO o o:=⟨.refl o⟩
class LT(tm:Tm)(i:Nat)(x:outParam G):Prop where o:get tm i=x
instance [e:Eb (Nat.beq k i) false][h:LT tm i x]:LT ((k,y)::tm) i x:=⟨by simp only[get,e.o];exact h.o⟩
instance:LT ((i,x)::tm) i x:=⟨by simp[get]⟩
class LH(l:HL)(j:Nm)(o:outParam bB):Prop where o:lk l j=some o
instance {c d}[e:Eb (Nat.beq k d) false][h:LH l (c,d) o]:LH (((i,k),p)::l) (c,d) o:=⟨by simp only[lk,wh,e.o,Bool.and_false];exact h.o⟩
instance:LH ((j,o)::l) j o:=⟨by simp[lk,jB.2 rfl]⟩
def amx{j i}:lk (dp j o l) i=if i=j then some o else lk l i:=by rw[<-cQ,<-bx,<-cQ];simp only[cW]
instance:LH (dp j o l) j o:=⟨by rw[amx,BX rfl]⟩
def ajp{c d}(e:Nat.beq i c=false\/Nat.beq k d=false):(i,k)≠(c,d):=λh=>by
 obtain⟨rfl,rfl⟩:=Prod.mk.inj h;rcases e with e|e<;>simp at e
instance {c d}[e:Eb (Nat.beq k d) false][h:LH l (i,k) p]:LH (dp (c,d) o l) (i,k) p:=⟨by rw[amx,BY (ajp (.inr e.o))];exact h.o⟩
class NS(xs:List G)(r:outParam (List G)):Prop where o:xs=r
instance:NS (x::xs) (x::xs):=⟨rfl⟩
instance [h:NS xs (x::ys)]:NS (eH xs 0 y) (y::ys):=⟨by rw[h.o];rfl⟩
instance [h:NS xs (x::ys)][k:NS (eH ys n y) ws]:NS (eH xs (n+1) y) (x::ws):=⟨by rw[h.o,<-k.o];rfl⟩
instance [h:NS (eH xs n y) ws][k:SL ws ys]:SL (eH xs n y) ys:=⟨by rw[h.o];exact k.o⟩
class KT(tm tn:Tm):Prop where o:kA tm tn
instance:KT tm []:=⟨trivial⟩
instance [h:LT tm i x][k:SA x y][r:KT tm tn]:KT tm ((i,y)::tn):=⟨by rw[h.o];exact k.o,r.o⟩
class KH(l q:HL):Prop where o:hU l q
instance:KH l []:=⟨trivial⟩
instance [h:LH l j p][k:SO p o][r:KH l q]:KH l ((j,o)::q):=⟨by rw[h.o];exact k.o,r.o⟩
class Rm(i:Nat):Prop where o:i+1<=4611686018427387904
instance [h:Rm i]:SA (.int .i64 (IntKind.i64.wrap (i+1))) (.int .i64 ((i+1:Nat):Int)):=⟨wi h.o⟩
end
section
def R7{D:Type}(A:D->U G->U G)(e:D):U G:=A e []
def R8{D:Type}(A:D->U G->U G)(e:D):G:=.agg (R7 A e)
variable{D:Type}{A:D->U G->U G}{e:D}{xs:U G}{S:U Nm}
instance[h:eL S (A e [])]:eL S (R7 A e):=h
instance[h:UN S (.agg (R7 A e))]:UN S (R8 A e):=h
instance[h:∀e,UN [] (R8 A e)]:Pl (R8 A):=⟨λe=>dA (h e).out⟩
instance[h:SL xs (A e [])]:SL xs (R7 A e):=⟨h.o⟩
instance[h:SL (A e []) xs]:SL (R7 A e) xs:=⟨h.o⟩
instance[h:SL xs (A e [])]:SA (.agg xs) (R8 A e):=⟨.agg h.o⟩
abbrev sQ(n:Nat)(f:D->G)(a b:Nat)(x:U D):G:=.sl n (.tail (a,b)) (x.map f)
abbrev rY(n:Nat)(f:D->G)(a b:Nat)(x:U D):Nm×bB:=((a,b),.tail n (x.map f).length)
abbrev yA(n:Nat)(f:D->G)(x:U D):G:=.sl n .no (x.map f)
abbrev CU(f:D->G)(x:U D):Int:=((x.map f).length:Int)
structure am where
 (ah:Int)(name:Z)(n:Int)(ay:U Z)(au:List am)
mutual
def am.aq:am->G
 |⟨a0,a1,a2,a3,a4⟩=>.agg [.int .i64 a0,.str a1,.int .i64 a2,.sl 1 .no (a3.map G.str),.sl 5 .no (rt a4)]
def rt:U am->U G
 | []=>[]
 |x::xs=>am.aq x::rt xs
end
abbrev am.T(e:am)r:=G.int .i64 e.ah::.str e.name::.int .i64 e.n::.sl 1 .no (e.ay.map G.str)::.sl 5 .no (e.au.map am.aq)::r
abbrev am.C:=R7 am.T
abbrev am.X:=R8 am.T
def Qq:(xs:U am)->rt xs=xs.map am.aq
 | []=>rfl
 |x::xs=>by simp[rt,Qq xs]
def kh:(e:am)->e.aq=e.X
 |⟨x,y,z,a,b⟩=>by simp[am.aq,am.X,am.C,R8,R7,am.T,Qq]
mutual
theorem am.iH {S:U Nm}:(e:am)->UN S e.aq
 |⟨a0,a1,a2,a3,a4⟩=>by unfold am.aq;have:=Qp (S:=S) a4;infer_instance
theorem Qp {S:U Nm}:(xs:U am)->eL S (rt xs)
 | []=>by unfold rt;infer_instance
 |x::xs=>by unfold rt;have:=am.iH (S:=S) x;have:=Qp (S:=S) xs;infer_instance
end
def Qo{x:G}{e:am}(h:Sub x e.X):Sub x e.aq:=by rw[kh];exact h
instance:Pl am.aq:=⟨λe=>dA (e.iH (S:=[])).out⟩
instance {xs:U G}{e:am}[h:SL xs (e.T [])]:SA (.agg xs) e.aq:=⟨Qo (.agg h.o)⟩
instance(e:am):eL S e.C:=inferInstance
structure aG where
 (name:Z)(has:At)(arg:am)
abbrev aG.T(e:aG)r:=G.str e.name::.bool e.has::e.arg.T r
abbrev aG.C:=R7 aG.T
abbrev aG.X:=R8 aG.T
abbrev aG.aq:=aG.X
instance(e:aG):eL S e.C:=inferInstance
structure az where
 (name:Z)(bQ:U aG)
abbrev az.T(e:az)r:=G.str e.name::.sl 7 .no (e.bQ.map aG.aq)::r
abbrev az.C:=R7 az.T
abbrev az.X:=R8 az.T
abbrev az.aq:=az.X
instance(e:az):eL S e.C:=inferInstance
structure af where
 (name:Z)(bH:am)
abbrev af.T(e:af)r:=G.str e.name::e.bH.T r
abbrev af.C:=R7 af.T
abbrev af.X:=R8 af.T
abbrev af.aq:=af.X
instance(e:af):eL S e.C:=inferInstance
structure aD where
 (ar ai:Z)
abbrev aD.T(e:aD)r:=G.str e.ar::.str e.ai::r
abbrev aD.C:=R7 aD.T
abbrev aD.X:=R8 aD.T
abbrev aD.aq:=aD.X
instance(e:aD):eL S e.C:=inferInstance
structure J where
 (ah:Int)(name:Z)(n:Int)(s:Z)(ay binds:U Z)(au:List J)(pos dG:Int)
mutual
def J.aq:J->G
 |⟨a0,a1,a2,a3,a4,a5,a6,a7,a8⟩=>.agg [.int .i64 a0,.str a1,.int .i64 a2,.str a3,.sl 1 .no (a4.map G.str),.sl 1 .no (a5.map G.str),.sl 9 .no (sI a6),.int .i64 a7,.int .i64 a8]
def sI:U J->U G
 | []=>[]
 |x::xs=>J.aq x::sI xs
end
abbrev J.T(e:J)r:=G.int .i64 e.ah::.str e.name::.int .i64 e.n::.str e.s::.sl 1 .no (e.ay.map G.str)::.sl 1 .no (e.binds.map G.str)::.sl 9 .no (e.au.map J.aq)::.int .i64 e.pos::.int .i64 e.dG::r
abbrev J.C:=R7 J.T
abbrev J.X:=R8 J.T
def Qn:(xs:U J)->sI xs=xs.map J.aq
 | []=>rfl
 |x::xs=>by simp[sI,Qn xs]
def gy:(e:J)->e.aq=e.X
 |⟨x,y,z,a,b,c,d,f,g⟩=>by simp[J.aq,J.X,J.C,R8,R7,J.T,Qn]
mutual
theorem J.iH {S:U Nm}:(e:J)->UN S e.aq
 |⟨a0,a1,a2,a3,a4,a5,a6,a7,a8⟩=>by unfold J.aq;have:=Qm (S:=S) a6;infer_instance
theorem Qm {S:U Nm}:(xs:U J)->eL S (sI xs)
 | []=>by unfold sI;infer_instance
 |x::xs=>by unfold sI;have:=J.iH (S:=S) x;have:=Qm (S:=S) xs;infer_instance
end
def hP{x:G}{e:J}(h:Sub x e.X):Sub x e.aq:=by rw[gy];exact h
instance:Pl J.aq:=⟨λe=>dA (e.iH (S:=[])).out⟩
instance {xs:U G}{e:J}[h:SL xs (e.T [])]:SA (.agg xs) e.aq:=⟨hP (.agg h.o)⟩
instance(e:J):eL S e.C:=inferInstance
structure V where
 (name:Z)(ae:U af)(key:U Z)(aX:U aD)(aH:J)
abbrev V.T(e:V)r:=G.str e.name::.sl 6 .no (e.ae.map af.aq)::.sl 1 .no (e.key.map G.str)::.sl 2 .no (e.aX.map aD.aq)::e.aH.T r
abbrev V.C:=R7 V.T
abbrev V.X:=R8 V.T
abbrev V.aq:=V.X
instance(e:V):eL S e.C:=inferInstance
structure bN where
 (name:Z)(pn:At)(bH:am)(has:At)(default:J)(pos dG:Int)
abbrev bN.T(e:bN)r:=G.str e.name::.bool e.pn::e.bH.T (.bool e.has::e.default.T (.int .i64 e.pos::.int .i64 e.dG::r))
abbrev bN.C:=R7 bN.T
abbrev bN.X:=R8 bN.T
abbrev bN.aq:=bN.X
instance(e:bN):eL S e.C:=inferInstance
structure aC where
 (ah:Int)(ai bind:Z)(cond value:J)(pos dG:Int)
abbrev aC.T(e:aC)r:=G.int .i64 e.ah::.str e.ai::.str e.bind::e.cond.T (e.value.T (.int .i64 e.pos::.int .i64 e.dG::r))
abbrev aC.C:=R7 aC.T
abbrev aC.X:=R8 aC.T
abbrev aC.aq:=aC.X
instance(e:aC):eL S e.C:=inferInstance
structure bC where
 (ah:Int)(name:Z)(sum:az)(ai:V)(params:U bN)(pn:At)(bH:am)(body:J)(fL:U aC)(tB pos dG:Int)
abbrev bC.T(e:bC)r:=G.int .i64 e.ah::.str e.name::e.sum.T (e.ai.T (.sl 19 .no (e.params.map bN.aq)::.bool e.pn::e.bH.T (e.body.T (.sl 23 .no (e.fL.map aC.aq)::.int .i64 e.tB::.int .i64 e.pos::.int .i64 e.dG::r))))
abbrev bC.C:=R7 bC.T
abbrev bC.X:=R8 bC.T
abbrev bC.aq:=bC.X
instance(e:bC):eL S e.C:=inferInstance
structure aP where
 (name:Z)(cx:U bC)
abbrev aP.T(e:aP)r:=G.str e.name::.sl 37 .no (e.cx.map bC.aq)::r
abbrev aP.C:=R7 aP.T
abbrev aP.X:=R8 aP.T
abbrev aP.aq:=aP.X
instance(e:aP):eL S e.C:=inferInstance
structure aj where
 (aT:U az)(an:U V)
abbrev aj.T(e:aj)r:=G.sl 2 .no (e.aT.map az.aq)::.sl 13 .no (e.an.map V.aq)::r
abbrev aj.C:=R7 aj.T
abbrev aj.X:=R8 aj.T
abbrev aj.aq:=aj.X
instance(e:aj):eL S e.C:=inferInstance
structure aF where
 (ah n:Int)(s:Z)(ay:U Z)(au:List aF)
mutual
def aF.aq:aF->G
 |⟨a0,a1,a2,a3,a4⟩=>.agg [.int .i64 a0,.int .i64 a1,.str a2,.sl 1 .no (a3.map G.str),.sl 5 .no (ua a4)]
def ua:U aF->U G
 | []=>[]
 |x::xs=>aF.aq x::ua xs
end
abbrev aF.T(e:aF)r:=G.int .i64 e.ah::.int .i64 e.n::.str e.s::.sl 1 .no (e.ay.map G.str)::.sl 5 .no (e.au.map aF.aq)::r
abbrev aF.C:=R7 aF.T
abbrev aF.X:=R8 aF.T
def Ql:(xs:U aF)->ua xs=xs.map aF.aq
 | []=>rfl
 |x::xs=>by simp[ua,Ql xs]
def qf:(e:aF)->e.aq=e.X
 |⟨x,y,z,a,b⟩=>by simp[aF.aq,aF.X,aF.C,R8,R7,aF.T,Ql]
mutual
theorem aF.iH {S:U Nm}:(e:aF)->UN S e.aq
 |⟨a0,a1,a2,a3,a4⟩=>by unfold aF.aq;have:=Qk (S:=S) a4;infer_instance
theorem Qk {S:U Nm}:(xs:U aF)->eL S (ua xs)
 | []=>by unfold ua;infer_instance
 |x::xs=>by unfold ua;have:=aF.iH (S:=S) x;have:=Qk (S:=S) xs;infer_instance
end
def an3{x:G}{e:aF}(h:Sub x e.X):Sub x e.aq:=by rw[qf];exact h
instance:Pl aF.aq:=⟨λe=>dA (e.iH (S:=[])).out⟩
instance {xs:U G}{e:aF}[h:SL xs (e.T [])]:SA (.agg xs) e.aq:=⟨an3 (.agg h.o)⟩
instance(e:aF):eL S e.C:=inferInstance
structure GStep where
 (ah:Int)(ai ar name:Z)(ae:U Z)(default:aF)
abbrev GStep.T(e:GStep)r:=G.int .i64 e.ah::.str e.ai::.str e.ar::.str e.name::.sl 1 .no (e.ae.map G.str)::e.default.T r
abbrev GStep.C:=R7 GStep.T
abbrev GStep.X:=R8 GStep.T
abbrev GStep.aq:=GStep.X
instance(e:GStep):eL S e.C:=inferInstance
structure cz where
 (doc:Z)(pos dG aa6:Int)(ay:U Z)
abbrev cz.T(e:cz)r:=G.str e.doc::.int .i64 e.pos::.int .i64 e.dG::.int .i64 e.aa6::.sl 1 .no (e.ay.map G.str)::r
abbrev cz.C:=R7 cz.T
abbrev cz.X:=R8 cz.T
abbrev cz.aq:=cz.X
instance(e:cz):eL S e.C:=inferInstance
structure bc where
 (cf name:Z)(params:U am)(gK:Int)(oE:am)
abbrev bc.T(e:bc)r:=G.str e.cf::.str e.name::.sl 5 .no (e.params.map am.aq)::.int .i64 e.gK::e.oE.T r
abbrev bc.C:=R7 bc.T
abbrev bc.X:=R8 bc.T
abbrev bc.aq:=bc.X
instance(e:bc):eL S e.C:=inferInstance
structure aE where
 (l:U Int)(i:Int)(cf:Z)(aT:U az)(an:U V)(dt:U bc)
abbrev aE.T(e:aE)r:=G.sl 1 .no (e.l.map (G.int .i64))::.int .i64 e.i::.str e.cf::.sl 2 .no (e.aT.map az.aq)::.sl 13 .no (e.an.map V.aq)::.sl 9 .no (e.dt.map bc.aq)::r
abbrev aE.C:=R7 aE.T
abbrev aE.X:=R8 aE.T
abbrev aE.aq:=aE.X
structure aI where
 (name:Z)(bH:am)
abbrev aI.T(e:aI)r:=G.str e.name::e.bH.T r
abbrev aI.C:=R7 aI.T
abbrev aI.X:=R8 aI.T
abbrev aI.aq:=aI.X
instance(e:aI):eL S e.C:=inferInstance
structure ax where
 (gj yG:aj)(x:GStep)(eJ:U Z)
def ax.C(e:ax)(v:G):U G:=e.gj.T (e.yG.T (e.x.T (v::.sl 1 .no (e.eJ.map G.str)::[])))
def Nb(e:ax)(v:G):Sub (.aS (e.C v) 0) (.aS (e.C .any) 0):=.aS (.cons (.refl _) (.cons (.refl _) (.cons (.refl _) (.cons (.refl _) (.cons (.refl _) (.cons (.refl _) (.cons (.refl _) (.cons (.refl _) (.cons (.refl _) (.cons (.refl _) (.cons (.refl _) (.cons (.refl _) (.cons (.refl _) (.cons (.refl _) (.cons (.any _) (.refl _))))))))))))))))
instance {S:U Nm}(e:ax){v:G}[h:UN S v]:eL S (e.C v):=inferInstanceAs (eL S (e.gj.T (e.yG.T (e.x.T (v::.sl 1 .no (e.eJ.map G.str)::[])))))
structure aL where
 (gj yG:aj)(x:GStep)(u:U Z)
abbrev aL.T(e:aL)r:=e.gj.T (e.yG.T (e.x.T (.sl 1 .no (e.u.map G.str)::r)))
abbrev aL.C:=R7 aL.T
abbrev aL.X:=R8 aL.T
abbrev aL.aq:=aL.X
instance(e:aL):eL S e.C:=inferInstance
structure bT where
 (ai ar bV:Z)
abbrev bT.T(e:bT)r:=G.str e.ai::.str e.ar::.str e.bV::r
abbrev bT.C:=R7 bT.T
abbrev bT.X:=R8 bT.T
abbrev bT.aq:=bT.X
instance(e:bT):eL S e.C:=inferInstance
inductive kM where
 |d
 |rc (w:ax)
 |sp (w:ax)
 |su (w:ax)
 |rk (cs:List ByteArray) (k:ByteArray)
def kM.num:kM->Nat
 |.d=>167
 |.rc _=>74
 |.sp _=>79
 |.su _=>84
 |.rk _ _=>87
def kM.wq:kM->U G
 |.d=>[]
 |.rc w|.sp w|.su w=>[.aS [.aS (w.C .any) 0] 0]
 |.rk cs k=>[.aS [.sl 1 .no (cs.map G.str)] 0,.aS [.str k] 0]
def kM.aq(g:kM):G:=.fn (.func g.num) [] g.wq
instance {S:U Nm}(g:kM):eL S g.wq:=by cases g<;>unfold kM.wq<;>infer_instance
instance {S:U Nm}(g:kM):UN S g.aq:=inferInstanceAs (UN S (.fn (.func g.num) [] g.wq))
structure aB where
 (ai:V)(bV:Z)(plain:At)(bK:U bT)(get:kM)
abbrev aB.T(e:aB)r:=e.ai.T (.str e.bV::.bool e.plain::.sl 3 .no (e.bK.map bT.aq)::(kM.aq e.get)::r)
abbrev aB.C:=R7 aB.T
abbrev aB.X:=R8 aB.T
abbrev aB.aq:=aB.X
instance(e:aB):eL S e.C:=inferInstance
structure aw where
 (s:Z)(e:Int)
abbrev aw.T(e:aw)r:=G.str e.s::.int .i64 e.e::r
abbrev aw.C:=R7 aw.T
abbrev aw.X:=R8 aw.T
abbrev aw.aq:=aw.X
instance(e:aw):eL S e.C:=inferInstance
structure aO where
 (ah:Int)(cf iT name:Z)(pos:Int)
abbrev aO.T(e:aO)r:=G.int .i64 e.ah::.str e.cf::.str e.iT::.str e.name::.int .i64 e.pos::r
abbrev aO.C:=R7 aO.T
abbrev aO.X:=R8 aO.T
abbrev aO.aq:=aO.X
instance(e:aO):eL S e.C:=inferInstance
structure ep where
 (doc:Z)(pos dG:Int)(name:Z)(VZ:At)(RX:aO)
abbrev ep.T(e:ep)r:=G.str e.doc::.int .i64 e.pos::.int .i64 e.dG::.str e.name::.bool e.VZ::e.RX.T r
abbrev ep.C:=R7 ep.T
abbrev ep.X:=R8 ep.T
abbrev ep.aq:=ep.X
instance(e:ep):eL S e.C:=inferInstance
structure eu where
 (e0 e1:Z)
abbrev eu.T(e:eu)r:=G.str e.e0::.str e.e1::r
abbrev eu.C:=R7 eu.T
abbrev eu.X:=R8 eu.T
abbrev eu.aq:=eu.X
instance(e:eu):eL S e.C:=inferInstance
structure dK where
 (ms:U aP)(cf iT:Z)(aa7:U ep)(aa8:U aO)(bad:U cz)(V0:U eu)
abbrev dK.T(e:dK)r:=G.sl 2 .no (e.ms.map aP.aq)::.str e.cf::.str e.iT::.sl 10 .no (e.aa7.map ep.aq)::.sl 5 .no (e.aa8.map aO.aq)::.sl 5 .no (e.bad.map cz.aq)::.sl 2 .no (e.V0.map eu.aq)::r
abbrev dK.C:=R7 dK.T
abbrev dK.X:=R8 dK.T
abbrev dK.aq:=dK.X
instance(e:dK):eL S e.C:=inferInstance
structure dh where
 (ah:Int)(tC:Z)(pos:Int)
abbrev dh.T(e:dh)r:=G.int .i64 e.ah::.str e.tC::.int .i64 e.pos::r
abbrev dh.C:=R7 dh.T
abbrev dh.X:=R8 dh.T
abbrev dh.aq:=dh.X
instance(e:dh):eL S e.C:=inferInstance
structure ak where
 (ah:Int)(cf iT name:Z)(pos:Int)
abbrev ak.T(e:ak)r:=G.int .i64 e.ah::.str e.cf::.str e.iT::.str e.name::.int .i64 e.pos::r
abbrev ak.C:=R7 ak.T
abbrev ak.X:=R8 ak.T
abbrev ak.aq:=ak.X
instance(e:ak):eL S e.C:=inferInstance
structure gS where
 (name:Z)(QH:J)(oU eJ gj new:U Z)
abbrev gS.T(e:gS)r:=G.str e.name::e.QH.T (.sl 1 .no (e.oU.map G.str)::.sl 1 .no (e.eJ.map G.str)::.sl 1 .no (e.gj.map G.str)::.sl 1 .no (e.new.map G.str)::r)
abbrev gS.C:=R7 gS.T
abbrev gS.X:=R8 gS.T
abbrev gS.aq:=gS.X
structure aW where
 (n:Int)(np:At)(ay:U Z)
abbrev aW.T(e:aW)r:=G.int .i64 e.n::.bool e.np::.sl 1 .no (e.ay.map G.str)::r
abbrev aW.C:=R7 aW.T
abbrev aW.X:=R8 aW.T
abbrev aW.aq:=aW.X
instance(e:aW):eL S e.C:=inferInstance
structure gf where
 (e0 e1 e2 e3 e4:At)
abbrev gf.T(e:gf)r:=G.bool e.e0::.bool e.e1::.bool e.e2::.bool e.e3::.bool e.e4::r
abbrev gf.C:=R7 gf.T
abbrev gf.X:=R8 gf.T
abbrev gf.aq:=gf.X
instance(e:gf):eL S e.C:=inferInstance
instance {y:U Nm}(e:ax){v z:G}[h:Rn y v z]:yC y (e.C v) (e.C z):=inferInstanceAs (yC y (e.gj.T (e.yG.T (e.x.T (v::.sl 1 .no (e.eJ.map G.str)::[])))) (e.gj.T (e.yG.T (e.x.T (z::.sl 1 .no (e.eJ.map G.str)::[])))))
instance {y:U Nm}{N:Nat}(e:ax){v z:G}[h:R2 y N v z]:Ao y N (e.C v) (e.C z):=inferInstanceAs (Ao y N (e.gj.T (e.yG.T (e.x.T (v::.sl 1 .no (e.eJ.map G.str)::[])))) (e.gj.T (e.yG.T (e.x.T (z::.sl 1 .no (e.eJ.map G.str)::[])))))
instance {a c:Nm}(e:ax){v y:G}[h:R3 a c v y]:Ck a c (e.C v) (e.C y):=inferInstanceAs (Ck a c (e.gj.T (e.yG.T (e.x.T (v::.sl 1 .no (e.eJ.map G.str)::[])))) (e.gj.T (e.yG.T (e.x.T (y::.sl 1 .no (e.eJ.map G.str)::[])))))
abbrev H(x:Int):G:=.int .i64 x
abbrev bS:=yA 1 G.str
abbrev cE:=sQ 1 G.str
abbrev cL:=rY 1 G.str
abbrev lh:=yA 9 J.aq
abbrev jM:=sQ 9 J.aq
abbrev jS:=rY 9 J.aq
abbrev pY:=yA 1 (G.int .i64)
abbrev U1:=sQ 1 (G.int .i64)
abbrev U2:=rY 1 (G.int .i64)
abbrev pZ:=yA 13 V.aq
abbrev vA:=sQ 13 V.aq
abbrev jY:=rY 13 V.aq
abbrev As:=sQ 9 bc.aq
abbrev jZ:=rY 9 bc.aq
abbrev oP:=yA 2 az.aq
abbrev Hd:=sQ 2 az.aq
abbrev lF:=rY 2 az.aq
abbrev lG:=yA 2 aD.aq
abbrev lv:=sQ 2 aD.aq
abbrev oQ:=rY 2 aD.aq
abbrev mL:=yA 6 af.aq
abbrev rA:=sQ 6 af.aq
abbrev Kp:=rY 6 af.aq
abbrev mB:=yA 3 bT.aq
abbrev aku:=sQ 3 bT.aq
abbrev ale:=rY 3 bT.aq
abbrev qZ:=sQ 37 bC.aq
abbrev q9:=rY 37 bC.aq
abbrev ui:=yA 7 aG.aq
abbrev akv:=sQ 7 aG.aq
abbrev alf:=rY 7 aG.aq
abbrev vC:=yA 6 aI.aq
abbrev akz:=sQ 6 aI.aq
abbrev amW:=rY 6 aI.aq
abbrev Ie:=yA 5 am.aq
abbrev alW:=sQ 5 am.aq
abbrev an8:=rY 5 am.aq
abbrev V1:=yA 5 aF.aq
abbrev oR:=yA 23 aC.aq
abbrev Kq:=sQ 23 aC.aq
abbrev Kr:=rY 23 aC.aq
abbrev V2:=yA 2 aP.aq
abbrev RY:=sQ 2 aP.aq
abbrev ZQ:=rY 2 aP.aq
abbrev RZ:=yA 19 bN.aq
abbrev My:=sQ 19 bN.aq
abbrev Mw:=rY 19 bN.aq
abbrev nLR:=yA 5 cz.aq
abbrev U3:=sQ 5 cz.aq
abbrev U4:=rY 5 cz.aq
abbrev R1:=yA 5 aO.aq
abbrev tLS:=sQ 5 aO.aq
abbrev uLS:=rY 5 aO.aq
abbrev io(p:aE)(i:Int):Nm×bB:=((0,0),.cells [pY p.l,H i,.str p.cf,Hd 0 1 p.aT,vA 0 2 p.an,As 0 3 p.dt])
@[reducible] def Y{X:Type}(b:At)(x y:X):X:=cond b x y
@[reducible] def cN{X:Type}(b:At)(y:T X):T X:=cond b none y
@[reducible] def il{y z:Type}(x:y):T (y⊕z):=some (.inl x)
@[reducible] def ir{z y:Type}(x:y):T (z⊕y):=some (.inr x)
@[reducible] def w6(n:Int):Int:=IntKind.i64.wrap n
abbrev gL:=CU G.str
abbrev gn:=CU J.aq
abbrev ZR:=CU (G.int .i64)
abbrev Au:=CU V.aq
abbrev QI:=CU az.aq
abbrev ZS:=CU aD.aq
abbrev QJ:=CU af.aq
abbrev Ks:=CU bT.aq
abbrev ahX:=CU bC.aq
abbrev N7:=CU aG.aq
abbrev Cp:=CU am.aq
abbrev Gc:=CU aF.aq
abbrev If:=CU aC.aq
abbrev bk:Z:=⟨#[]⟩
abbrev jT:Z:=⟨#[61,61]⟩
abbrev QK:Z:=⟨#[105,100]⟩
abbrev QL:Z:=⟨#[120]⟩
abbrev V3:Z:=⟨#[105,116,101,109]⟩
abbrev ZT:Z:=⟨#[40]⟩
abbrev V4:Z:=⟨#[121]⟩
abbrev yH:Z:=⟨#[115,105,122,101]⟩
abbrev Ig:Z:=⟨#[60]⟩
abbrev QM:Z:=⟨#[97,103,101]⟩
abbrev R4:Z:=⟨#[112,101,114,115,111,110]⟩
abbrev Kt:Z:=⟨#[41]⟩
abbrev Gd:Z:=⟨#[114]⟩
abbrev Ih:Z:=⟨#[34]⟩
abbrev uC:Z:=⟨#[60,61]⟩
abbrev Ku:Z:=⟨#[91]⟩
abbrev wu:Z:=⟨#[33,61]⟩
abbrev wv:Z:=⟨#[43]⟩
abbrev mh:Z:=⟨#[111,116,104,101,114]⟩
abbrev Bd:Z:=⟨#[45]⟩
abbrev V5:Z:=⟨#[67,111,108,111,114]⟩
abbrev m5:Z:=⟨#[97,110,121]⟩
abbrev V6:Z:=⟨#[111,119,110,101,114]⟩
abbrev R5:Z:=⟨#[98]⟩
abbrev Ge:Z:=⟨#[110,111,116]⟩
abbrev ww:Z:=⟨#[114,111,119]⟩
abbrev wx:Z:=⟨#[115,99,104,101,109,97]⟩
abbrev V7:Z:=⟨#[97]⟩
abbrev Kv:Z:=⟨#[97,112,112]⟩
abbrev Be:Z:=⟨#[115,111,114,116]⟩
abbrev Bf:Z:=⟨#[42]⟩
abbrev Bg:Z:=⟨#[43,43]⟩
abbrev Kw:Z:=⟨#[46]⟩
abbrev Kx:Z:=⟨#[93]⟩
abbrev Gf:Z:=⟨#[97,110,100]⟩
abbrev Ky:Z:=⟨#[110,97,109,101]⟩
abbrev Ii:Z:=⟨#[111,114]⟩
abbrev Ij:Z:=⟨#[79,110]⟩
abbrev V8:Z:=⟨#[82,101,100]⟩
abbrev R6:Z:=⟨#[112]⟩
abbrev Kz:Z:=⟨#[66,111,111,108]⟩
abbrev KA:Z:=⟨#[73,110,116]⟩
abbrev KB:Z:=⟨#[84,101,120,116]⟩
abbrev KD:Z:=⟨#[98,97,115,101]⟩
abbrev H7:Z:=⟨#[101,120,116,114,97]⟩
abbrev Gl:Z:=⟨#[102,114,101,115,104]⟩
abbrev Ef:Z:=⟨#[108,97,116,101]⟩
abbrev Ik:Z:=⟨#[100,105,115,116,105,110,99,116]⟩
abbrev Il:Z:=⟨#[115,117,109]⟩
abbrev abc:Z:=⟨#[116,105,116,108,101]⟩
abbrev abd:Z:=⟨#[119,111,114,100]⟩
abbrev KF:Z:=⟨#[44]⟩
abbrev KG:Z:=⟨#[63]⟩
abbrev Sb:Z:=⟨#[83,116,97,116,101]⟩
abbrev Im:Z:=⟨#[97,108,108]⟩
abbrev abe:Z:=⟨#[110]⟩
abbrev KI:Z:=⟨#[123]⟩
abbrev KJ:Z:=⟨#[124]⟩
abbrev KK:Z:=⟨#[125]⟩
abbrev KL:Z:=⟨#[45,62]⟩
abbrev KM:Z:=⟨#[60,45]⟩
abbrev Sc:Z:=⟨#[79,102,102]⟩
abbrev V9:Z:=⟨#[97,98]⟩
abbrev abf:Z:=⟨#[100,111,110,101]⟩
abbrev abg:Z:=⟨#[102,108,97,103]⟩
abbrev Wa:Z:=⟨#[102,97,108,115,101]⟩
abbrev Wb:Z:=⟨#[116,114,117,101]⟩
abbrev Wc:Z:=⟨#[116,120]⟩
abbrev abh:Z:=⟨#[99,111,108,111,114]⟩
abbrev Wd:Z:=⟨#[48,49,50,51,52,53,54,55,56,57,97,98,99,100,101,102,103,104,105,106,107,108,109,110,111,112,113,114,115,116,117,118,119,120,121,122]⟩
abbrev rB:am:=⟨0,bk,0,[],[]⟩
abbrev JH(k:Int):am:=⟨k,bk,0,[],[]⟩
abbrev re(k:Int)(s:Z):am:=⟨k,s,0,[],[]⟩
abbrev eK:J:=⟨0,bk,0,bk,[],[],[],0,0⟩
abbrev U5(k:Int):J:=⟨k,bk,1,bk,[],[],[],0,0⟩
abbrev U6(k:Int):J:=⟨0,bk,k,bk,[],[],[],0,0⟩
abbrev cw(k:Int)(s:Z):J:=⟨k,s,0,bk,[],[],[],0,0⟩
abbrev bL(k:Int)(s:Z)(x:U J):J:=⟨k,s,0,bk,[],[],x,0,0⟩
abbrev ip(k:Int)(s:U Z)(x:U J):J:=⟨k,bk,0,bk,s,[],x,0,0⟩
abbrev QN(x:J):V:=⟨bk,[],[],[],x⟩
abbrev QO:aj:=⟨[],[]⟩
@[reducible] def fI{x y z:Type}(w:Nat->y->x->T (x⊕(x⊕z)))(xs:U y)(s:x):T (x⊕z):=bo w (λa=>a) 0 xs s
abbrev cd(a b:Nat)(x:U G):Nm×bB:=((a,b),.cells x)
abbrev oD(a b n:Nat)(x:U G):Nm×bB:=((a,b),.bD n x)
abbrev fN(n:Nat)(x:U G):G:=.fn (.func n) [] x
abbrev pT(a b:Nat):G:=.eU (a,b) 0
end
end Go.Ab

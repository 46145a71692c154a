/- The row and its card. -/
import Derived.ChangeSame
import Derived.ProofKit
import Derived.Test.YtoknehglgeiopaaGreatDoorR1
import Derived.Test.YtoknehglgeiopaaGreatDoorP5
set_option linter.all false
set_option maxHeartbeats 20000000
open Go Go.RowKit Go.Proofs
namespace Go.Ab
section
set_option maxRecDepth 100000
open Go Go.RowKit Go.Proofs Go.Proofs.YtoknehglgeiopaaGreatDoor Go.ChangeShapes Go.WideShapes Go.ChangeAt
def VLn{g:AV}:VL g [] []:=by simp[VL]
def VLc{g:AV}{x:G}{v:Value}{xs:U G}{vs:U Value}(h:ac g x v)(k:VL g xs vs):VL g (x::xs) (v::vs):=by simp only[VL];exact⟨v,vs,rfl,h,k⟩
def gok{W:World}(h:laidMetH Tryz.prog qR W){g:AV}(y:g.fz=Cn W):oO g gE:=by
 intro k cs x;unfold gE at x;split at x
 .simp only[Hs]at x;subst x;obtain⟨d,x⟩:=kinds h;rw[y];refine⟨by simp[ahc,hH,G.aM],Cn W 0,?_,K4⟩;have k0:=x 0 VQ;have k1:=x 1 VQ;have z:=x 2 VQ;have a:=x 3 VQ;have k4:=x 4 VQ;have b:=x 5 VQ;have c:=x 6 VQ;have k7:=x 7 VQ;generalize Cn W 0=l at*
  match l,d with
  | [w,A,C,D,F,H,K,L,N,P,e,f,i,j,m,n,o,p,q,r,s,t,u,v],_=>
   simp at k0 k1 z a k4 b c k7;subst k0 k1 z a k4 b c k7;unfold ahc
   repeat' first|exact VLn|(refine VLc (by simp[ac,VL]) ?_)
 .simp only[Hs]at x;subst x;exact⟨to _,_,H8 RQ,by rw[y,aaX h];exact K4⟩
 .simp only[Hs]at x;subst x;exact⟨to _,_,H8 ZK,by rw[y,aaY h];exact K4⟩
 .simp at x
def Rh{g:AV}:(x:U Int)->VE g 1 (x.map (G.int .i64)) (x.map (Value.int .i64))
 | []=>by simp[VE]
 |z::x=>by
  simp only[Hx,VE];exact⟨.int .i64 z,_,by simp[Value.cells],⟨by simp[Value.cells],by simp[Value.cells,Value.oneCell']⟩,by simp[ac],Rh x⟩
def pre{y:Type}{l m:U y}(h:∀i,i<l.length->m[i]?=l[i]?):l<+:m:=by
 refine⟨m.drop l.length,Lf λi=>?_⟩;by_cases x:i<l.length
 .rw[Ld x,h i x]
 .rw[P5 B9,L1];congr 1;omega
def ajQ{W:World}{p:Addr}{v:Value}(h:W.cell? p=some v):p.block<W.heap.size:=by
 unfold World.cell? at h;cases x:W.heap[p.block]? with
 |none=>simp[x]at h
 |some o=>exact(LD.1 x).1
def B4{H:Type}{aq:TypeId×Value->H}{W:World}{base:Nat}{v:Value}{d:DataW H}{p:U MemPlace}(D:Value.okWide Tryz.prog W .any base 22 v)(h:DataW.Trod aq Tryz.prog W 0 (λ_=>true) true 22 v d p)(F:∀K sp,d= .slice K sp->(K.length+sp.length)*8<=reachBytes):∃f:U Int,f.length<2 ^ 62/\(∀z∈f,qv z)/\(∀g:AV,g.fz=Cn W->ac g (.sl 1 .no (f.map (G.int .i64))) v)/\
  ∀l,Below W.heap.size W l->∀sp:Nat->At,(∀x∈p,sp x.block=true)->DataW.Trod aq Tryz.prog l 0 sp true 22 v d p:=by
 have L:Tryz.prog.cellsOf 3=1:=by kernel_rfl
 obtain⟨a0,j,k,rfl⟩:=okWide_slice Tryz.underlying22 D;obtain⟨fuel,N⟩:=h;rcases open_ints Tryz.underlying22 Tryz.underlying3 L N with⟨y,hx⟩|⟨a,len,cap,f,y,_,r,s,m,hx,cell,wf⟩
 .simp[Value.cells]at y;obtain⟨rfl,rfl,rfl⟩:=y;simp only[K7]at hx;obtain⟨rfl,rfl⟩:=hx;refine⟨[],by simp,by simp,λg _=>?_,λl _ sp _=>?_⟩
  .simp only[Lb,ac];exact⟨none,0,rfl,by simp,by simp,by simp,by simp,trivial⟩
  .exact shut_slice_nil Tryz.underlying22
 .simp[Value.cells]at y;obtain⟨rfl,rfl,rfl⟩:=y;simp only[K7]at hx;obtain⟨rfl,rfl⟩:=hx;have e:a.spot=none:=by
   have:=D;simp only[Value.okWide,Tryz.underlying22,Cell.okWide,Cell.ok,World.has]at this;exact this.2.2.2.1
  simp only[J0]at m;have P:0<k->a.block<W.heap.size:=λh=>by
   have:=cell 0 B9;exact ajQ this
  refine⟨f.take j,?_,λz u=>?_,λg Q=>?_,λl S sp A=>?_⟩
  .have:=F _ _ rfl;simp only[lits,B7,JB,KP,reachBytes]at this |-;omega
  .have:=wf z (LA u);simp[Lit.wf,IntKind.min,IntKind.max,IntKind.signed,IntKind.bits]at this;exact⟨by omega,by omega⟩
  .simp only[ac];refine⟨some a,k,by simp;omega,⟨by simp;omega,?_⟩,by simp,λ_=>⟨a.block,a.off,(f.take j).map (Value.int .i64),?_,Rh _,pre λi q=>?_⟩,by simpa using e,trivial⟩
   .have:=F _ _ rfl;simp only[lits,B7,JB,KP,reachBytes]at this |-;omega
   .obtain⟨b,off,spot⟩:=a;simp only at e;subst e;rfl
   .simp only[B7,JB]at q;have:=cell i B9;rw[Q,L1];obtain⟨b,off,spot⟩:=a;simp only at e;subst e;rw[add_plain]at this;unfold World.cell? at this;simp only[K9,List.getElem?_take];have n:f[i]?=some (f[i]' B9):=K6 _;rw[BX B9,n];unfold Cn;cases C:W.heap[b]? with
    |none=>simp[C]at this
    |some o=>
     cases o with
     |cells c t fr=>simp[C]at this |-;rw[this];simp[List.getD,n]
     |_=>simp[C]at this
  .have u:f.length=(if sp a.block then k else j):=by
    by_cases X:k=0
    .have:j=0:=by omega
     subst X this;split<;>omega
    .have:=A (.cell a.block a.off) (MemPlace.mem_row.2 ⟨0,by omega,by simp⟩);simp only[MemPlace.block]at this;rw[this];simpa using m
   refine⟨0+2,?_⟩;have:=shut_ints (enc:=aq) (w:=l) (base:=0) (spare:=sp) (held:=true) 0 Tryz.underlying22 Tryz.underlying3 L (K8 _) r s u (λi q=>by
    rw[S.cell (ajQ (cell i q))];exact cell i q) wf
   simpa[Value.cells]using this
def avU(H:Type)(aq:TypeId×Value->H)(W:World)(base:Nat)(args:Array Value)(D gs:U (DataW H))(z:U MemPlace)(y:∀(j:Nat)t v,Tryz.f3.params[j]?=some t->args[j]?=some v->Value.okWide Tryz.prog W .any base t v)(hW:DataW.Whole aq Tryz.prog Tryz.f3.params.toList Rows.translateStmtsSpec.vars false W args.toList D gs z)(f:(DataW.weightsEach Tryz.prog (Tryz.f3.params.toList++(OpenSpec.ofChange Rows.translateStmtsSpec).bare.plain.varTypes Tryz.prog) (D++gs)).all (· <=reachBytes)=true)(hL:laidMetH Tryz.prog qR W):
 Calls Tryz.prog 3 args W λe W'=>∃v,e= .returned v/\Rows.translateStmtsSpec.post aq Tryz.prog Tryz.f3 false true false false W args v W':=by
 have r:=hW;obtain⟨p,q,F,hV,rfl,hfz,hnd⟩:=hW;have hA:DataW.TrodAll aq Tryz.prog W 0 (λ_=>true) true Tryz.f3.params.toList args.toList D p:=F;rw[Tryz.params3]at hA y f;obtain⟨v0,vs0,d0,ds0,p0,q0,alo,rfl,rfl,h0,r0⟩:=trodAll_cons hA;obtain⟨K,vs1,d1,ds1,L,q1,rfl,rfl,rfl,h1,r1⟩:=trodAll_cons r0;obtain⟨N,vs2,d2,ds2,P,q2,rfl,rfl,rfl,h2,r2⟩:=trodAll_cons r1;obtain⟨v3,vs3,d3,ds3,p3,q3,rfl,rfl,rfl,h3,r3⟩:=trodAll_cons r2;obtain⟨rfl,rfl,rfl⟩:=trodAll_nil r3;obtain rfl:args=#[v0,K,N,v3]:=by cases args;simp_all
 obtain⟨rfl,rfl⟩:=trodVars_none hV;have Q:Tryz.prog.bytesOf 3=8:=by kernel_rfl
 have sz:∀(j:Nat){a sp:U (DataW H)},([22,22,22,3]++(OpenSpec.ofChange Rows.translateStmtsSpec).bare.plain.varTypes Tryz.prog)[j]?=some 22->([d0,d1,d2,d3]++[])[j]?=some (.slice a sp)->(a.length+sp.length)*8<=reachBytes:=λj a sp ht hd=>by
  have:=sized_slice f (j:=j) ht hd Tryz.underlying22
  rwa [Q]at this
 obtain⟨l,S,X,hl3,hl4⟩:=B4 (y 0 22 v0 rfl rfl) h0 (λa sp e=>sz 0 rfl E0);obtain⟨m,hm1,hm2,hm3,hm4⟩:=B4 (y 1 22 K rfl rfl) h1 (λa sp e=>sz 1 rfl E0);obtain⟨k,hk1,hk2,hk3,hk4⟩:=B4 (y 2 22 N rfl rfl) h2 (λa sp e=>sz 2 rfl E0);obtain⟨n,rfl,rfl,rfl,hwf⟩:=open_int Tryz.underlying3 (y 3 3 v3 rfl rfl) h3;have C:=(aef (afg (qL:=n) S X hm2 hk2)).2
 let g:AV:=⟨W.heap.size,W,Cn W,λ_=>False,λ_=>0,λ_=>⟨none,0,0⟩⟩
 have w:g.fz=Cn W:=rfl;have s:gh g W (aN ([]++[])) ej:=by
  have d:bG (aN ([]++[])) ej=ej:=by funext j;simp[bG,aN,ej]
  refine⟨?_,λj=>.inl (by simp[aN,ej])⟩;rw[d];refine⟨λj=>by simp[g,ej],Below.refl _ _,Hq _,λb hb=>?_,λj o h=>by simp[ej]at h,λj o b h=>by simp[ej]at h,λi j o p b h=>by simp[ej]at h⟩;simp only[g,Cn]at hb |-;cases d:W.heap[b]? with
  |none=>simp[d]at hb
  |some o=>
   cases o with
   |cells c t fr=>exact⟨c,t,fr,rfl,K4⟩
   |_=>simp[d]at hb
 have:=C g ej W #[v0,K,N,.int .i64 n] (λj h=>by simp[ej]at h) s (gok hL w) (by
  simp only[VL];exact⟨_,_,rfl,hl3 g w,_,_,rfl,hm3 g w,_,_,rfl,hk3 g w,_,_,rfl,by simp[ac],rfl⟩)
 refine this.mono λe W'⟨v,g',x,hp',d,u,hr,hv,hx⟩=>?_
 obtain⟨hx,_⟩:=hx;subst hx;simp only[ac]at hv;subst hv;have A:Below W.heap.size W W':=by have:=hr.rel.jI;rwa [u.bV,u.w0]at this
 have hold:∀x∈p0++(L++(P++([]++[])))++[],(λb=>decide (b<W.heap.size)) x.block=true:=λx hx=>by simpa using r.lt x hx
 have hm:∀x,x∈p0\/x∈L\/x∈P->(λb=>decide (b<W.heap.size)) x.block=true:=λx hx=>hold x (by rcases hx with h|h|h<;>simp[h])
 refine⟨_,d,_,_,_,[],p0++(L++(P++([]++[]))),[],r,trodAll_cons_mk (shut_bool Tryz.underlying4 _) trodAll_mk0,?_,rfl,A.frame _,λh=>by cases h⟩;exact trodAll_cons_mk (hl4 W' A _ λx h=>hm x (.inl h)) (trodAll_cons_mk (hm4 W' A _ λx h=>hm x (.inr (.inl h))) (trodAll_cons_mk (hk4 W' A _ λx h=>hm x (.inr (.inr h))) (trodAll_cons_mk (shut_int Tryz.underlying3 hwf) trodAll_mk0)))
end
end Go.Ab

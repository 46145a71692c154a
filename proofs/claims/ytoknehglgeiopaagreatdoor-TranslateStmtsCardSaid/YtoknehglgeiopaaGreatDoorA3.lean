/- The logic of the walk. -/
import Derived.Laws.StructEq
import Derived.MapKept
import Derived.Test.YtoknehglgeiopaaGreatDoorA2
set_option linter.all false
open Go Go.RowKit
namespace Go.Ab
section
variable {P:Program}{ge:GE}{F:Nm->Prop}{S:Hp->Prop}{tm:Tm}{hp:Hp}{K:G->Hp->Prop}{o:Oper}
def AV.bO(g:AV)(j:Nm)(t:TI):AV:={g with tl:=λi=>if i=j then t else g.tl i}
def AV.gG(g:AV){j:Nm}(t:TI)(x:¬g.dC j):AV.Le g (g.bO j t)where
 bV:=rfl
 w0:=rfl
 fz _:=K4
 dC _ h:=h
 cC _ _:=rfl
 tl i hi:=by left;simp only[AV.bO];rw[BY (λe=>x (by rw[<-e];exact hi))]
def dy.bO{g w}(r:dy g w hp){j}t(f:hp j=none):dy (g.bO j t) w hp:=by
 have z:=g.gG t (r.cT f);have a:∀k p,hp k=some p->(g.bO j t).tl k=g.tl k:=λk p x=>by
  simp only[AV.bO];rw[BY (λe=>by rw[e,f]at x;simp at x)]
 have y:∀k p,hp k=some p->dq (g.bO j t) k p=dq g k p:=λk p x=>gC p z (r.dl x) (a k p x)
 exact⟨r.dC,r.jI,r.size,r.fz,λk p x=>(r.fR k p x).lU z (r.dl x) (a k p x) λb _=>⟨rfl,rfl⟩,
  λk p b x c=>r.el k p b x (by rw[<-y k p x];exact c),
  λi k p q b l x c d=>r.jH i k p q b l x (by rw[<-y i p l];exact c) (by rw[<-y k q x];exact d)⟩
def dy.ki{g w}(r:dy g w hp){j}(n:hp j=none)sz b:dy (g.push j b) w (cW hp j (.bD sz [])):=by
 have a:=lu g (j:=j) b (r.cT n);have key:∀i p,cW hp j (.bD sz []) i=some p->(i=j/\p= .bD sz [])\/(i≠j/\hp i=some p):=by
  intro i p h;by_cases e:i=j
  .subst e;rw[bp]at h;simp at h;exact .inl ⟨rfl,h.symm⟩
  .rw[aZ _ _ e]at h;exact .inr ⟨e,h⟩
 have x:∀i p,hp i=some p->dq (g.push j b) i p=dq g i p:=λi p h=>gC p a (r.dl h) rfl
 refine⟨λi=>?_,r.jI,r.size,r.fz,?_,?_,?_⟩
 .by_cases e:i=j
  .subst e;simp[AV.push,cW]
  .simp only[AV.push,aZ _ _ e,e,false_or];exact r.dC i
 .intro i p h;rcases key i p h with⟨rfl,rfl⟩|⟨c,h⟩
  .intro h;exact absurd rfl h
  .exact(r.fR i p h).lU a (r.dl h) rfl λb f=>⟨rfl,rfl⟩
 .intro i p d h f;rcases key i p h with⟨rfl,rfl⟩|⟨c,h⟩
  .simp[dq]at f
  .rw[x i p h]at f;exact r.el i p d h f
 .intro i k p q d o s y z;rcases key i p o with⟨rfl,rfl⟩|⟨c,h⟩
  .simp[dq]at y
  .rcases key k q s with⟨rfl,rfl⟩|⟨l,m⟩
   .simp[dq]at z
   .rw[x i p h]at y;rw[x k q m]at z;exact r.jH i k p q d h m y z
def dy.qa{g w}(r:dy g w hp){t ty e sz bytes}(h:oV P t e sz bytes){j}(y:hp j=none){p ys tok s x}(hs:ac g (.sl p .fu []) s)(hx:ac g (.sl sz tok ys) x)(hb:ys.length*bytes<=140737488355328)(hm:ys.length<=4611686018427387904):
 ∃v w' g',(Builtin.append_ #[t,t] ty #[s,x]).run P w= .ok v w'/\AV.Le g g'/\dy g' w' (cW hp j (.bD sz ys))/\ac g' (.ms j sz ys.length) v:=by
 obtain⟨i,z,hi,hz,q,u,A⟩:=h.p5;subst q u;obtain⟨vals,b,f⟩:=gF (P:=P) r hx;have C:=VE.length _ _ b;have hs:ac g (.sl i.size .fu []) s:=ac.sub (.nil (.inl rfl)) _ hs;obtain⟨ajJ,k,D⟩:=gF (P:=P) r hs;simp only[VE]at k;subst k;simp only[ac]at hs hx;obtain⟨a,cap,rfl,hcap,ajn,_,K,l⟩:=hs;obtain⟨xa,L,rfl,amv,_,_,_,_⟩:=hx;simp only[dV,B1]at l;subst l;by_cases c:ys=[]
 .subst c;have r':=r.bO ⟨a,0,0⟩ y;have d:=(g.gG ⟨a,0,0⟩ (r.cT y)).trans (lu _ w.heap.size (r'.cT y));refine⟨.slice a 0 0,w,(g.bO j ⟨a,0,0⟩).push j w.heap.size,?_,d,r'.ki y _ _,?_⟩
  .have o:=f w rfl;simp only[VE]at b;subst b;cases a<;>simp[Builtin.append_,FG h.aM,sizeOf,typeInfo,hi,Builtin.lenOf]at o ⊢<;>simp[o,storeCells]
  .simp only[ac];exact⟨by simp[AV.push],a,0,by simp,by simp,λ_=>rfl,by simp,K,by simp[dV,AV.push,AV.bO]⟩
 .have amw:0<ys.length:=KS.2 c;have N:0<0+ys.length:=by omega
  have Q:(0+ys.length)*i.bytes<=140737488355328:=by rw[LB];exact hb
  have X:=growslice_fits N Q;have ajb:¬(ys.length<=0):=by omega
  have alB:¬(9223372036854775807<(ys.length:Int)):=by omega
  have alC:¬(281474976710656<Builtin.nextslicecap ys.length 0*i.bytes):=by
   rw[LB]at X;omega
  let nc:=grownCap w ys.length 0 e
  let np:Array Value:=vals.toArray++Builtin.zeroCells z.cells (nc-ys.length)
  have ajf:(Builtin.append_ #[t,t] ty #[.slice a 0 0,.slice xa ys.length L]).run P w=
   .ok (.slice (some ⟨w.heap.size,0,none⟩) ys.length nc) (w.drew.alloc (.cells np e)):=by
   have o:=f w.drew rfl;have m:=D w.drew rfl;simp only[B1]at m;simp[Builtin.append_,FG h.aM,sizeOf,typeInfo,zeroValue,hi,hz,Builtin.lenOf,c,alB,alC,Question.forced,o,m,newRow,grownCap,nc,np]
  have n:ys.length<=nc:=grownCap_ge w _ _ _
  let t:TI:=⟨some ⟨w.heap.size,0,none⟩,ys.length,nc⟩
  have r0:dy (g.bO j t) w.drew hp:=(r.bO t y).drew (w.drawn+1);have hz0:g.fz w.heap.size=[]:=r.jJ;have d:=(g.gG t (r.cT y)).trans (lu (g.bO j t) w.drew.heap.size ((r.bO t y).cT y));have r1:=r0.alloc y (.cells np e) (.bD i.size ys) (by cases ys with|nil=>exact absurd rfl c|cons=>simp[dq,AV.push]) (λ_=>by
   refine⟨vals,(Builtin.zeroCells z.cells (nc-ys.length)).toList,e,VE.mono d _ _ _ b,?_,?_,?_⟩
   .have:((g.bO j t).push j w.drew.heap.size).cC j=w.heap.size:=by simp[AV.push]
    rw[this];refine(hX w.drew _).trans ?_;simp[np]
   .simpa[AV.push,AV.bO]using hz0
   .have hzl:(Builtin.zeroCells z.cells (nc-ys.length)).toList.length=(nc-ys.length)*i.size:=by
     rw[<-A];simp[Builtin.zeroCells]
    refine⟨by simp[AV.push,AV.bO,t],by simp[AV.push,AV.bO,t,n],by simp[AV.push,AV.bO,t],?_⟩;simp only[AV.push,AV.bO,J0,t,C,hzl];rw[<-JC];exact JW _ B9)
  refine⟨_,_,_,ajf,d,r1,?_⟩;simp only[ac];exact⟨by simp[AV.push],_,nc,rfl,⟨n,hm⟩,by simp,λ_=>by simp[AV.push],by simp,by simp[dV,AV.push,AV.bO,t]⟩
def eW.qa{t e x y sz a bytes tok ys}j(i:hp j=none)(k:¬F j)(b:o.op= .call {callee:=.builtin .append,args:=#[x,y],argTypes:=#[t,t]})
 (D:oV P t e sz bytes) (hx:bP ge tm x= .sl a .fu []) (l:bP ge tm y= .sl sz tok ys)
 (m:ys.length*bytes<=140737488355328) (n:ys.length<=4611686018427387904)
 (p:K (.ms j sz ys.length) (cW hp j (.bD sz ys))):eW P ge F o tm hp K:=by
 refine .value λg fr w q f r s v=>?_
 have c:=v x Fc;have d:=v y Fc;rw[hx]at c;rw[l]at d;have z:=dI f k;obtain⟨u,w',g',e1,e2,e3,e4⟩:=r.rel.qa (ty:=o.type) (j:=j) D (cm i z) c d m n;rw[bz]at e3;exact⟨u,w',g',_,_,by simp[execOp,b,resolve,invoke,builtin,e1],e2,⟨e3,r.cM.cW z⟩,e4,p⟩
def afF{t e x sz n j}(z:o.op= .call {callee:=.builtin .len,args:=#[x],argTypes:=#[t]})(hu:P.underlying t=some (.slice e))(hx:bP ge tm x= .ms j sz n):Ev P ge o tm S (.int .i64 n):=by
 refine .df (λg w b _ _ r c v=>?_);have y:=v x Dn;rw[hx]at y;simp only[ac]at y |-;obtain⟨_,a,cap,e1,_⟩:=y;exact⟨_,by simp[execOp,z,resolve,invoke,builtin,Builtin.len_,e1,goInt,FG hu],rfl⟩
def dy.HC{g w}(r:dy g w hp){t agg n}(b:gV P t=some agg)(c:du P t=some n){j i off sz xs z}(d:hp j=some (.bD sz xs))(a:xs[i]?=some z)(hs:z.cells.all G.eV=true){y}(f:Ab.cut agg n z.cells off=some y):
 ∃v,(loadVar t ⟨g.cC j,i*sz+off,none⟩).run P w= .ok v w/\ac g y v:=by
 obtain⟨vals,rest,elem,x,k,_⟩:=r.fR j _ d (by intro e;subst e;simp at a);obtain⟨u,k1,l,m,k4⟩:=VE.get _ _ x _ _ a;refine kx (P:=P) (o:=i*sz) b c k (ac.cells k1 hs) ?_ f;refine k4.trans ?_;simp only;exact eF (MK _ _) _
def afG{t x j i off m sz n c xs y z}(d:o.op= .load t x)(hx:bP ge tm x= .eU j m)(e:m=i*sz+off)(f:gV P t=some c)(l:du P t=some n)(p:xs[i]?=some z)(hs:z.cells.all G.eV=true)(q:cut c n z.cells off=some y):
 Ev P ge o tm (λhq=>hq j=some (.bD sz xs)) y:=by
 refine .df (λg w a hq s r k v=>?_);have b:=v x DA;rw[hx]at b;simp only[ac]at b;subst e;obtain⟨u,A,C⟩:=r.HC f l s p hs q;exact⟨u,by simp[execOp,d,Instr.loadAt,b.2,Instr.sureAddr,A],C⟩
theorem VE.fH{g sz off n vs z'}(k:vs.length=n)(m:off+n<=sz):∀xs vals,VE g sz xs vals->∀i{z},xs[i]?=some z->
 (∀u,ac g z u->u.cells.size=sz->(∀c∈u.cells.toList,c.oneCell'=true)->∃u',ac g z' u'/\u'.cells.toList=u.cells.toList.take off++vs++u.cells.toList.drop (off+n)/\∀c∈u'.cells.toList,c.oneCell'=true)->
 VE g sz (xs.set i z') (vals.take (i*sz+off)++vs++vals.drop (i*sz+off+n))
 | [],_,_,i,z,y,_=>by simp at y
 |x::xs,vals,e,0,z,y,d=>by
  simp only[VE]at e;obtain⟨u,rest,rfl,a,f,j⟩:=e;simp at y;subst y;obtain⟨u',k1,l,o⟩:=d u f a.1 a.2;simp only[agH,VE];have b:u.cells.toList.length=sz:=by simpa using a.1
  refine⟨u',rest,?_,⟨?_,o⟩,k1,j⟩
  .rw[l,Nat.zero_mul,LB,NO B9,MM B9];simp
  .have:=JV List.length l;simp only[G7,JB,KP,b,k,LJ]at this;omega
 |x::xs,vals,e,i+1,z,y,d=>by
  simp only[VE]at e;obtain⟨u,rest,rfl,a,f,j⟩:=e;have p:=VE.fH k m xs rest j i Ee d;simp only[List.set_cons_succ,VE];have b:u.cells.toList.length=sz:=by simpa using a.1
  refine⟨u,_,?_,a,f,p⟩;have e1:(i+1)*sz+off=u.cells.toList.length+(i*sz+off):=by rw[b,JC];omega
  have e2:(i+1)*sz+off+n=u.cells.toList.length+(i*sz+off+n):=by rw[b,JC];omega
  rw[e2,e1,List.take_append,ML];simp[L6,Lo]
def dy.FK{g w}(r:dy g w hp){t n}(hn:du P t=some n){j i off sz xs z z'}(hj:hp j=some (.bD sz xs))(Q:xs[i]?=some z){x v}(hx:ac g x v)(hs:x.cells.all G.eV=true)(hl:x.cells.length=n)(X:off+n<=sz)(hz':(∃cs,z= .agg cs/\z'= .agg (Ab.fH cs off x.cells))\/(z'=x/\off=0/\n=sz)):
 ∃w',(storeVar t ⟨g.cC j,i*sz+off,none⟩ v).run P w= .ok () w'/\dy g w' (cW hp j (.bD sz (xs.set i z'))):=by
 have f:xs≠ []:=by intro e;subst e;simp at Q
 obtain⟨vals,rest,elem,p,hb,q,htl⟩:=r.fR j _ hj f;have y:=hx.cells hs;have d:=VL.length _ _ y;have s:=VE.length _ _ p;have hi:=gD Q;have ajb:i*sz+off+n<=vals.length:=by
  rw[s];have:(i+1)*sz<=xs.length*sz:=JW _ hi;rw[JC]at this;omega
 have l:dq g j (.bD sz xs)=some (g.cC j):=by cases xs with|nil=>exact absurd rfl f|cons=>rfl
 have m:dq g j (.bD sz (xs.set i z'))=some (g.cC j):=by
  cases xs with
  |nil=>exact absurd rfl f
  |cons a xs=>cases i<;>rfl
 have ajf:=MP (P:=P) (g.cC j) (i*sz+off) elem v.cells.toList 0 _ w hb (by simp at d |-;omega) (VL.eV _ _ y hs);have alw:(storeVar t ⟨g.cC j,i*sz+off,none⟩ v).run P w=(storeCells ⟨g.cC j,i*sz+off,none⟩ v.cells.toList).run P w:=by
  simp only[storeVar,FO,dH hn,G4];rw[BY (by simp at d |-;omega)]
 have A:v.cells.toList.length=n:=by rw[d,hl]
 have C:=VE.fH (z':=z') A X xs vals p i Q (λu hu hsz D=>by
  rcases hz' with⟨cs,rfl,rfl⟩|⟨rfl,rfl,rfl⟩
  .simp only[ac]at hu;obtain⟨bD,rfl,K⟩:=hu;refine⟨.agg (bD.toList.take off++v.cells.toList++bD.toList.drop (off+n)).toArray,?_,by simp[Value.cells],?_⟩
   .simp only[ac];refine⟨_,rfl,?_⟩;simp only[Ab.fH,hl];exact VL.append _ _ (VL.append _ _ (VL.take off _ _ K) _ _ y) _ _ (VL.drop _ _ _ K)
   .intro c hc;simp only[Value.cells,Hy]at hc;rcases hc with(hc|hc)|hc
    .exact D c (by simp only[Value.cells];exact LA hc)
    .exact VL.eV _ _ y hs c hc
    .exact D c (by simp only[Value.cells];exact LP hc)
  .refine⟨v,hx,?_,VL.eV _ _ y hs⟩;have:u.cells.toList.length=n:=by simpa using hsz
   simp[Lo,this])
 refine⟨_,alw.trans ajf,?_⟩;refine r.set hj (o':=.bD sz (xs.set i z')) (m.trans l.symm) (λk hk=>MO _ _ _ _ (λe=>hk (by rw[l,e]))) (by simp[World.setRow]) rfl rfl rfl ?_ ?_
 .intro b o L;rw[l]at o;simp at o;subst o;exact absurd q L
 .intro _;have N:=VE.length _ _ C;rw[NF,<-s]at N;refine⟨_,rest,elem,C,?_,q,by rw[NF,N];exact htl⟩;rw[MN w _ _ _ elem _ hb];have e1:(vals++rest).take (i*sz+off)=vals.take (i*sz+off):=NO B9;have e2:(vals++rest).drop (i*sz+off+v.cells.toList.length)=vals.drop (i*sz+off+n)++rest:=by
   rw[A,MM B9]
  simp only[L5,e1,e2];simp
def afH{t x y j i off m n sz xs z z'}(l:o.op= .store t x y)(hx:bP ge tm x= .eU j m)(hm:m=i*sz+off)(N:hp j=some (.bD sz xs))(Q:xs[i]?=some z)(hn:du P t=some n)(hs:(bP ge tm y).cells.all G.eV=true)(hl:(bP ge tm y).cells.length=n)(p:off+n<=sz)(s:(∃cs,z= .agg cs/\z'= .agg (fH cs off (bP ge tm y).cells))\/(z'=bP ge tm y/\off=0/\n=sz)){xs'}(ez:bF (xs.set i z') xs')(hk:K (.bZ []) (cW hp j (.bD sz xs'))):eW P ge F o tm hp K:=by
 refine .skip λg fr w a f r k v=>?_
 have u:=v x IU;rw[hx]at u;simp only[ac]at u;subst hm;obtain⟨w',h1,A⟩:=r.rel.FK hn (aK N) Q (v y IU) hs hl p s;have X:dy g w' (cW (bG hp fr) j (.bD sz xs')):=by
  have C:xs≠ []:=by intro e;subst e;simp at Q
  have c:=ez.length;have d:xs.set i z'≠ []:=by intro e;have:=JV List.length e;simp at this;exact C this
  have D:ey g w' j (.bD sz xs'):=λ_=>by
   obtain⟨vs,rest,elem,q1,q2⟩:=A.fR j _ (bp _ _ _) d;exact⟨vs,rest,elem,VE.sub ez _ _ q1,by rw[<-c];exact q2⟩
  have L:dq g j (.bD sz xs')=dq g j (.bD sz (xs.set i z')):=by
   cases h4:xs' with
   |nil=>rw[h4]at c;exact absurd (KE DC) d
   |cons a b=>
    cases h5:xs.set i z' with
    |nil=>exact absurd h5 d
    |cons=>rfl
  have:=A.set (o':=.bD sz xs') (w':=w') (bp _ _ _) L (λ_ _=>rfl) rfl rfl rfl rfl (λb hb hf=>A.fz b hf) D;have e:cW (cW (bG hp fr) j (.bD sz (xs.set i z'))) j (.bD sz xs')=cW (bG hp fr) j (.bD sz xs'):=by
   funext q;simp only[cW];split<;>rfl
  rw[e]at this;exact this
 rw[bz]at X;exact⟨w',g,_,by simp[execOp,l,Instr.storeAt,u.2,Instr.sureAddr,h1],AV.Le.refl g,⟨X,r.cM.fW N⟩,hk⟩
def dy.nw{g w}(r:dy g w hp){j sz xs}(s:hp j=some (.bD sz xs)):
 ∃g',AV.Le g g'/\g'.dC=g.dC/\dy g' w (cW hp j (.bD sz []))/\∀v,ac g (.ms j sz xs.length) v->ac g' (.sl sz .no xs) v:=by
 by_cases z:xs=[]
 .subst z;refine⟨g,AV.Le.refl g,rfl,?_,λv o=>?_⟩
  .have:cW hp j (.bD sz [])=hp:=by
    funext k;by_cases e:k=j
    .subst e;rw[bp,s]
    .rw[aZ _ _ e]
   rw[this];exact r
  .simp only[ac]at o |-;obtain⟨_,a,cap,e1,e2,e3,_,t,_⟩:=o;exact⟨a,cap,e1,e2,e3,λh=>absurd rfl h,t,trivial⟩
 .obtain⟨vals,rest,elem,u,P,A,_⟩:=r.fR j _ s z;have C:dq g j (.bD sz xs)=some (g.cC j):=by cases xs with|nil=>exact absurd rfl z|cons=>rfl
  have f:AV.Le g (g.cO (g.cC j) vals):=K1 (by rw[A];exact LV);have y:∀i p,dq (g.cO (g.cC j) vals) i p=dq g i p:=λi p=>by cases p<;>rfl
  have key:∀i p,cW hp j (.bD sz []) i=some p->(i=j/\p= .bD sz [])\/(i≠j/\hp i=some p):=by
   intro i p h;by_cases e:i=j
   .subst e;rw[bp]at h;simp at h;exact .inl ⟨rfl,h.symm⟩
   .rw[aZ _ _ e]at h;exact .inr ⟨e,h⟩
  refine⟨_,f,rfl,⟨λi=>?_,r.jI,r.size,λb l=>?_,λi p x=>?_,λi p d x hd=>?_,λi k p q d x D m n=>?_⟩,λv o=>?_⟩
  .show g.dC i↔_
   by_cases e:i=j
   .subst e;rw[bp,r.dC i,s];simp
   .rw[aZ _ _ e];exact r.dC i
  .by_cases e:b=g.cC j
   .subst e;exact⟨_,elem,(0,0),P,by simp[AV.cO]⟩
   .have K:g.fz b≠ []:=by simpa[AV.cO,e]using l
    obtain⟨c,Q,fr,h,L⟩:=r.fz b K;exact⟨c,Q,fr,h,by simpa[AV.cO,e]using L⟩
  .rcases key i p x with⟨rfl,rfl⟩|⟨X,x⟩
   .intro h;exact absurd rfl h
   .refine(r.fR i p x).lU f (r.dl x) rfl λb l=>⟨rfl,?_⟩
    have N:b≠g.cC j:=λe=>by
     subst e;exact X (r.jH i j p _ _ x s l C)
    simp[AV.cO,N]
  .rw[y]at hd;rcases key i p x with⟨rfl,rfl⟩|⟨_,x⟩
   .simp[dq]at hd
   .exact r.el i p d x hd
  .rw[y]at m n;rcases key i p x with⟨rfl,rfl⟩|⟨_,x⟩
   .simp[dq]at m
   .rcases key k q D with⟨rfl,rfl⟩|⟨_,D⟩
    .simp[dq]at n
    .exact r.jH i k p q d x D m n
  .simp only[ac]at o |-;obtain⟨_,a,cap,e1,e2,e3,e4,t,_⟩:=o;have ha:=e4 (KS.2 z);refine⟨a,cap,e1,e2,e3,λ_=>⟨g.cC j,0,vals,ha,VE.mono f _ _ _ u,?_⟩,t,trivial⟩;simp[AV.cO]
def dy.AS{g w}(r:dy g w hp){j sz xs}(u:hp j=some (.bD sz xs))(n:xs≠ []):
 ∃g',AV.Le g g'/\g'.dC=g.dC/\dy g' w (cW hp j (.tail sz xs.length))/\∀v,ac g (.ms j sz xs.length) v->ac g' (.sl sz (.tail j) xs) v:=by
 obtain⟨vals,rest,elem,A,hb,L,N,P,C,Q⟩:=r.fR j _ u n;have X:=VE.length _ _ A;have l:dq g j (.bD sz xs)=some (g.cC j):=by cases xs with|nil=>exact absurd rfl n|cons=>rfl
 have m:AV.Le g (g.cO (g.cC j) vals):=K1 (by rw[L];exact LV);have x:∀i p,dq (g.cO (g.cC j) vals) i p=dq g i p:=λi p=>by cases p<;>rfl
 have o:∀d,dq g j (.tail sz xs.length)=some d->d=g.cC j:=λd hd=>by
  simp only[dq]at hd;split at hd
  .rw[C]at hd;simpa using hd.symm
  .simp at hd
 have key:∀i p,cW hp j (.tail sz xs.length) i=some p->(i=j/\p= .tail sz xs.length)\/(i≠j/\hp i=some p):=by
  intro i p h;by_cases e:i=j
  .subst e;rw[bp]at h;simp at h;exact .inl ⟨rfl,h.symm⟩
  .rw[aZ _ _ e]at h;exact .inr ⟨e,h⟩
 refine⟨_,m,rfl,⟨λi=>?_,r.jI,r.size,λb s=>?_,λi p y=>?_,λi p d y hd=>?_,λi k p q d y hk z f=>?_⟩,λv hv=>?_⟩
 .show g.dC i↔_
  by_cases e:i=j
  .subst e;rw[bp,r.dC i,u];simp
  .rw[aZ _ _ e];exact r.dC i
 .by_cases e:b=g.cC j
  .subst e;exact⟨_,elem,(0,0),hb,by simp[AV.cO]⟩
  .have hb2:g.fz b≠ []:=by simpa[AV.cO,e]using s
   obtain⟨c,e',fr,h,hp'⟩:=r.fz b hb2;exact⟨c,e',fr,h,by simpa[AV.cO,e]using hp'⟩
 .rcases key i p y with⟨rfl,rfl⟩|⟨hn,y⟩
  .refine⟨N,P,λ_=>⟨g.cC i,0,C,by simp[AV.cO,X],_,elem,hb,?_⟩⟩;simp only[AV.cO,LB,List.size_toArray,G7];exact Q
  .refine(r.fR i p y).lU m (r.dl y) rfl λb s=>⟨rfl,?_⟩
   have hbj:b≠g.cC j:=λe=>by
    subst e;exact hn (r.jH i j p _ _ y u s l)
   simp[AV.cO,hbj]
 .rw[x]at hd;rcases key i p y with⟨rfl,rfl⟩|⟨_,y⟩
  .have:=o d hd;subst this;exact r.el _ _ _ u l
  .exact r.el i p d y hd
 .rw[x]at z f;rcases key i p y with⟨h1,h2⟩|⟨_,D⟩
  .rcases key k q hk with⟨K,h4⟩|⟨_,t⟩
   .rw[h1,K]
   .rw[h1,h2]at z;have:=o d z;subst this;rw[h1];exact r.jH _ k _ q _ u t l f
  .rcases key k q hk with⟨K,h4⟩|⟨_,t⟩
   .rw[K,h4]at f;have:=o d f;subst this;rw[K];exact r.jH i _ p _ _ D u z l
   .exact r.jH i k p q d D t z f
 .simp only[ac]at hv |-;obtain⟨e0,a,cap,e1,e2,e3,e4,e5,e6⟩:=hv;have ha:=e4 (KS.2 n);refine⟨a,cap,e1,e2,e3,λ_=>⟨g.cC j,0,vals,ha,VE.mono m _ _ _ A,?_⟩,e5,e6.mono m⟩;simp[AV.cO]
def afI{t e len sz y zs}j(hj:hp j=none)(hF:¬F j)(ho:o.op= .buildSlice t len y)(ht:cX P t=some (e,sz))(Q:jK P e=some zs)
 (n:len=y.size) (hz:zs.length=sz) (amT:len*sz<=16777216) (hl2:len<=16777216) (s:sM sz (y.toList.map λq=>(q.1,bP ge tm q.2))=true)
 (d:(y.toList.map λq=>bP ge tm q.2)≠ [])
 (X:K (.ms j sz (y.toList.map λq=>bP ge tm q.2).length) (cW hp j (.bD sz (y.toList.map λq=>bP ge tm q.2)))):eW P ge F o tm hp K:=by
 refine .value λg fr w a f r k v=>?_
 obtain⟨hu,hsz⟩:=dm ht;obtain⟨z,hz1,rfl⟩:=jD Q w;have u:=p7 (g:=g) (f:=bP ge tm) (h:=a.eval) y.toList (λq hq=>v q.2 akn);simp only[sM,BR,HV,H0]at s;obtain⟨amU,amV⟩:=s;revert d X;generalize A:(y.toList.map λq=>bP ge tm q.2)=xs;intro d X;have akQ:(y.toList.map λq=>(q.1,bP ge tm q.2))=(xs.zipIdx 0).map λp=>(p.2,p.1):=by
  apply Lf;intro i;have h1:=JV (λl=>l[i]?) amU
  grind
 have b:xs.length=len:=by rw[<-A,n];simp
 have C:∀x∈xs,x.cells.length=sz/\x.cells.all G.eV=true:=by
  intro x hx;rw[<-A]at hx;obtain⟨q,hq,rfl⟩:=Hr.1 hx;have:=amV (q.1,bP ge tm q.2) (Hr.2 ⟨q,hq,rfl⟩);simpa using this
 have m:=uY (sz:=sz) xs 0 [] NP C;rw[<-akQ,b]at m;simp only[LW]at m
 let ajK:Array Value:=(Array.range (len*sz)).map (λi=>z.cells[i % z.cells.size]!)
 have alE:VL g (List.replicate (len*sz) .any) ajK.toList:=by
  have:=AJ (g:=g) ajK.toList;simpa[ajK]using this
 obtain⟨vs,h1,h2⟩:=jE _ _ _ alE u NP m;have D:=oX xs vs.toList h2 C;have L:=dI f hF;have c:=cm hj L
 let t:TI:=⟨some ⟨w.heap.size,0,none⟩,xs.length,len⟩
 have N:=(g.gG t (r.rel.cT c)).trans (lu (g.bO j t) w.heap.size ((r.rel.bO t c).cT c));have hvl:vs.toList.length=len*sz:=by rw[VE.length _ _ D,b]
 have r1:=(r.rel.bO t c).alloc c (.cells vs e) (.bD sz xs) (by cases xs with|nil=>exact absurd rfl d|cons=>simp[dq,AV.push]) (λ_=>⟨vs.toList,[],e,VE.mono N _ _ _ D,by simp only[AV.push,J0,Lm];rw[hX],by simpa[AV.push,AV.bO]using r.rel.jJ,by simp[AV.push,AV.bO,t],by simp[AV.push,AV.bO,t,b],by simp[AV.push,AV.bO,t],by simp only[AV.push,AV.bO,J0,t,hvl];simp⟩);rw[bz]at r1;refine⟨.slice (some ⟨w.heap.size,0,none⟩) len len,w.alloc (.cells vs e),(g.bO j t).push j w.heap.size,_,_,?_,N,⟨r1,r.cM.cW L⟩,?_,X⟩
 .have aN:(y.map λ(i,x)=>(i,a.eval x)).toList=y.toList.map λq=>(q.1,a.eval q.2):=by simp
  have hns:¬(len*sz>2 ^ 24):=by omega
  simp only[execOp,ho,Instr.buildSlice,FO,FG hu,G4,dH hsz,hns,JU];rw[aN];by_cases h0:len*sz=0
  .rw[BX h0];have e0:(Array.map (λx=>(#[]:Array Value)[x %(#[]:Array Value).size]!) (Array.range (len*sz)))=ajK:=by simp[ajK,h0]
   simp only[FO,Iu,G4,e0,h1];rfl
  .rw[BY h0];simp only[FO,hz1,Iu,G4];rw[h1];rfl
 .simp only[ac];refine⟨.inl rfl,some ⟨w.heap.size,0,none⟩,len,by rw[b],by omega,by simp,λ_=>by simp[AV.push],by simp,by simp[dV,AV.push,AV.bO,t,b]⟩
def ag8{t a b ms v u w}(hu:P.underlying t=some (.interface ms))(x:a≠b):(Op.equal t (.iface a v) (.iface b u)).run P w= .ok false w:=by
 show(Op.equalIn (9999+1) t (.iface a v) (.iface b u)).run P w=_
 rw[Op.equalIn];simp only[FO,FG hu,G4];simp[x]
def au8{a c d w n}(x:P.underlying a=some .bool):(Op.equalIn (n+1) a (.bool c) (.bool d)).run P w= .ok (c==d) w:=by
 rw[Op.equalIn];simp only[FO,FG x,G4];rfl
def aoh{t a ms c d x w}(hu:P.underlying t=some (.interface ms))(y:P.info? a=some x)(z:x.comparable=true)(b:P.underlying a=some .bool):
 (Op.equal t (.iface a (.bool c)) (.iface a (.bool d))).run P w= .ok (c==d) w:=by
 show(Op.equalIn ((9998+1)+1) t _ _).run P w=_
 have h:=au8 (P:=P) (a:=a) (c:=c) (d:=d) (w:=w) (n:=9998) b;generalize f:9998+1=n at*;rw[Op.equalIn];simp only[FO,FG hu,G4];have e:(typeInfo a).run P w= .ok x w:=by simp[typeInfo,y]
 simp[e,z,h]
def afJ{t i ms x y a b v u}(d:o.op= .binOp .eql t x y i)(hu:P.underlying t=some (.interface ms))(hx:bP ge tm x= .iface a v)(j:bP ge tm y= .iface b u)(e:a≠b):
 Ev P ge o tm S (.bool false):=by
 refine .df (λg w k _ _ r m f=>?_);have z:=f x DA;have c:=f y DA;rw[hx]at z;rw[j]at c;simp only[ac]at z c;obtain⟨l,z,_⟩:=z;obtain⟨u',c,_⟩:=c;refine⟨.bool false,?_,by simp only[ac]⟩;have:=ag8 (P:=P) (w:=w) (v:=l) (u:=u') hu e;simp[execOp,d,z,c,eqGuard,binOp,this]
def afK{t j ms x y a c d f}(e:o.op= .binOp .eql t x y j)(hu:P.underlying t=some (.interface ms))(hx:bP ge tm x= .iface a (.bool c))(k:bP ge tm y= .iface a (.bool d))(l:P.info? a=some f)(m:f.comparable=true)(n:P.underlying a=some .bool):Ev P ge o tm S (.bool (c==d)):=by
 refine .df (λg w p _ _ r q i=>?_);have z:=i x II;have b:=i y II;rw[hx]at z;rw[k]at b;simp only[ac]at z b;obtain⟨s,z,rfl⟩:=z;obtain⟨u',b,rfl⟩:=b;refine⟨.bool (c==d),?_,by simp only[ac]⟩;have:=aoh (P:=P) (w:=w) (c:=c) (d:=d) hu l m n;simp[execOp,e,z,b,eqGuard,binOp,this]
def afL{x s t d v}(z:o.op= .typeAssert x s t false)(hu:P.underlying t=some d)(hd:(d matches .interface _)=false)(hx:bP ge tm x= .iface t v):Ev P ge o tm S v:=by
 refine .df (λg w a _ _ r f b=>?_);have y:=b x Um;rw[hx]at y;simp only[ac]at y;obtain⟨c,y,e⟩:=y;refine⟨c,?_,e⟩;simp only[execOp,z,Instr.typeAssert,FO,FG hu,G4,y];cases d<;>simp_all
def eW.makeMap{t}j(z:o.op= .makeMap t none)(b:hp j=none)(c:¬F j)(d:K (.map j) (cW hp j (.map []))):eW P ge F o tm hp K:=by
 refine .value λg fr w a f r k v=>?_
 have x:=dI f c;have y:=cm b x;refine⟨.map (some w.heap.size),w.alloc (.map #[] 0),g.push j w.heap.size,_,_,?_,lu g _ (r.rel.cT y),⟨bz▸r.rel.alloc y _ _ Jl ⟨#[],0,by simp[cu],by simp only[AV.push,J0];exact hX _ _,by simpa[AV.push]using r.rel.jJ⟩,r.cM.cW x⟩,?_,d⟩
 .simp[execOp,z,Instr.makeMap,run_newObj]
 .simp[ac,AV.push]
def fh:U (G×G)->Z->T (T G)
 | [],_=>some none
 |(.str k,v)::r,s=>cond (s.data.toList==k.data.toList) (some (some v)) (fh r s)
 |_::_,_=>none
def jl:U (G×G)->Z->G->T (U (G×G))
 | [],s,v=>some [(.str s,v)]
 |(.str k,x)::r,s,v=>cond (s.data.toList==k.data.toList) (some ((.str k,v)::r)) ((jl r s v).map ((.str k,x):: ·))
 |_::_,_,_=>none
def RC(a b:Z):(a==b)=(a.data.toList==b.data.toList):=by
 grind [beq_toListBytes,ByteArray.toList_eq]
def u9{g s}:∀z y,cu g z y->∀i{r},fh z s=some r->
 ∃q,Instr.findNow .string (.string s) y i=some q/\(match r with|none=>q=none|some v=>∃n u,q=some (n,u)/\ac g v u)
 | [],y,e,i,r,h=>by
  simp only[cu]at e;subst e;simp only[fh,Hs]at h;subst h;exact⟨none,rfl,rfl⟩
 |(.str k,v)::z,y,e,i,r,h=>by
  simp only[cu,ac]at e;obtain⟨x,rest,rfl,b,c,d⟩:=e;simp only[fh]at h;simp only[Instr.findNow,b,Instr.sameNow,RC];cases a:(s.data.toList==k.data.toList)with
  |true=>
   rw[a]at h;simp only[G1,Hs]at h;subst h;exact⟨_,rfl,i,x.val,rfl,c⟩
  |false=>
   rw[a]at h;exact u9 z rest d (i+1) h
 |(.bool _,_)::_,_,_,_,_,h=>by simp[fh]at h
 |(.int _ _,_)::_,_,_,_,_,h=>by simp[fh]at h
 |(.eM,_)::_,_,_,_,_,h=>by simp[fh]at h
 |(.eU _ _,_)::_,_,_,_,_,h=>by simp[fh]at h
 |(.aS _ _,_)::_,_,_,_,_,h=>by simp[fh]at h
 |(.sl _ _ _,_)::_,_,_,_,_,h=>by simp[fh]at h
 |(.ms _ _ _,_)::_,_,_,_,_,h=>by simp[fh]at h
 |(.sub _ _ _ _ _,_)::_,_,_,_,_,h=>by simp[fh]at h
 |(.dP,_)::_,_,_,_,_,h=>by simp[fh]at h
 |(.map _,_)::_,_,_,_,_,h=>by simp[fh]at h
 |(.fn _ _ _,_)::_,_,_,_,_,h=>by simp[fh]at h
 |(.bX,_)::_,_,_,_,_,h=>by simp[fh]at h
 |(.iface _ _,_)::_,_,_,_,_,h=>by simp[fh]at h
 |(.nilIface,_)::_,_,_,_,_,h=>by simp[fh]at h
 |(.agg _,_)::_,_,_,_,_,h=>by simp[fh]at h
 |(.bZ _,_)::_,_,_,_,_,h=>by simp[fh]at h
 |(.any,_)::_,_,_,_,_,h=>by simp[fh]at h
 |(.mR _,_)::_,_,_,_,_,h=>by simp[fh]at h
def pa{key b n s w}(x:P.underlying key=some .string):(Instr.checkKey b (n+1) key (.string s)).run P w= .ok () w:=by
 rw[Instr.checkKey];simp only[FO,FG x,G4];rfl
def FL(ok:At)(v:G)(b:At):G:=match ok with
 |true=>.bZ [v,.bool b]
 |false=>v
def cu.len{g}:∀xs y,cu g xs y->y.length=xs.length
 | [],_,e=>by simp only[cu]at e;simp[e]
 |x::xs,_,e=>by
  simp only[cu]at e;obtain⟨_,rest,rfl,_,_,h⟩:=e;simp[cu.len xs rest h]
def afM{t key elem x j es}(c:o.op= .call {callee:=.builtin .len,args:=#[x],argTypes:=#[t]})(d:P.underlying t=some (.map key elem))(hx:bP ge tm x= .map j):
 Ev P ge o tm (λhq=>hq j=some (.map es)) (.int .i64 es.length):=by
 refine .df (λg w e hq f r l i=>?_);have a:=i x (by simp[c,Op.operands,Call.operands]);rw[hx]at a;simp only[ac]at a;obtain⟨y,b,e1,e2,_⟩:=r.fR j _ f;have z:(getObj (g.cC j)).run P w= .ok (.map y b) w:=MA e2;have k:y.size=es.length:=by simpa using cu.len es y.toList e1
 exact⟨.int .i64 es.length,by simp[execOp,c,resolve,invoke,builtin,Builtin.len_,a.2,goInt,FG d,FO,z,k],by simp only[ac]⟩
def afN{t key elem x y ok j m s b v}(f:o.op= .lookup t x y ok)(D:P.underlying t=some (.map key elem))(K:P.underlying key=some .string)(hx:bP ge tm x= .map j)(Q:bP ge tm y= .str s)(X:fh m s=some (cond b (some v) none))(hz:b=false->∃p z,P.info? elem=some p/\p.zero=some z/\v=sK z):
 Ev P ge o tm (λhq=>hq j=some (.map m)) (FL ok v b):=by
 refine .df (λg w act hq hj r kk L=>?_);have i:=L x OW;have k:=L y OW;rw[hx]at i;rw[Q]at k;simp only[ac]at i k;obtain⟨a,A,e1,e2,_⟩:=r.fR j _ hj;obtain⟨q,q1,l⟩:=u9 m a.toList e1 0 X;have c:(getObj (g.cC j)).run P w= .ok (.map a A) w:=MA e2;have d:=pa (P:=P) (key:=key) (b:=a.isEmpty) (n:=9999) (s:=s) (w:=w) K;have e:(Instr.findKey key (.string s) a.toList).run P w= .ok q w:=by
  simp only[Instr.findKey,FO,FG K,G4,q1];rfl
 cases b with
 |true=>
  simp only[G1]at l;obtain⟨n,u,rfl,N⟩:=l;refine⟨if ok then .tuple #[u,.bool true]else u,?_,?_⟩
  .simp only[execOp,f,i.2,k,Instr.lookup,FO,FG D,G4,c,Iu,d,e]
  .cases ok with
   |true=>simp only[FL,ac,J0];exact⟨_,rfl,by simp only[VL];exact⟨_,_,rfl,N,_,_,rfl,by simp only[ac],rfl⟩⟩
   |false=>simpa[FL]using N
 |false=>
  simp only[FM]at l;subst l;obtain⟨p,z,i1,i2,rfl⟩:=hz rfl;have C:(zeroValue elem).run P w= .ok z w:=by simp[zeroValue,typeInfo,i1,i2]
  refine⟨if ok then .tuple #[z,.bool false]else z,?_,?_⟩
  .simp only[execOp,f,i.2,k,Instr.lookup,FO,FG D,G4,c,Iu,d,e,C]
  .cases ok with
   |true=>simp only[FL,ac,J0];exact⟨_,rfl,by simp only[VL];exact⟨_,_,rfl,rq g z,_,_,rfl,by simp only[ac],rfl⟩⟩
   |false=>simpa[FL]using rq g z
def vb{g s v u}(hu:ac g v u):∀d z,cu g d z->∀{a},jl d s v=some a->∀i,
 (∃n e,Instr.findNow .string (.string s) z i=some (some (n+i,e.val))/\z[n]?=some e/\e.key= .string s/\cu g a (z.modify n λe=>{e with key:=.string s,val:=u}))\/
 (Instr.findNow .string (.string s) z i=some none/\∀c,cu g a (z++[{key:=.string s,val:=u,born:=c}]))
 | [],z,e,a,h,i=>by
  simp only[cu]at e;subst e;simp only[jl,Hs]at h;subst h;exact .inr ⟨rfl,λc=>by simp only[LW,cu,ac];exact⟨_,_,rfl,rfl,hu,rfl⟩⟩
 |(.str k,x)::d,z,e,a,h,i=>by
  simp only[cu,ac]at e;obtain⟨y,rest,rfl,f,o,p⟩:=e;simp only[jl]at h;simp only[Instr.findNow,f,Instr.sameNow,RC];cases j:(s.data.toList==k.data.toList)with
  |true=>
   rw[j]at h;simp only[G1,Hs]at h;subst h;have b:s=k:=by
    have:=eq_of_beq j;cases s;cases k;simp only[M9]at this;rw[this]
   refine .inl ⟨0,y,by simp,rfl,by rw[f,b],?_⟩;simp only[List.modify_zero_cons,cu,ac];exact⟨_,_,rfl,by rw[b],hu,p⟩
  |false=>
   rw[j]at h;simp only[FM,LU]at h;obtain⟨q,h,rfl⟩:=h;rcases vb hu d rest p h (i+1)with⟨n,e0,l,m,r,t⟩|⟨l,m⟩
   .refine .inl ⟨n+1,e0,by simp only[l];congr 3;omega,by simpa using m,r,?_⟩;simp only[List.modify_succ_cons,cu,ac];exact⟨_,_,rfl,f,o,t⟩
   .refine .inr ⟨by simp only[l],λc=>?_⟩;simp only[LX,cu,ac];exact⟨_,_,rfl,f,o,m c⟩
 |(.bool _,_)::_,_,_,_,h,_=>by simp[jl]at h
 |(.int _ _,_)::_,_,_,_,h,_=>by simp[jl]at h
 |(.eM,_)::_,_,_,_,h,_=>by simp[jl]at h
 |(.eU _ _,_)::_,_,_,_,h,_=>by simp[jl]at h
 |(.aS _ _,_)::_,_,_,_,h,_=>by simp[jl]at h
 |(.sl _ _ _,_)::_,_,_,_,h,_=>by simp[jl]at h
 |(.ms _ _ _,_)::_,_,_,_,h,_=>by simp[jl]at h
 |(.sub _ _ _ _ _,_)::_,_,_,_,h,_=>by simp[jl]at h
 |(.dP,_)::_,_,_,_,h,_=>by simp[jl]at h
 |(.map _,_)::_,_,_,_,h,_=>by simp[jl]at h
 |(.fn _ _ _,_)::_,_,_,_,h,_=>by simp[jl]at h
 |(.bX,_)::_,_,_,_,h,_=>by simp[jl]at h
 |(.iface _ _,_)::_,_,_,_,h,_=>by simp[jl]at h
 |(.nilIface,_)::_,_,_,_,h,_=>by simp[jl]at h
 |(.agg _,_)::_,_,_,_,h,_=>by simp[jl]at h
 |(.bZ _,_)::_,_,_,_,h,_=>by simp[jl]at h
 |(.any,_)::_,_,_,_,h,_=>by simp[jl]at h
 |(.mR _,_)::_,_,_,_,h,_=>by simp[jl]at h
def eW.mapUpdate{t key elem x y z j X u s}(ho:o.op= .mapUpdate t x y z\/o.op= .insert t x y z)(ht:P.underlying t=some (.map key elem))(Q:P.underlying key=some .string)(hx:bP ge tm x= .map j)(hy:bP ge tm y= .str s)(hj:hp j=some (.map X))(hu:jl X s (bP ge tm z)=some u)(hK:K (.bZ []) (cW hp j (.map u))):eW P ge F o tm hp K:=by
 refine .skip λg fr w a f r k v=>?_
 have A:x∈o.op.operands/\y∈o.op.operands/\z∈o.op.operands:=by rcases ho with ho|ho<;>simp[ho,Op.operands]
 have h1:=v x A.1;have h2:=v y A.2.1;have h3:=v z A.2.2;rw[hx]at h1;rw[hy]at h2;simp only[ac]at h1 h2;obtain⟨c,d,e1,e2,e3⟩:=r.rel.fR j _ (aK hj);have D:=MA (P:=P) e2;have ame:=pa (P:=P) (key:=key) (b:=false) (n:=9999) (s:=s) (w:=w) Q;have dG:∀l p,cu g u l.toList->(Instr.mapUpdate t (.map (some (g.cC j))) (.string s) (a.eval z)).run P w= .ok () {w with heap:=w.heap.setIfInBounds (g.cC j) (.map l p)}->
  ∃w' g' hp',(execOp a.eval o).run P w= .ok .skip w'/\AV.Le g g'/\gh g' w' hp' fr/\K (.bZ []) hp':=by
  intro l p he ajf;have hlt:g.cC j<w.heap.size:=(LD.1 e2).1;have akV:(w.heap.setIfInBounds (g.cC j) (.map l p))[g.cC j]?=some (.map l p):=by
   rw[Ow];simp[hlt]
  have r2:=r.rel.set (w':={w with heap:=w.heap.setIfInBounds (g.cC j) (.map l p)}) (aK hj) (o':=.map u) rfl (λk Q=>by
   have C:g.cC j≠k:=λe=>Q (by simp[dq,e])
   simp only[Ow,C,JU]) NP rfl rfl rfl (λb hb C=>by
   simp only[dq,Hs]at hb;subst hb;exact absurd e3 C) ⟨l,p,he,akV,e3⟩
  rw[bz]at r2;refine⟨_,g,_,?_,AV.Le.refl g,⟨r2,r.cM.fW hj⟩,hK⟩;rcases ho with ho|ho<;>simp[execOp,ho,h1.2,h2,ajf]
 have run:∀q,(Instr.findKey key (.string s) c.toList).run P w= .ok q w->∀f w',(match q with
  |some (i,_)=>(do let key<-Instr.keyThatStays (((c[i]?).map λ(m:MapEntry)=>m.key).getD (.string s)) (.string s);setObj (g.cC j) (.map (c.modify i λ(e:MapEntry)=>{e with key,val:=a.eval z}) d):Sem Unit)
  |none=>setObj (g.cC j) (.map (c.push {key:=.string s,val:=a.eval z,born:=d}) (d+1))).run P w= .ok f w'->
  (Instr.mapUpdate t (.map (some (g.cC j))) (.string s) (a.eval z)).run P w= .ok f w':=by
  intro q hq f w' h;simp only[Instr.mapUpdate,FO,FG ht,G4,D,ame,hq];exact h
 have L:∀q,Instr.findNow .string (.string s) c.toList 0=some q->(Instr.findKey key (.string s) c.toList).run P w= .ok q w:=by
  intro q hq;simp only[Instr.findKey,FO,FG Q,G4,hq];rfl
 rcases vb h3 X c.toList e1 hu 0 with⟨n,e,q1,N,q3,q4⟩|⟨q1,N⟩
 .refine dG (c.modify n λe=>{e with key:=.string s,val:=a.eval z}) d (by rw[Array.toList_modify];exact q4) (run _ (L _ q1) _ _ ?_);have N:c[n]?=some e:=by rw[<-anK];exact N
  have hst:(Instr.keyThatStays (.string s) (.string s)).run P w= .ok (.string s) w:=by
   have:Instr.sameBits 10000 (.string s) (.string s)=true:=by
    show Instr.sameBits (9999+1) _ _=true
    simp[Instr.sameBits,RC]
   simp[Instr.keyThatStays,this]
  simp only[L5,FO,N,Jm,Kj,q3,hst,G4];exact MapKept.run_setObj_map _ e2
 .refine dG (c.push {key:=.string s,val:=a.eval z,born:=d}) (d+1) (by rw[Array.toList_push];exact N d) (run _ (L _ q1) _ _ ?_);exact MapKept.run_setObj_map _ e2
def afO{t e x n sz cs xs}(j:o.op= .slice t x none none none)(hu:P.underlying t=some (.array n e))(a:du P e=some sz)(hx:bP ge tm x= .aS cs 0)(c:xs.flatMap G.cells=cs)(z:xs.length=n)(p:n<=4611686018427387904)(d:∀y∈xs,y.cells.length=sz/\y.cells.all G.eV=true):Ev P ge o tm S (.sl sz .no xs):=by
 refine .df (λg w k _ _ r q v=>?_);have f:=v x OU;rw[hx]at f;simp only[ac]at f;obtain⟨b,off,vals,e1,e2,e3⟩:=f;have i:=oX xs vals (by rw[c];exact e2) d;refine⟨.slice (some ⟨b,off,none⟩) n n,?_,?_⟩
 .have l:=dH (P:=P) a w;have s:Addr.add ⟨b,off,none⟩ (0*sz)=⟨b,off,none⟩:=by simp[JE]
  by_cases m:n=0<;>simp[execOp,j,Instr.sliceAt,Instr.sureAddr,FG hu,e1,Instr.sliceBounds,l,m,JE]
 .simp only[ac];exact⟨_,_,by rw[z],by omega,by simp,λ_=>⟨b,off,vals,rfl,i,e3⟩,by simp,trivial⟩
def afP{t e x y k i sz n len cs}(z:o.op= .indexAddr t x y)(hu:P.underlying t=some (.array len e))(a:du P e=some sz)(hx:bP ge tm x= .aS cs n)(f:bP ge tm y= .int k i)(j:0<=i)(l:i<len):Ev P ge o tm S (.aS cs (n+i.toNat*sz)):=by
 refine .df (λg w m _ _ r p v=>?_);have c:=v x Um;have d:=v y Um;rw[hx]at c;rw[f]at d;simp only[ac]at c d |-;obtain⟨b,off,vals,e1,e2,e3⟩:=c;exact⟨.pointer (some ⟨b,off+(n+i.toNat*sz),none⟩),by simp[execOp,z,d,e1,Instr.indexAt,Instr.sureAddr,asIntOf,FG hu,j,l,dH a,JE,Li],b,off,vals,rfl,e2,e3⟩
def avn{z}(h:z.oneCell'=true):z.cells=#[z]/\sK z=iA z:=by
 cases z<;>simp_all[Value.cells,Value.oneCell',sK]
def afQ{t key elem x i p}j(m:o.op= .range t x)(q:P.underlying t=some (.map key elem))(hx:bP ge tm x= .map i)(n:hp i=some (.map p))
 (k:hp j=none) (s:¬F j) (u:K (.eU j 0) (cW hp j (.yB i))):eW P ge F o tm hp K:=by
 refine .value λg fr w a f r C v=>?_
 have e:=v x (by simp[m,Op.operands]);rw[hx]at e;simp only[ac]at e;obtain⟨A,y,e1,e2,e3⟩:=r.rel.fR i _ (aK n);have z:=MA (P:=P) e2;have b:=dI f s;have c:=cm k b;have d:=lu g (j:=j) w.heap.size (r.rel.cT c);refine⟨.pointer (some ⟨w.heap.size,0,none⟩),w.alloc (.mapIter (some (g.cC i)) y #[] y),g.push j w.heap.size,_,_,?_,d,⟨bz▸r.rel.alloc c _ _ Jl ⟨d.dC i e.1,y,y,?_,by simpa[AV.push]using r.rel.jJ⟩,r.cM.cW b⟩,?_,u⟩
 .simp[execOp,m,Instr.range,e.2,FG q,z,run_newObj]
 .simp[ac,AV.push]
 .have l:i≠j:=by rintro rfl;rw[n]at k;simp at k
  simp only[AV.push,J0,BY l];exact hX _ _
def afR{t x s}j(d:o.op= .range t x)(e:P.underlying t=some .string)(hx:bP ge tm x= .str s)
 (i:hp j=none) (k:¬F j) (l:K (.eU j 0) (cW hp j (.sG s 0))):eW P ge F o tm hp K:=by
 refine .value λg fr w a f r m v=>?_
 have b:=v x DA;rw[hx]at b;simp only[ac]at b;have y:=dI f k;have z:=cm i y;have c:=lu g (j:=j) w.heap.size (r.rel.cT z);refine⟨.pointer (some ⟨w.heap.size,0,none⟩),w.alloc (.stringIter s 0),g.push j w.heap.size,_,_,?_,c,⟨bz▸r.rel.alloc z _ _ Jl ⟨?_,by simpa[AV.push]using r.rel.jJ⟩,r.cM.cW y⟩,?_,l⟩
 .simp[execOp,d,Instr.range,b,FG e,run_newObj]
 .simp[ac,AV.push]
 .simp only[AV.push,J0];exact hX _ _
def afS{x i j}(d:o.op= .next x false)(hx:bP ge tm x= .eU j 0):Ev P ge o tm (λhq=>hq j=some (.yB i)/\hq i=some (.map [])) (.bZ [.bool false]):=by
 refine .df (λg w e hq hs r l f=>?_);have y:=f x DA;rw[hx]at y;simp only[ac]at y;obtain⟨_,z,last,k1,_⟩:=r.fR j _ hs.1;obtain⟨a,k,e1,e2,_⟩:=r.fR i _ hs.2;simp only[cu]at e1;have e1:a=#[]:=Array.toList_eq_nil_iff.1 e1;subst e1;have b:(getObj (g.cC j)).run P w= .ok (.mapIter (some (g.cC i)) z #[] last) w:=by simp only[getObj,Sem.run,k1]
 have c:=MA (P:=P) e2;refine⟨.tuple #[.bool false],?_,by simp only[ac];exact⟨_,rfl,by simp only[VL];exact⟨_,_,rfl,by simp only[ac],rfl⟩⟩⟩;simp[execOp,d,Instr.next,y.2,b,c,choose,Sem.run,Question.forced]
def afT{x j s pos}(a:o.op= .next x true)(hx:bP ge tm x= .eU j 0)(hp:s.size<=pos):Ev P ge o tm (λhq=>hq j=some (.sG s pos)) (.bZ [.bool false]):=by
 refine .df (λg w b hq hs r d c=>?_);have y:=c x OT;rw[hx]at y;simp only[ac]at y;obtain⟨k1,_⟩:=r.fR j _ hs;have z:(getObj (g.cC j)).run P w= .ok (.stringIter s pos) w:=by simp only[getObj,Sem.run,k1]
 refine⟨.tuple #[.bool false],?_,by simp only[ac];exact⟨_,rfl,by simp only[VL];exact⟨_,_,rfl,by simp only[ac],rfl⟩⟩⟩;have:¬pos<s.size:=by omega
 simp[execOp,a,Instr.next,y.2,z,this]
def afU{x j s pos}(p:o.op= .next x true)(hx:bP ge tm x= .eU j 0)(z:hp j=some (.sG s pos))(c:pos<s.size)(d:K (.bZ [.bool true,.int .i64 pos,.int .i32 (Utf8.decode s pos).1]) (cW hp j (.sG s (pos+(Utf8.decode s pos).2)))):eW P ge F o tm hp K:=by
 refine .value λg fr w a f r C v=>?_
 have i:=v x (by simp[p,Op.operands]);rw[hx]at i;simp only[ac]at i;obtain⟨k1,q⟩:=r.rel.fR j _ (aK z);have l:(getObj (g.cC j)).run P w= .ok (.stringIter s pos) w:=by simp only[getObj,Sem.run,k1]
 have m:(setObj (g.cC j) (.stringIter s (pos+(Utf8.decode s pos).2))).run P w= .ok () {w with heap:=w.heap.setIfInBounds (g.cC j) (.stringIter s (pos+(Utf8.decode s pos).2))}:=by simp only[setObj,Sem.run,k1]
 have A:g.cC j<w.heap.size:=(LD.1 k1).1;have n:(w.heap.setIfInBounds (g.cC j) (.stringIter s (pos+(Utf8.decode s pos).2)))[g.cC j]?=some (.stringIter s (pos+(Utf8.decode s pos).2)):=by
  grind
 have t:=r.rel.set (w':={w with heap:=w.heap.setIfInBounds (g.cC j) (.stringIter s (pos+(Utf8.decode s pos).2))}) (aK z) (o':=.sG s (pos+(Utf8.decode s pos).2)) rfl (λk d=>by
  have y:g.cC j≠k:=λe=>d (by simp[dq,e])
  simp only[Ow,y,JU]) NP rfl rfl rfl (λb u y=>by
  simp only[dq,Hs]at u;subst u;exact absurd q y) ⟨n,q⟩
 rw[bz]at t;refine⟨.tuple #[.bool true,goInt pos,.int .i32 (Utf8.decode s pos).1],_,g,_,_,?_,AV.Le.refl g,⟨t,r.cM.fW z⟩,?_,d⟩
 .simp[execOp,p,Instr.next,i.2,l,c,m]
 .simp only[ac];exact⟨_,rfl,by simp only[VL,ac,goInt];exact⟨_,_,rfl,rfl,_,_,rfl,rfl,_,_,rfl,rfl,rfl⟩⟩
def dy.wd{g w}(r:dy g w hp){j k sz i xs}(s:hp j=some (.bD sz xs))(N:hp k=none)(hi:i<=xs.length){a cap}(ha:xs≠ []->a=(g.tl j).a/\cap=(g.tl j).cap)(P:i<=cap/\i<=4611686018427387904)(ajn:a=none->cap=0)(aiT:∀x∈a,x.spot=none):
 ∃g',AV.Le g g'/\dy g' w (cW (cW hp j (.bD sz [])) k (.bD sz (xs.take i)))/\ac g' (.ms k sz i) (.slice a i cap):=by
 have hne:k≠j:=λe=>by rw[e,s]at N;simp at N
 have r1:=r.bO ⟨a,i,cap⟩ N;have hnd:=r1.cT N;have n:AV.Le g ((g.bO k ⟨a,i,cap⟩).push k (g.cC j)):=(g.gG _ (r.cT N)).trans (lu _ _ hnd);generalize o:(g.bO k ⟨a,i,cap⟩).push k (g.cC j)=g' at*;have c:g'.tl k=⟨a,i,cap⟩:=by rw[<-o];simp[AV.push,AV.bO]
 have Q:∀q,q≠k->g'.tl q=g.tl q:=λq hq=>by rw[<-o];simp[AV.push,AV.bO,hq]
 have d:g'.cC k=g.cC j:=by rw[<-o];simp[AV.push]
 have ala:∀q,q≠k->g'.cC q=g.cC q:=λq hq=>by rw[<-o];simp[AV.push,AV.bO,hq]
 have t:g'.fz=g.fz:=by rw[<-o];rfl
 have u:g'.bV=g.bV:=by rw[<-o];rfl
 have hw0:g'.w0=g.w0:=by rw[<-o];rfl
 have v:∀q,g'.dC q↔q=k\/g.dC q:=λq=>by rw[<-o];simp[AV.push,AV.bO]
 have key:∀q p,cW (cW hp j (.bD sz [])) k (.bD sz (xs.take i)) q=some p->(q=k/\p= .bD sz (xs.take i))\/(q=j/\p= .bD sz [])\/(q≠k/\q≠j/\hp q=some p):=by
  intro q p h;by_cases e:q=k
  .subst e;rw[bp]at h;simp at h;exact .inl ⟨rfl,h.symm⟩
  .rw[aZ _ _ e]at h;by_cases e2:q=j
   .subst e2;rw[bp]at h;simp at h;exact .inr (.inl ⟨rfl,h.symm⟩)
   .rw[aZ _ _ e2]at h;exact .inr (.inr ⟨e,e2,h⟩)
 have f:∀q p,hp q=some p->q≠k->dq g' q p=dq g q p:=λq p h hq=>gC p n (r.dl h) (Q q hq)
 have A:∀b,dq g' k (.bD sz (xs.take i))=some b->dq g j (.bD sz xs)=some b:=by
  intro b y;cases xs with
  |nil=>simp[dq]at y
  |cons x xs=>
   cases i with
   |zero=>simp[dq]at y
   |succ i=>simp only[ajG,dq]at y |-;rw[d]at y;exact y
 refine⟨g',n,⟨λq=>?_,by rw[u,hw0];exact r.jI,by rw[u];exact r.size,λb y=>by rw[t]at y |-;exact r.fz b y,?_,?_,?_⟩,?_⟩
 .rw[v];by_cases e:q=k
  .subst e;rw[bp];simp
  .rw[aZ _ _ e];by_cases e2:q=j
   .subst e2;rw[bp];simp[r.dl s]
   .rw[aZ _ _ e2];simp only[e,false_or];exact r.dC q
 .intro q p h;rcases key q p h with⟨rfl,rfl⟩|⟨rfl,rfl⟩|⟨D,h2,m⟩
  .intro hn;have hx:xs≠ []:=by intro e;subst e;simp at hn
   obtain⟨vals,rest,elem,o1,o2,o3,o4,o5,o6,o7⟩:=r.fR j _ s hx;have hvl:=VE.length _ _ o1;obtain⟨ea,ec⟩:=ha hx;refine⟨vals.take (i*sz),vals.drop (i*sz)++rest,elem,VE.mono n _ _ _ (VE.take i _ _ o1),?_,by rw[d,t];exact o3,?_⟩
   .rw[d,o2,<-MI,NY]
   .refine⟨by rw[c];simp;omega,by rw[c];simp;omega,by rw[c,d];show a=_;rw[ea];exact o6,?_⟩;rw[c]
    show cap*sz<=_
    rw[ec];simp only[JB,G7,KP];omega
  .intro hn;exact absurd rfl hn
  .exact(r.fR q p m).lU n (r.dl m) (Q q D) λb _=>⟨rfl,by rw[t]⟩
 .intro q p b h y;rw[u];rcases key q p h with⟨rfl,rfl⟩|⟨rfl,rfl⟩|⟨D,h2,m⟩
  .exact r.el j _ b s (A b y)
  .simp[dq]at y
  .rw[f q p m D]at y;exact r.el q p b m y
 .intro q K p L b h h' y z;rcases key q p h with⟨rfl,rfl⟩|⟨rfl,rfl⟩|⟨D,h2,m⟩
  .rcases key K L h' with⟨rfl,rfl⟩|⟨rfl,rfl⟩|⟨C,X,l⟩
   .rfl
   .simp[dq]at z
   .rw[f K L l C]at z;exact absurd (r.jH j K _ L b s l (A b y) z) (λe=>X e.symm)
  .simp[dq]at y
  .rcases key K L h' with⟨rfl,rfl⟩|⟨rfl,rfl⟩|⟨C,X,l⟩
   .rw[f q p m D]at y;exact absurd (r.jH q j p _ b m s y (A b z)) h2
   .simp[dq]at z
   .rw[f q p m D]at y;rw[f K L l C]at z;exact r.jH q K p L b m l y z
 .simp only[ac];refine⟨(v k).2 (.inl rfl),a,cap,rfl,P,ajn,λh0=>?_,aiT,(v k).2 (.inl rfl),by rw[c];exact Hq _,λ_=>by rw[c];exact⟨rfl,rfl⟩⟩;have hx:xs≠ []:=by intro e;subst e;simp at hi;omega
  obtain⟨_,_,_,_,_,_,_,_,o6,_⟩:=r.fR j _ s hx;rw[d,(ha hx).1];exact o6
def ac1{g sz}:∀lo xs vals,VE g sz xs vals->∀{x ys},VE g sz x ys->lo+x.length<=xs.length->
 VE g sz (xs.take lo++x++xs.drop (lo+x.length)) (vals.take (lo*sz)++ys++vals.drop (lo*sz+ys.length))
 |lo,xs,vals,e,x,ys,h,y=>by
  have z:=VE.length _ _ h;refine VE.append _ _ (VE.append _ _ (VE.take lo _ _ e) _ _ h) _ _ ?_;have:=VE.drop (lo+x.length) _ _ e
  grind
def dy.zg{g w}(r:dy g w hp){j sz lo xs y ys}(s:hp j=some (.bD sz xs))(z:xs≠ [])(m:VE g sz y ys)(t:lo+y.length<=xs.length):
 ∃w',(storeCells ⟨g.cC j,lo*sz,none⟩ ys).run P w= .ok () w'/\dy g w' (cW hp j (.bD sz (xs.take lo++y++xs.drop (lo+y.length)))):=by
 obtain⟨vals,rest,elem,c,u,n,o⟩:=r.fR j _ s z;have d:=VE.length _ _ c;have p:=VE.length _ _ m;have A:lo*sz+ys.length<=vals.length:=by
  rw[d,p,<-JC];exact JW _ t
 have f:dq g j (.bD sz xs)=some (g.cC j):=by cases xs with|nil=>exact absurd rfl z|cons=>rfl
 have x:(xs.take lo++y++xs.drop (lo+y.length)).length=xs.length:=by simp;omega
 have a:dq g j (.bD sz (xs.take lo++y++xs.drop (lo+y.length)))=some (g.cC j):=by
  cases h:xs.take lo++y++xs.drop (lo+y.length)with
  |nil=>rw[h]at x;exact absurd (KE x.symm) z
  |cons=>rfl
 have q:=MP (P:=P) (g.cC j) (lo*sz) elem ys 0 _ w u Ar (VE.eV _ _ m);refine⟨_,by simpa using q,?_⟩;refine r.set s (o':=.bD sz (xs.take lo++y++xs.drop (lo+y.length))) (a.trans f.symm) (λk C=>MO _ _ _ _ (λe=>C (by rw[f,e]))) (by simp[World.setRow]) rfl rfl rfl ?_ ?_
 .intro b D v
  grind
 .intro _;have i:=ac1 lo xs vals c m t;have l:=VE.length _ _ i;rw[x,<-d]at l;refine⟨_,rest,elem,i,?_,n,by rw[x,l];exact o⟩;rw[MN w _ _ _ elem _ u]
  grind
def ahD z n:(Builtin.zeroCells z (n+1)).toList=z.toList++(Builtin.zeroCells z n).toList:=by
 apply List.ext_getElem
 .simp[Builtin.zeroCells,JC,LL]
 .intro i x y;have a:0<z.size:=by
   simp only[Builtin.zeroCells,Array.toList_map,B7,LJ,Array.size_range]at x;rcases Nat.eq_zero_or_pos z.size with h|h
   .rw[h]at x;simp at x
   .exact h
  simp only[Builtin.zeroCells,Array.toList_map,List.getElem_map,Array.getElem_toList,Array.getElem_range];by_cases h:i<z.size
  .rw[List.getElem_append_left Do,Nat.mod_eq_of_lt h];simp[getElem!_pos,h]
  .rw[List.getElem_append_right Do];simp only[List.getElem_map,Array.getElem_toList,Array.getElem_range,LJ];rw[Nat.mod_eq_sub_mod B9]
def RT{g sz z}(hs:z.size=sz)(a:∀v∈z.toList,v.oneCell'=true){x v}(b:ac g x v)(y:v.cells=z):∀n,VE g sz (List.replicate n x) (Builtin.zeroCells z n).toList
 |0=>by simp[VE,Builtin.zeroCells]
 |n+1=>by
  rw[P7,ahD];simp only[VE];exact⟨v,_,by rw[y],⟨by rw[y];exact hs,by rw[y];exact a⟩,b,RT hs a b y n⟩
def sW{lo z:T Operand}{l h}{len cap L H:Nat}{a:Act}{w}(d:(l=none/\lo.map a.eval=none)\/∃k m,l=some m/\lo.map a.eval=some (.int k m))(e:(h=none/\z.map a.eval=none)\/∃k m,h=some m/\z.map a.eval=some (.int k m))(f:0<=l.getD 0)(g:l.getD 0<=h.getD len)(i:h.getD len<=cap)(b:(l.getD 0).toNat=L)(c:(h.getD len).toNat=H):
 (Instr.sliceBounds true len cap (lo.map a.eval) (z.map a.eval) none).run P w= .ok (L,H,cap) w:=by
 rcases d with⟨rfl,e2⟩|⟨k1,x,rfl,e2⟩<;>rcases e with⟨rfl,e3⟩|⟨j,y,rfl,e3⟩<;>simp only[Oy,Kj]at f g i b c<;>
  simp only[e2,e3,Instr.sliceBounds,Instr.sliceBound,asIntOf,FO,Iu,G4]
 .simp at b c;simp[<-c,<-b]
 .have e4:0<=y/\y<=(cap:Int):=⟨by omega,by omega⟩;simp_all
 .have e4:0<=x/\x<=(len:Int):=⟨by omega,by omega⟩;simp_all
 .have e4:0<=y/\y<=(cap:Int):=⟨by omega,by omega⟩;have n:0<=x/\x<=(H:Int):=⟨by omega,by omega⟩;simp_all
def add_zero'{a:Addr}(h:a.spot=none):a.add 0=a:=by
 obtain⟨b,o,s⟩:=a
 grind [Addr.add_mid]
def Vz{g j sz N L H a cap}(hd:g.dC j)(o:L<=H)(p:H<=N)(d:N<=(g.tl j).n)(b:N<=cap)(m:N<=4611686018427387904)(f:a=none->cap=0)(i:0<N->a=some ⟨g.cC j,0,none⟩)(z:∀x∈a,x.spot=none)(q:(g.tl j).n=N->a=(g.tl j).a/\cap=(g.tl j).cap):
 ac g (.sub j sz L (H-L) N) (.slice (if cap=L then a else a.map (·.add (L*sz))) (H-L) (cap-L)):=by
 simp only[ac];refine⟨hd,by omega,d,_,_,rfl,⟨by omega,by omega⟩,?_,?_,?_,?_,?_⟩
 .intro e;split at e
  .omega
  .cases a with
   |none=>have:=f rfl;omega
   |some a=>simp at e
 .intro k;rw[BY B9,i B9];simp[JE]
 .intro y c;split at c
  .exact z y c
  .cases a with
   |none=>simp at c
   |some a=>
    simp at c;subst c;have:=z a rfl;unfold Addr.add;split<;>simp_all
 .intro l;subst l;refine⟨by simpa using b,λk=>?_⟩;split
  .exact i k
  .rw[i k];simp[JE]
 .intro e l;subst l;obtain⟨e1,e2⟩:=q e;refine⟨?_,by simpa using e2⟩;split
  .exact e1
  .cases a with
   |none=>exact e1
   |some a=>simp only[Nat.zero_mul,Jm];rw[add_zero' (z a rfl)];exact e1
def afV{t e x lo k l h sz N j}(b:o.op= .slice t x lo k none)(m:cX P t=some (e,sz))(hx:bP ge tm x= .ms j sz N)(n:AQ ge tm lo=some l)(p:AQ ge tm k=some h)(q:0<=l.getD 0)(s:l.getD 0<=h.getD N)(h2:h.getD N<=N):
 Ev P ge o tm S (.sub j sz (l.getD 0).toNat ((h.getD N).toNat-(l.getD 0).toNat) N):=by
 refine .df (λg w z _ _ r kk v=>?_);obtain⟨hu,c⟩:=dm m;have d:=v x OV;rw[hx]at d;simp only[ac]at d;obtain⟨hd,a,cap,e1,u,A,C,f,_,D,K⟩:=d;have L:=jF (g:=g) (a:=z) n (λy e=>v y Iz);have Q:=jF (g:=g) (a:=z) p (λy e=>v y Iz);have i:=dH (P:=P) c w;have X:=sW (P:=P) (w:=w) (cap:=cap) L Q q s B9 rfl rfl;refine⟨_,?_,Vz (a:=a) (cap:=cap) hd B9 B9 D B9 u.2 A C f K⟩;simp only[execOp,b,Instr.sliceAt,FO,FG hu,G4,Instr.slice,e1,X,i,Iu,NI]
def afX{t e x lo k l h sz n N j}(b:o.op= .slice t x lo k none)(m:cX P t=some (e,sz))(hx:bP ge tm x= .sub j sz 0 n N)(p:AQ ge tm lo=some l)(q:AQ ge tm k=some h)(s:0<=l.getD 0)(u:l.getD 0<=h.getD n)(h2:h.getD n<=N):
 Ev P ge o tm S (.sub j sz (l.getD 0).toNat ((h.getD n).toNat-(l.getD 0).toNat) N):=by
 refine .df (λg w z _ _ r kk v=>?_);obtain⟨hu,c⟩:=dm m;have d:=v x OV;rw[hx]at d;simp only[ac]at d;obtain⟨hd,p1,A,a,cap,e1,C,D,ha,f,K,L⟩:=d;obtain⟨Q,X⟩:=K trivial;have b1:=jF (g:=g) (a:=z) p (λy e=>v y Iz);have b2:=jF (g:=g) (a:=z) q (λy e=>v y Iz);have i:=dH (P:=P) c w;have hb:=sW (P:=P) (w:=w) (cap:=cap) b1 b2 s u B9 rfl rfl;refine⟨_,?_,Vz (a:=a) (cap:=cap) hd B9 B9 A Q C.2 D X f (λe=>L e trivial)⟩;simp only[execOp,b,Instr.sliceAt,FO,FG hu,G4,Instr.slice,e1,hb,i,Iu,NI]
def afY{t e x sz lo n N j}(z:o.op= .call {callee:=.builtin .len,args:=#[x],argTypes:=#[t]})(hu:P.underlying t=some (.slice e))(hx:bP ge tm x= .sub j sz lo n N):Ev P ge o tm S (.int .i64 n):=by
 refine .df (λg w b _ _ r c v=>?_);have y:=v x Dn;rw[hx]at y;simp only[ac]at y |-;obtain⟨_,_,_,a,cap,e1,_⟩:=y;exact⟨_,by simp[execOp,z,resolve,invoke,builtin,Builtin.len_,e1,goInt,FG hu],rfl⟩
def afZ{t e x y k i j sz lo n N}(z:o.op= .indexAddr t x y)(l:cX P t=some (e,sz))(hx:bP ge tm x= .sub j sz lo n N)(m:bP ge tm y= .int k i)(p:0<=i)(q:i<n):Ev P ge o tm S (.eU j ((lo+i.toNat)*sz)):=by
 refine .df (λg w s _ _ r A v=>?_);obtain⟨hu,b⟩:=dm l;have c:=v x Um;have d:=v y Um;rw[hx]at c;rw[m]at d;simp only[ac]at c d |-;obtain⟨u,_,_,a,cap,e1,C,_,f,_⟩:=c;have f:=f B9;subst f;exact⟨.pointer (some ⟨g.cC j,(lo+i.toNat)*sz,none⟩),by simp[execOp,z,d,e1,Instr.indexAt,asIntOf,FG hu,p,q,dH b,JE,JC],u,rfl⟩
def AX(P:Program)(e:TypeId)(sz:Nat)(y:G):Prop:=∃x,jK P e=some x/\x.length=sz/\x.all G.eV=true/\(y= .agg x\/x=[y])
def AX.run{e sz y}(h:AX P e sz y)g w:
 ∃z v,(zeroValue e).run P w= .ok z w/\z.cells.size=sz/\(∀u∈z.cells.toList,u.oneCell'=true)/\ac g y v/\v.cells=z.cells:=by
 obtain⟨d,b,a,c,h4⟩:=h;obtain⟨z,k1,rfl⟩:=jD b w;have x:=jh g z.cells.toList;have hs:=VL.eV _ _ x c;rcases h4 with rfl|h4
 .exact⟨z,.agg z.cells,k1,by simpa using a,hs,by simp only[ac];exact⟨_,rfl,x⟩,rfl⟩
 .rw[h4]at x;obtain⟨u,rest,e1,e2,e3⟩:=x;subst e3;refine⟨z,u,k1,by simpa using a,hs,e2,?_⟩;have hu:=hs u (by rw[e1];simp);have:u.cells=#[u]:=by cases u<;>simp_all[Value.cells,Value.oneCell']
  rw[this];exact M9.1 (by rw[e1])
def avm{x}(xs:U x)lo:xs.take lo++[]++xs.drop (lo+0)=xs:=by simp
def zh{hp j p}(h:hp j=some p):cW hp j p=hp:=by
 grind [bp,aZ]
def af0{t e x j sz lo n N xs y}(l:o.op= .call {callee:=.builtin .clear,args:=#[x],argTypes:=#[t]})(ht:cX P t=some (e,sz))(hx:bP ge tm x= .sub j sz lo n N)(i:hp j=some (.bD sz xs))(hN:xs.length=N)(hz:AX P e sz y){xs'}(ez:bF (xs.take lo++List.replicate n y++xs.drop (lo+n)) xs')(hk:K (.bZ []) (cW hp j (.bD sz xs'))):eW P ge F o tm hp K:=by
 refine .value λg fr w a f r k v=>?_
 obtain⟨hu,hsz⟩:=dm ht;have p:=v x Jp;rw[hx]at p;simp only[ac]at p;obtain⟨hd,p1,p2,ad,cap,e1,hc,hn,ha,aiT,_⟩:=p;have yW:∀{w':World},dy g w' (bG (cW hp j (.bD sz (xs.take lo++List.replicate n y++xs.drop (lo+n)))) fr)->dy g w' (bG (cW hp j (.bD sz xs')) fr):=by
  intro w' s;have d:=ez.length;have A:ey g w' j (.bD sz xs'):=λc=>by
   have C:xs.take lo++List.replicate n y++xs.drop (lo+n)≠ []:=λq=>c (KE (by rw[<-d,q];rfl))
   obtain⟨vs,rest,elem,q1,q2⟩:=s.fR j _ (aK (bp _ _ _)) C;exact⟨vs,rest,elem,VE.sub ez _ _ q1,by rw[<-d];exact q2⟩
  have D:dq g j (.bD sz xs')=dq g j (.bD sz (xs.take lo++List.replicate n y++xs.drop (lo+n))):=by
   cases h4:xs' with
   |nil=>
    rw[h4]at d;have:=KE d;rw[this]
   |cons a b=>
    cases h5:xs.take lo++List.replicate n y++xs.drop (lo+n)with
    |nil=>rw[h4,h5]at d;simp at d
    |cons=>rfl
  have:=s.set (o':=.bD sz xs') (w':=w') (aK (bp _ _ _)) D (λ_ _=>rfl) rfl rfl rfl rfl (λb hb hf=>s.fz b hf) A;rw[bz]at this;have e:cW (cW hp j (.bD sz (xs.take lo++List.replicate n y++xs.drop (lo+n)))) j (.bD sz xs')=cW hp j (.bD sz xs'):=by
   funext q;simp only[cW];split<;>rfl
  rw[e]at this;exact this
 by_cases h0:n=0
 .subst h0;have L:cW hp j (.bD sz (xs.take lo++List.replicate 0 y++xs.drop (lo+0)))=hp:=by
   rw[List.replicate_zero,avm];exact zh i
  refine⟨.tuple #[],w,g,_,_,?_,AV.Le.refl g,⟨yW (by rw[L];exact r.rel),r.cM.fW i⟩,by simp[ac,VL],hk⟩;cases ad<;>simp[execOp,l,resolve,invoke,builtin,Builtin.clear_,e1,FG hu]
 .have Q:=ha B9;subst Q;have c:xs≠ []:=by intro q;subst q;simp at hN;omega
  obtain⟨z,u,z1,z2,z3,z4,z5⟩:=hz.run g w;obtain⟨w',h1,X⟩:=r.rel.zg (P:=P) (lo:=lo) (aK i) c (RT z2 z3 z4 z5 n) Ar;simp only[List.length_replicate]at X;rw[bz]at X;refine⟨.tuple #[],w',g,_,_,?_,AV.Le.refl g,⟨yW X,r.cM.fW i⟩,by simp[ac,VL],hk⟩;simp[execOp,l,resolve,invoke,builtin,Builtin.clear_,e1,FG hu,z1,h1]
def dy.zj{g w}(r:dy g w hp){j sz lo m xs}(c:hp j=some (.bD sz xs))(b:xs≠ [])(i:lo+m<=xs.length){a cap}(d:0<m->a=some ⟨g.cC j,lo*sz,none⟩):
 ∃ys,VE g sz ((xs.drop lo).take m) ys/\(Builtin.firstCells sz m (.slice a m cap)).run P w= .ok ys.toArray w:=by
 obtain⟨vals,rest,elem,x,e,_,_⟩:=r.fR j _ c b;have f:=VE.length _ _ x;have hd:=VE.take m _ _ (VE.drop lo _ _ x);have y:=VE.length _ _ hd;have z:((xs.drop lo).take m).length=m:=by simp;omega
 rw[z]at y;refine⟨_,hd,?_⟩;rcases Nat.eq_zero_or_pos m with h0|h0
 .subst h0;cases a<;>simp[Builtin.firstCells,loadCells,loadCellsFrom]
 .rw[d h0];refine MJ (P:=P) w sz m _ _ _ _ y λq u hu=>?_
  rw[JE];have hq:q<m*sz:=by have:=gD hu;omega
  rw[List.getElem?_take_of_lt hq,L1]at hu;simp[World.cell?,e]
  grind
def af1{t e x y j sz bytes i lo m N xs}(l:o.op= .call {callee:=.builtin .append,args:=#[x,y],argTypes:=#[t,t]})(h:oV P t e sz bytes)(hx:bP ge tm x= .sub j sz 0 i N)(Q:bP ge tm y= .sub j sz lo m N)(k:hp j=some (.bD sz xs))(hN:xs.length=N)(c:xs≠ [])(hi:i+m<=N)(X:K (.sub j sz 0 (i+m) N) (cW hp j (.bD sz (xs.take i++(xs.drop lo).take m++xs.drop (i+m))))):eW P ge F o tm hp K:=by
 refine .value λg fr w act f r kk v=>?_
 have n:=v x Jp;have p:=v y Jp;rw[hx]at n;rw[Q]at p;simp only[ac]at n p;obtain⟨d1,p1,p2,a,cap,e1,c1,n1,a1,s1,f1,t1⟩:=n;obtain⟨d2,q1,q2,b,q,e2,c2,n2,a2,s2,_,t2⟩:=p;obtain⟨_,_,_,_,_,_,o4,o5,o6,o7⟩:=r.rel.fR j _ (aK k) c;obtain⟨t3,t4⟩:=t1 B9 trivial;rw[o6]at t3;obtain⟨ii,z,s,hz,u,hib,hzs⟩:=h.p5;obtain⟨ys,A,C⟩:=r.rel.zj (P:=P) (aK k) c (lo:=lo) (m:=m) B9 (a:=b) (cap:=q) a2;have d:((xs.drop lo).take m).length=m:=by simp;omega
 obtain⟨w',h3,L⟩:=r.rel.zg (P:=P) (lo:=i) (aK k) c A B9;rw[d,bz]at L;refine⟨.slice a (i+m) cap,w',g,_,_,?_,AV.Le.refl g,⟨L,r.cM.fW k⟩,?_,X⟩
 .subst u;have D:i+m<=cap:=by omega
  simp[execOp,l,resolve,invoke,builtin,Builtin.append_,FG h.aM,sizeOf,typeInfo,s,e1,e2,Builtin.lenOf,D,C,t3,JE,h3]
 .simp only[ac]
  grind
def dy.FQ{g w}(r:dy g w hp){j sz xs zs ys}(n:hp j=some (.bD sz xs))(o:xs≠ [])(apN:zs≠ [])(hz:VE g sz zs ys)(hl:xs.length+zs.length<=(g.tl j).cap):
 ∃w' g',(storeCells ⟨g.cC j,xs.length*sz,none⟩ ys).run P w= .ok () w'/\AV.Le g g'/\(∀q,q≠j->g'.tl q=g.tl q)/\g'.tl j=⟨(g.tl j).a,xs.length+zs.length,(g.tl j).cap⟩/\g'.cC=g.cC/\dy g' w' (cW hp j (.bD sz (xs++zs))):=by
 obtain⟨vals,rest,elem,s,hb,t,o4,o5,o6,o7⟩:=r.fR j _ n o;have l:=VE.length _ _ s;have hly:=VE.length _ _ hz;have ajb:xs.length*sz+ys.length<=vals.length+rest.length:=by
  refine KV ?_ o7;rw[hly,<-JC];exact JW _ hl
 have d:dq g j (.bD sz xs)=some (g.cC j):=by cases xs with|nil=>exact absurd rfl o|cons=>rfl
 have ajf:=MP (P:=P) (g.cC j) (xs.length*sz) elem ys 0 _ w hb Ar (VE.eV _ _ hz);have hzl:0<zs.length:=KS.2 apN;have y:AV.Le g (g.tail j ⟨(g.tl j).a,xs.length+zs.length,(g.tl j).cap⟩):=NZ (.inr (by rw[o4];simp;omega));generalize u:g.tail j ⟨(g.tl j).a,xs.length+zs.length,(g.tl j).cap⟩=g' at*;have f:g'.tl j=⟨(g.tl j).a,xs.length+zs.length,(g.tl j).cap⟩:=by rw[<-u];simp[AV.tail]
 have c:∀q,q≠j->g'.tl q=g.tl q:=λq hq=>by rw[<-u];simp[AV.tail,hq]
 have i:g'.cC=g.cC:=by rw[<-u];rfl
 have v:g'.fz=g.fz:=by rw[<-u];rfl
 have aje:g'.dC=g.dC:=by rw[<-u];rfl
 have A:g'.bV=g.bV:=by rw[<-u];rfl
 have hw0:g'.w0=g.w0:=by rw[<-u];rfl
 have C:dq g' j (.bD sz (xs++zs))=some (g.cC j):=by
  cases xs with
  |nil=>exact absurd rfl o
  |cons=>simp only[LX,dq,i]
 have key:∀q p,cW hp j (.bD sz (xs++zs)) q=some p->(q=j/\p= .bD sz (xs++zs))\/(q≠j/\hp q=some p):=by
  intro q p h;by_cases e:q=j
  .subst e;rw[bp]at h;simp at h;exact .inl ⟨rfl,h.symm⟩
  .rw[aZ _ _ e]at h;exact .inr ⟨e,h⟩
 generalize D:w.setRow (g.cC j) ((vals++rest).take (xs.length*sz+0)++ys++(vals++rest).drop (xs.length*sz+0+ys.length)).toArray=W;refine⟨W,g',by rw[<-D];simpa using ajf,y,c,f,i,?_⟩;have ajX:∀k,k≠g.cC j->W.heap[k]?=w.heap[k]?:=λk hk=>by rw[<-D];exact MO _ _ _ _ hk
 have N:W.heap[g.cC j]?=some (.cells ((vals++rest).take (xs.length*sz+0)++ys++(vals++rest).drop (xs.length*sz+0+ys.length)).toArray elem (0,0)):=by rw[<-D];exact MN w _ _ _ elem _ hb
 have Q:W.heap.size=w.heap.size:=by rw[<-D];simp[World.setRow]
 have aki:=r.el j _ _ n d;have X:=r.set (w':=W) n (o':=.bD sz xs) rfl (λk hk=>ajX k (λe=>hk (by rw[d,e]))) Q (by rw[<-D];rfl) (by rw[<-D];rfl) (by rw[<-D];rfl)
  (λb x hne'=>by rw[d]at x;simp at x;subst x;exact absurd t hne') (λ_=>by
   refine⟨vals,ys++(rest.drop ys.length),elem,s,?_,t,o4,o5,o6,?_⟩
   .rw[N];have e1:(vals++rest).take (xs.length*sz+0)=vals:=by rw[L5,<-l];simp
    have e2:(vals++rest).drop (xs.length*sz+0+ys.length)=rest.drop ys.length:=by rw[L5,<-l,ML];simp
    rw[e1,e2];simp
   .simp only[G7,KP];omega)
 rw[zh n]at X;refine⟨λq=>?_,by rw[A,hw0];exact X.jI,by rw[A];exact X.size,λb x=>by rw[v]at x |-;exact X.fz b x,?_,?_,?_⟩
 .rw[aje];by_cases e:q=j
  .subst e;rw[bp,r.dC q,n];simp
  .rw[aZ _ _ e];exact r.dC q
 .intro q p h;rcases key q p h with⟨rfl,rfl⟩|⟨h1,m⟩
  .intro _;refine⟨vals++ys,rest.drop ys.length,elem,VE.mono y _ _ _ (VE.append _ _ s _ _ hz),?_,by rw[i,v];exact t,?_⟩
   .rw[i,N];have e1:(vals++rest).take (xs.length*sz+0)=vals:=by rw[L5,<-l];simp
    have e2:(vals++rest).drop (xs.length*sz+0+ys.length)=rest.drop ys.length:=by rw[L5,<-l,ML];simp
    rw[e1,e2]
   .refine⟨by rw[f,G7],by rw[f,G7];exact hl,by rw[f,i];exact o6,?_⟩;rw[f];simp only[G7,KP];omega
  .exact(X.fR q p m).lU y (r.dl m) (c q h1) λb _=>⟨rfl,by rw[v]⟩
 .intro q p b h x;rw[A,Q];rcases key q p h with⟨rfl,rfl⟩|⟨h1,m⟩
  .rw[C]at x;simp at x;subst x;exact aki
  .rw[gC p y (r.dl m) (c q h1)]at x;exact r.el q p b m x
 .intro q K p L b h h' x z;rcases key q p h with⟨rfl,rfl⟩|⟨h1,m⟩
  .rw[C]at x;simp at x;subst x;rcases key K L h' with⟨rfl,rfl⟩|⟨h3,h4⟩
   .rfl
   .rw[gC L y (r.dl h4) (c K h3)]at z;exact r.jH _ K _ L _ n h4 d z
  .rw[gC p y (r.dl m) (c q h1)]at x;rcases key K L h' with⟨rfl,rfl⟩|⟨h3,h4⟩
   .rw[C]at z;simp at z;subst z;exact r.jH q _ p _ _ m n x d
   .rw[gC L y (r.dl h4) (c K h3)]at z;exact r.jH q K p L b m h4 x z
def dy.sX{g w}(r:dy g w hp){t ty e sz bytes}(a0:oV P t e sz bytes){j k xs ys tok s x}(hj:hp j=some (.bD sz xs))(c:xs≠ [])(X:hp k=none)(hs:ac g (.ms j sz xs.length) s)(hx:ac g (.sl sz tok ys) x)(hb:(xs.length+ys.length)*bytes<=140737488355328)(hm:xs.length+ys.length<=4611686018427387904):
 ∃v w' g',(Builtin.append_ #[t,t] ty #[s,x]).run P w= .ok v w'/\AV.Le g g'/\dy g' w' (cW (cW hp j (.bD sz [])) k (.bD sz (xs++ys)))/\ac g' (.ms k sz (xs.length+ys.length)) v:=by
 obtain⟨i,z,hi,hz,akL,hib,hzs⟩:=a0.p5;subst akL hib;obtain⟨vals,d,C⟩:=gF (P:=P) r hx;have hvl:=VE.length _ _ d;have hkj:k≠j:=λq=>by rw[q,hj]at X;simp at X
 simp only[ac]at hs hx;obtain⟨d1,a,cap,rfl,A,ajn,ha,aiT,_,q1,q2⟩:=hs;obtain⟨xa,ak7,rfl,amv,_,_,_,_⟩:=hx;obtain⟨vs,rest,elem,hve,hbl,hfz,o4,o5,o6,o7⟩:=r.fR j _ hj c;obtain⟨q3,q4⟩:=q2 o4;have hxl:0<xs.length:=KS.2 c;by_cases D:ys=[]
 .subst D;obtain⟨g',h1,h2,h3⟩:=r.wd (i:=xs.length) hj X (Hq _) (λ_=>⟨q3,q4⟩) A ajn aiT;refine⟨.slice a xs.length cap,w,g',?_,h1,by simpa using h2,by simpa using h3⟩;have hf:=C w rfl;simp only[VE]at d;subst d;rw[q3,o6];simp[Builtin.append_,FG a0.aM,sizeOf,typeInfo,hi,Builtin.lenOf,A.1]at hf |-;simp[hf,storeCells]
 .have hyl:0<ys.length:=KS.2 D;by_cases l:xs.length+ys.length<=cap
  .obtain⟨w',g1,h1,h2,h3,h4,h5,h6⟩:=r.FQ (P:=P) hj c D d (by rw[<-q4];exact l);have hk1:cW hp j (.bD i.size (xs++ys)) k=none:=by rw[aZ _ _ hkj];exact X
   obtain⟨g',k1,k2,k3⟩:=h6.wd (k:=k) (i:=(xs++ys).length) (a:=a) (cap:=cap) (bp _ _ _) hk1 (Hq _) (λ_=>by rw[h4];exact⟨q3,q4⟩) (by rw[G7];exact⟨l,hm⟩) ajn aiT;rw[Gq]at k2;have e2:cW (cW (cW hp j (.bD i.size (xs++ys))) j (.bD i.size [])) k (.bD i.size (xs++ys))=cW (cW hp j (.bD i.size [])) k (.bD i.size (xs++ys)):=by
    funext q;simp only[cW];by_cases K:q=k
    .rw[BX K,BX K]
    .rw[BY K,BY K];by_cases y:q=j
     .rw[BX y,BX y]
     .rw[BY y,BY y,BY y]
   rw[e2]at k2;rw[G7]at k3;refine⟨.slice a (xs.length+ys.length) cap,w',g',?_,h2.trans k1,k2,k3⟩;have hf:=C w rfl;rw[q3,o6]at*;simp[Builtin.append_,FG a0.aM,sizeOf,typeInfo,hi,Builtin.lenOf,l,hf,JE,h1]
  .have aky:cap<xs.length+ys.length:=by omega
   have amM:=growslice_fits aky hb;have alB:¬(9223372036854775807<((xs.length:Int)+(ys.length:Int))):=by omega
   have alC:¬(281474976710656<Builtin.nextslicecap (xs.length+ys.length) cap*i.bytes):=by omega
   let nc:=grownCap w (xs.length+ys.length) cap e
   obtain⟨n,L,ajA⟩:=r.zj (P:=P) hj c (lo:=0) (m:=xs.length) B9 (a:=a) (cap:=cap) (by simpa using ha);simp only[List.drop_zero,Gq]at L;have hol:=VE.length _ _ L;have amf:(Builtin.firstCells i.size xs.length (.slice a xs.length cap)).run P w.drew= .ok n.toArray w.drew:=by
    have hh:=ha hxl;subst hh;refine MJ (P:=P) w.drew i.size xs.length _ _ _ n hol λq u hu=>?_
    rw[JE];have hq:=gD hu;have akU:=VE.length _ _ hve;have h9:=ajA;rw[MJ (P:=P) w i.size xs.length ⟨g.cC j,0,none⟩ xs.length cap vs akU (λq u hu=>by
     rw[JE];simp[World.cell?,hbl];rw[Ld (gD hu)];exact hu)]at h9
    simp at h9;subst h9;have hh2:w.drew.heap[g.cC j]?=some (.cells (vs++rest).toArray elem (0,0)):=hbl;simp[World.cell?,hh2];rw[Ld hq];exact hu
   let np:Array Value:=n.toArray++vals.toArray++Builtin.zeroCells z.cells (nc-(xs.length+ys.length))
   have ajf:(Builtin.append_ #[t,t] ty #[.slice a xs.length cap,.slice xa ys.length ak7]).run P w=
    .ok (.slice (some ⟨w.heap.size,0,none⟩) (xs.length+ys.length) nc) (w.drew.alloc (.cells np e)):=by
    have hf:=C w.drew rfl;simp[Builtin.append_,FG a0.aM,sizeOf,typeInfo,zeroValue,hi,hz,Builtin.lenOf,l,alB,alC,Question.forced,hf,amf,newRow,grownCap,nc,np]
   have hnc:xs.length+ys.length<=nc:=grownCap_ge w _ _ _;have N:=r.drew (w.drawn+1);have rj:dy g w.drew (cW hp j (.bD i.size [])):=by
    have aiR:dq g j (.bD i.size ([]:U G))=none:=rfl;refine⟨λq=>?_,N.jI,N.size,N.fz,λq p h=>?_,λq p b h f=>?_,λq q' p p' b h h' f akb=>?_⟩
    .by_cases y:q=j
     .subst y;rw[bp];simp[d1]
     .rw[aZ _ _ y];exact N.dC q
    .by_cases y:q=j
     .subst y;rw[bp]at h;simp at h;subst h;intro h;exact absurd rfl h
     .rw[aZ _ _ y]at h;exact N.fR q p h
    .by_cases y:q=j
     .subst y;rw[bp]at h;simp at h;subst h;simp[dq]at f
     .rw[aZ _ _ y]at h;exact N.el q p b h f
    .by_cases y:q=j
     .subst y;rw[bp]at h;simp at h;subst h;simp[dq]at f
     .rw[aZ _ _ y]at h;by_cases K:q'=j
      .subst K;rw[bp]at h';simp at h';subst h';simp[dq]at akb
      .rw[aZ _ _ K]at h';exact N.jH q q' p p' b h h' f akb
   have Q:cW hp j (.bD i.size []) k=none:=by rw[aZ _ _ hkj];exact X
   let o:TI:=⟨some ⟨w.heap.size,0,none⟩,xs.length+ys.length,nc⟩
   have r1:=rj.bO o Q;have hz0:g.fz w.heap.size=[]:=r.jJ;have akT:=(g.gG o (r.cT X)).trans (lu (g.bO k o) w.drew.heap.size (r1.cT Q));have hxy:xs++ys≠ []:=by simp[c]
   have r2:=r1.alloc Q (.cells np e) (.bD i.size (xs++ys)) (by cases h8:xs++ys with|nil=>exact absurd h8 hxy|cons=>simp[dq,AV.push]) (λ_=>by
    refine⟨n++vals,(Builtin.zeroCells z.cells (nc-(xs.length+ys.length))).toList,e,VE.mono akT _ _ _ (VE.append _ _ L _ _ d),?_,?_,?_⟩
    .have:((g.bO k o).push k w.drew.heap.size).cC k=w.heap.size:=by simp[AV.push]
     rw[this];refine(hX w.drew _).trans ?_;simp[np]
    .simpa[AV.push,AV.bO]using hz0
    .have hzl:(Builtin.zeroCells z.cells (nc-(xs.length+ys.length))).toList.length=(nc-(xs.length+ys.length))*i.size:=by
      rw[<-hzs];simp[Builtin.zeroCells]
     refine⟨by simp[AV.push,AV.bO,o],by simp[AV.push,AV.bO,o,hnc],by simp[AV.push,AV.bO,o],?_⟩;simp only[AV.push,AV.bO,J0,o,hvl,hol,hzl,G7];rw[<-JC,<-JC];exact JW _ B9)
   refine⟨_,_,_,ajf,akT,r2,?_⟩;simp only[ac];exact⟨by simp[AV.push],_,nc,rfl,⟨hnc,hm⟩,by simp,λ_=>by simp[AV.push],by simp,by simp[dV,AV.push,AV.bO,o]⟩
def eW.sX{t e x y j sz bytes n tok xs ys}k(l:hp k=none)(m:¬F k)(a:o.op= .call {callee:=.builtin .append,args:=#[x,y],argTypes:=#[t,t]})
 (X:oV P t e sz bytes) (hx:bP ge tm x= .ms j sz n) (p:bP ge tm y= .sl sz tok ys) (c:hp j=some (.bD sz xs)) (q:xs.length=n) (b:xs≠ []) (s:(xs.length+ys.length)*bytes<=140737488355328) (A:xs.length+ys.length<=4611686018427387904)
 (C:K (.ms k sz (xs.length+ys.length)) (cW (cW hp j (.bD sz [])) k (.bD sz (xs++ys)))):eW P ge F o tm hp K:=by
 subst q;refine .value λg fr w D f r L v=>?_
 have d:=v x (by simp[a,Op.operands,Call.operands]);have i:=v y (by simp[a,Op.operands,Call.operands]);rw[hx]at d;rw[p]at i;have z:=dI f m;obtain⟨u,w',g',e1,e2,e3,e4⟩:=r.rel.sX (ty:=o.type) X (aK c) b (cm l z) d i s A;rw[bz,bz]at e3;exact⟨u,w',g',_,_,by simp[execOp,a,resolve,invoke,builtin,e1],e2,⟨e3,(r.cM.fW c).cW z⟩,e4,C⟩
def af2{t e x lo z b k1 n p l h m sz N j}(y:o.op= .slice t x (some lo) (some z) (some b))(q:cX P t=some (e,sz))(hx:bP ge tm x= .ms j sz N)(s:bP ge tm lo= .int k1 l)(u:bP ge tm z= .int n h)(A:bP ge tm b= .int p m)(L:0<=l)(Q:l<=h)(X:h<=m)(h3:m<=N):Ev P ge o tm S .any:=by
 refine .df (λg w C _ _ r kk v=>?_);obtain⟨hu,c⟩:=dm q;have d:=v x EF;have f:=v lo EF;have i:=v z EF;have k:=v b EF;rw[hx]at d;rw[s]at f;rw[u]at i;rw[A]at k;simp only[ac]at d f i k;obtain⟨hd,a,cap,e1,hc,hn,ha,D,_⟩:=d;have K:=dH (P:=P) c w;refine⟨.slice (if m.toNat=l.toNat then a else a.map (·.add (l.toNat*sz))) (h.toNat-l.toNat) (m.toNat-l.toNat),?_,by simp only[ac]⟩
 .have b1:0<=m/\m<=(cap:Int):=by omega
  have b2:0<=h/\h<=(m.toNat:Int):=by omega
  have b3:0<=l/\l<=(h.toNat:Int):=by omega
  simp only[execOp,y,Instr.sliceAt,FO,FG hu,G4,Instr.slice,e1,Jm,f,i,k,Instr.sliceBounds,Instr.sliceBound,asIntOf,Iu];simp_all
def ob{t e}(x:P.underlying t=some (.pointer e))a w:(Op.equal t (.pointer a) (.pointer none)).run P w= .ok a.isNone w:=by
 unfold Op.equal Op.maxDepth;rw[show(10000:Nat)=9999+1 from rfl];unfold Op.equalIn;cases a<;>(simp only[FO,FG x,G4];rfl)
def J9:Value->At
 |.nilFunc=>true
 |_=>false
def ajy{t x rs vr}(y:P.underlying t=some (.func x rs vr))v(z:v= .nilFunc\/∃f a b,v= .func f a b)w:(Op.equal t v .nilFunc).run P w= .ok (J9 v) w:=by
 unfold Op.equal Op.maxDepth;rw[show(10000:Nat)=9999+1 from rfl];unfold Op.equalIn;rcases z with rfl|⟨f,a,b,rfl⟩<;>(simp only[FO,FG y,G4];rfl)
def AY:G->T At
 |.eM=>some true
 |.eU _ _=>some false
 |.aS _ _=>some false
 |_=>none
def AZ:G->T At
 |.bX=>some true
 |.fn _ _ _=>some false
 |_=>none
def Sj{t k e x y c neg}(d:o.op= .binOp (if neg then .neq else .eql) t x y k)(hu:P.underlying t=some (.pointer e))(hx:AY (bP ge tm x)=some c)(l:bP ge tm y= .eM):Ev P ge o tm S (.bool (c !=neg)):=by
 refine .df (λg w i _ _ r n j=>?_);have z:=j x DA;have f:=j y DA;rw[l]at f;have m:∃a:T Addr,i.eval x= .pointer a/\a.isNone=c:=by
  cases hq:bP ge tm x<;>rw[hq]at hx z<;>simp[AY]at hx<;>simp only[ac]at z
  .exact⟨none,z,by simpa using hx⟩
  .exact⟨_,z.2,by simpa using hx⟩
  .obtain⟨b,o,vals,z,_⟩:=z;exact⟨_,z,by simpa using hx⟩
 obtain⟨a,e1,rfl⟩:=m;simp only[ac]at f;cases neg
 .exact⟨.bool a.isNone,by simp[execOp,d,e1,f,eqGuard,binOp,ob hu],by simp[ac]⟩
 .exact⟨.bool (!a.isNone),by simp[execOp,d,e1,f,eqGuard,binOp,ob hu],by simp[ac]⟩
def Si{t l m rs vr x y c neg}(e:o.op= .binOp (if neg then .neq else .eql) t x y l)(hu:P.underlying t=some (.func m rs vr))(hx:AZ (bP ge tm x)=some c)(n:bP ge tm y= .bX):Ev P ge o tm S (.bool (c !=neg)):=by
 refine .df (λg w z _ _ r q j=>?_);have d:=j x II;have i:=j y II;rw[n]at i;have p:(z.eval x= .nilFunc\/∃f a b,z.eval x= .func f a b)/\J9 (z.eval x)=c:=by
  cases hq:bP ge tm x<;>rw[hq]at hx d<;>simp[AZ]at hx<;>simp only[ac]at d
  .obtain⟨a,b,d,_⟩:=d;rw[d];exact⟨.inr ⟨_,_,_,rfl⟩,by simpa[J9]using hx⟩
  .rw[d];exact⟨.inl rfl,by simpa[J9]using hx⟩
 obtain⟨e0,e1⟩:=p;simp only[ac]at i;have k:=ajy (P:=P) hu _ e0 w;cases neg
 .exact⟨.bool c,by simp[execOp,e,i,eqGuard,binOp,k,e1],by simp[ac]⟩
 .exact⟨.bool (!c),by simp[execOp,e,i,eqGuard,binOp,k,e1],by simp[ac]⟩
end
section
variable {P:Program}{ge:GE}{F:Nm->Prop}{tm:Tm}{l:HL}{o:Oper}{ti:Nat->T TE}
def Oi(x:G)(K:G->Prop):Prop:=match x with
 |.bool b=>K (.bool b)
 |.int k n=>K (.int k n)
 |.str s=>K (.str s)
 |.eM=>K .eM
 |.eU j n=>K (.eU j n)
 |.aS cs n=>K (.aS cs n)
 |.sl a t xs=>K (.sl a t xs)
 |.ms j a n=>K (.ms j a n)
 |.sub j a b n m=>K (.sub j a b n m)
 |.dP=>K .dP
 |.map j=>K (.map j)
 |.fn f a b=>K (.fn f a b)
 |.bX=>K .bX
 |.iface t v=>K (.iface t v)
 |.nilIface=>K .nilIface
 |.agg cs=>K (.agg cs)
 |.bZ vs=>K (.bZ vs)
 |.any=>K .any
 |.mR l=>K (.mR l)
def avA{x K}(h:Oi x K):K x:=by cases x<;>exact h
def FT:U G->(U G->Prop)->Prop
 | [],K=>K []
 |x::xs,K=>Oi x λy=>FT xs λr=>K (y::r)
def gi:∀xs{K},FT xs K->K xs
 | [],_,h=>h
 |_::xs,_,h=>gi xs (avA h)
def fc(x:G)(K:G->Prop):Prop:=match x with
 |.bool b=>K (.bool b)
 |.int k n=>K (.int k n)
 |.str s=>K (.str s)
 |.eM=>K .eM
 |.eU j n=>K (.eU j n)
 |.aS cs n=>K (.aS cs n)
 |.sl a t xs=>K (.sl a t xs)
 |.ms j a n=>K (.ms j a n)
 |.sub j a b n m=>K (.sub j a b n m)
 |.dP=>K .dP
 |.map j=>K (.map j)
 |.fn f a b=>K (.fn f a b)
 |.bX=>K .bX
 |.iface t v=>K (.iface t v)
 |.nilIface=>K .nilIface
 |.agg cs=>FT cs λcs=>K (.agg cs)
 |.bZ vs=>K (.bZ vs)
 |.any=>K .any
 |.mR l=>K (.mR l)
def gz{x K}(h:fc x K):K x:=by
 cases x<;>first|exact h|exact gi _ h
def Ka:U G->Nat->(G->Prop)->Prop
 | [],_,_=>False
 |x::_,0,K=>fc x K
 |_::xs,n+1,K=>Ka xs n K
def qb:∀xs n{K},Ka xs n K->∃x,xs[n]?=some x/\K x
 | [],_,_,h=>h.elim
 |x::_,0,_,h=>⟨x,rfl,gz h⟩
 |_::xs,n+1,_,h=>by
  obtain⟨x,y,z⟩:=qb xs n h
  grind
def HP:U G->Nat->(U G->Prop)->Prop
 |xs,0,K=>K xs
 | [],_+1,_=>False
 |_::xs,n+1,K=>HP xs n K
def sY:∀xs n{K},HP xs n K->n<=xs.length/\K (xs.drop n)
 |xs,0,_,h=>⟨K8 _,by cases xs<;>exact h⟩
 | [],_+1,_,h=>h.elim
 |_::xs,n+1,_,h=>by
  obtain⟨x,y⟩:=sY xs n h
  grind
def Cg:U G->Nat->(U G->Prop)->Prop
 |_,0,K=>K []
 | [],_+1,_=>False
 |x::xs,n+1,K=>Cg xs n λr=>K (x::r)
def sZ:∀xs n{K},Cg xs n K->n<=xs.length/\K (xs.take n)
 |xs,0,_,h=>⟨K8 _,by cases xs<;>simpa[Cg]using h⟩
 | [],_+1,_,h=>h.elim
 |_::xs,n+1,_,h=>by
  obtain⟨x,y⟩:=sZ xs n h
  grind
def VA(agg:At)(n:Nat)(cs:U G)(off:Nat)(K:G->Prop):Prop:=match agg with
 |true=>HP cs off λx=>Cg x n λy=>K (.agg y)
 |false=>Ka cs off K
theorem avk{agg n cs off K}(h:VA agg n cs off K):∃x,cut agg n cs off=some x/\K x:=by
 cases agg with
 |true=>
  obtain⟨z,h⟩:=sY _ _ h;obtain⟨y,h⟩:=sZ _ _ h;refine⟨_,?_,h⟩;simp at y;simp only[cut,J0];rw[BX B9]
 |false=>exact qb _ _ h
def HQ:U G->U G->(U G->Prop)->Prop
 |cs,[],K=>K cs
 | [],_::_,_=>False
 |_::cs,y::ys,K=>HQ cs ys λr=>K (y::r)
def s6:∀cs ys{K},HQ cs ys K->ys.length<=cs.length/\K (ys++cs.drop ys.length)
 |cs,[],_,h=>⟨K8 _,by cases cs<;>exact h⟩
 | [],_::_,_,h=>h.elim
 |_::cs,y::ys,_,h=>by
  obtain⟨x,z⟩:=s6 cs ys h
  grind
def HR:U G->Nat->U G->(U G->Prop)->Prop
 |cs,0,ys,K=>HQ cs ys K
 | [],_+1,_,_=>False
 |c::cs,n+1,ys,K=>HR cs n ys λr=>K (c::r)
def nA:∀cs n ys{K},HR cs n ys K->n+ys.length<=cs.length/\K (fH cs n ys)
 |cs,0,ys,K,h=>by
  obtain⟨y,x⟩:=s6 cs ys (by cases cs<;>exact h)
  grind [fH]
 | [],_+1,_,_,h=>h.elim
 |c::cs,n+1,ys,K,h=>by
  obtain⟨y,x⟩:=nA cs n ys h;refine⟨by simp;omega,?_⟩;have e:fH (c::cs) (n+1) ys=c::fH cs n ys:=by
   simp[fH];rw[show n+1+ys.length=(n+ys.length)+1 from by omega,List.drop_succ_cons]
  rw[e];exact x
def wh(i j:Nm):At:=Nat.beq i.1 j.1&&Nat.beq i.2 j.2
def jB{i j}:wh i j=true↔i=j:=by
 obtain⟨a,b⟩:=i;obtain⟨c,d⟩:=j;simp only[wh];simp_all
def gR{i j}:wh i j=false↔i≠j:=by
 rw[<-Bool.not_eq_true,jB]
def lk:HL->Nm->T bB
 | [],_=>none
 |(i,o)::l,j=>cond (wh i j) (some o) (lk l j)
theorem cQ:∀l j,aN l j=lk l j
 | [],j=>rfl
 |(i,o)::l,j=>by
  simp only[aN,lk];cases h:wh i j with
  |true=>rw[BX (jB.1 h).symm];rfl
  |false=>rw[BY (λe=>gR.1 h e.symm),FM,cQ l j]
def pb(j:Nm)(o:bB):HL->(HL->Prop)->Prop
 | [],_=>False
 |(i,p)::l,K=>cond (wh i j) (K ((j,o)::l)) (pb j o l λr=>K ((i,p)::r))
def fd{j o}:∀l{K},pb j o l K->K (dp j o l)
 | [],_,h=>h.elim
 |(i,p)::l,K,h=>by
  simp[pb]at h;simp[dp];cases e:wh i j with
  |true=>rw[e]at h;rw[BX (jB.1 e)];exact h
  |false=>rw[e]at h;rw[BY (gR.1 e)];exact fd l h
def nx(b:Nat):HL->Nat
 | []=>b
 |(i,_)::l=>nx (cond (Nat.ble b i.2) (i.2+1) b) l
def lB:∀l b,b<=nx b l
 | [],b=>Hq b
 |(i,_)::l,b=>by
  refine KV ?_ (lB l _);cases h:Nat.ble b i.2 with
  |true=>have:=J1 h;simp;omega
  |false=>exact Hq b
def hE:∀l b k m,nx b l<=m->aN l (k,m)=none
 | [],b,k,m,_=>rfl
 |(i,o)::l,b,k,m,h=>by
  simp[nx]at h;simp[aN];have x:=lB l (cond (Nat.ble b i.2) (i.2+1) b);have:i.2<m:=by
   cases y:Nat.ble b i.2 with
   |true=>rw[y]at h x;simp at h x;omega
   |false=>
    rw[y]at h x;simp at h x;have:¬b<=i.2:=λe=>by rw[Nat.ble_eq_true_of_le e]at y;simp at y
    omega
  rw[BY (λe=>by rw[<-e]at this;simp at this)];exact hE l _ k m h
abbrev KX:=G->HL->U Nm->Prop
def hZ(ti:Nat->T TE)(t:Nat):UK:=match ti t with
 |some i=>i.jt
 |none=>.HB
def Qx(ti:Nat->T TE)(t:Nat)(cs:U G)(off:Nat)(K:G->Prop):Prop:=match ti t with
 |some i=>VA i.agg i.sz cs off K
 |none=>False
def Kb(ti:Nat->T TE)(t:Nat)(ys:U G):At:=match ti t with
 |some i=>Nat.beq i.sz ys.length&&ys.all G.eV
 |none=>false
def HT(x:Nat->T (Nat×Nat))(cells:U G)(K:U G->Prop):U (Nat×G)->Prop
 | []=>K cells
 |(i,v)::rest=>match x i with
  |some (off,size)=>fc v λv=>match Nat.beq v.cells.length size&&v.cells.all G.eV with
   |true=>HR cells off v.cells λcs=>HT x cs K rest
   |false=>False
  |none=>False
def qd{x K}:∀z cells,HT x cells K z->∃cs,jR x cells z=some cs/\K cs
 | [],cells,h=>⟨cells,rfl,h⟩
 |_::rest,cells,h=>by
  simp[HT]at h;split at h
  .rename_i off size hp;have h:=gz h;split at h
   .rename_i y;simp only[BR]at y;obtain⟨c,h⟩:=nA _ _ _ h;obtain⟨cs,a,b⟩:=qd rest _ h;have e:=FU y.1;refine⟨cs,?_,b⟩;simp only[jR,hp];rw[BX ⟨e,by omega,y.2⟩];exact a
   .exact h.elim
  .exact h.elim
def RG(ti:Nat->T TE):U (Nat×Nat)->Nat->T (Nat×Nat)
 | [],_=>none
 |(o,t)::_,0=>match ti t with|some i=>some (o,i.sz)|none=>none
 |_::r,n+1=>RG ti r n
def Qy(ti:Nat->T TE)(t:Nat):T (Nat×Nat):=match ti t with
 |some i=>match i.jt with
  |.slice e=>match ti e with
   |some j=>cond (Nat.beq j.zero.length j.sz&&Nat.ble 1 j.sz&&Nat.ble 1 j.bytes) (some (j.sz,j.bytes)) none
   |none=>none
  |_=>none
 |none=>none
def qJ(ti:Nat->T TE)(t:Nat):T Nat:=match ti t with
 |some i=>match i.jt with
  |.slice e=>match ti e with
   |some j=>some j.sz
   |none=>none
  |_=>none
 |none=>none
def Qg(ti:Nat->T TE)(b:Nat)(l:HL)(t:Nat)(x y:G)(K:KX):Prop:=match Qy ti t with
 |some (sz,bytes)=>match x,y with
  |.sl z (.tail j) xs,.sl a _ ys=>match Nat.beq z sz&&Nat.beq a sz with
   |true=>match lk l j with
    |some (.tail c n)=>match Nat.beq c sz with
     |true=>n=xs.length/\(xs.length+ys.length)*bytes<=140737488355328/\pb j (.tail sz (xs++ys).length) l λl'=>K (.sl sz (.tail j) (xs++ys)) l' [j]
     |false=>False
    |_=>False
   |false=>False
  |.sl z .fu xs,.sl a _ ys=>match Nat.beq a sz&&(Nat.beq z sz||xs.isEmpty)with
   |true=>(xs.length+ys.length)*bytes<=140737488355328/\((∃k,nx b l=k/\K (.sl sz (.tail (1,k)) (xs++ys)) (((1,k),.tail sz (xs++ys).length)::l) [])\/
    (xs=[]/\∃k,nx b l=k/\K (.ms (1,k) sz ys.length) (((1,k),.bD sz ys)::l) []))
   |false=>False
  |.sub j z 0 i N,.sub d a lo m e=>match Nat.beq z sz&&Nat.beq a sz&&wh d j with
   |true=>match lk l j with
    |some (.bD c xs)=>match Nat.beq c sz with
     |true=>e=N/\xs.length=N/\xs≠ []/\i+m<=N/\∃xs',xs.take i++(xs.drop lo).take m++xs.drop (i+m)=xs'/\pb j (.bD sz xs') l λl'=>K (.sub j sz 0 (i+m) N) l' [j]
     |false=>False
    |_=>False
   |false=>False
  |.ms j z n,.sl a _ ys=>match Nat.beq z sz&&Nat.beq a sz with
   |true=>match lk l j with
    |some (.bD c xs)=>match Nat.beq c sz with
     |true=>xs.length=n/\xs≠ []/\(xs.length+ys.length)*bytes<=140737488355328/\∃k,nx b l=k/\pb j (.bD sz []) l λl'=>∃q,n+ys.length=q/\K (.ms (1,k) sz q) (((1,k),.bD sz (xs++ys))::l') [j]
     |false=>False
    |_=>False
   |false=>False
  |_,_=>False
 |none=>False
def ox(P:Program)(ge:GE)(b:Nat)(f:FuncId)(args:U G)(hp:Hp)(D:G->Hp->Prop):Prop:=
 ∀g fr w vs,(∀j,(fr j).isSome=true->j.1<1\/(j.1=1/\j.2<b))->gh g w hp fr->oO g ge->VL g args vs.toList->
  Calls P f vs w λe w'=>∃v g' x y,e= .returned v/\AV.Le g g'/\gh g' w' y fr/\ac g' x v/\D x y
def af3{o b hp K x args argTypes f first c}(l:o.op= .call {callee:=.value x,args:=args,argTypes:=argTypes})(hx:bP ge tm x= .fn (.func f) first c)(L:bW P f=true)(m:∀j,F j->j.1<1\/(j.1=1/\j.2<b))(n:ox P ge b f (first++args.toList.map (bP ge tm)++c) hp K):eW P ge F o tm hp K:=λg fr w a Q p r k v=>by
 have d:=v x Jp;rw[hx]at d;obtain⟨fa,q,e,s,t⟩:=d;have i:(execOp a.eval o).run P w= .ok (.enter f (fa++args.map a.eval++q)) w:=by
  grind [execOp,resolve,Deferred.ofValue,invoke,aa1]
 simp[Oper.wp,i];refine(n g fr w _ (λj A=>m j (p j A)) r k ?_).mono λN w'⟨u,g',y,C,e1,k1,X,k3,k4⟩=>?_
 .have:=VL.append _ _ (VL.append _ _ s _ _ (Ca args.toList (λz D=>v z (by simp[l,Op.operands,Call.operands];exact .inr (by simpa using D))))) _ _ t;simp_all
 .subst e1
  grind
def vg(b:Nat)(l l':HL)(ch:U Nm):Prop:=(∀j,(aN l j).isSome=true->j∉ch->aN l' j=aN l j)/\(∀j,(aN l j).isSome=true->(aN l' j).isSome=true)/\∀j,(aN l j).isSome=false->(aN l' j).isSome=true->j.1=1/\b<=j.2
def CH(b:Nat)(l:HL)(K:KX):G->Hp->Prop:=λx y=>∃l' ch,y=aN l'/\vg b l l' ch/\K x l' ch
def HU:BinOp->At
 |.shr=>true
 |_=>false
def avC{op}(h:HU op=true):op= .shr:=by cases op<;>simp[HU]at h<;>rfl
def HW:BinOp->At
 |.shl=>true
 |_=>false
def avG{op}(h:HW op=true):op= .shl:=by cases op<;>simp[HW]at h<;>rfl
def VC(i:Int)(K:Nat->Prop)(l:Nat):Nat->Prop:=Nat.rec (λ_=>True) (λ_ x k=>(i=(k:Nat)->K k)/\x (k+1)) l
def vi{i K}:∀l k,VC i K l k->k<=i->i<((k+l:Nat):Int)->K i.toNat
 |0,k,_,x,y=>by omega
 |l+1,k,h,x,y=>by
  by_cases e:i=k
  .have:=h.1 e
   grind
  .exact vi l _ h.2 B9 B9
def VF(ti:Nat->T TE)(x y:G)(c:At):Prop:=(∃a b u v,x= .iface a u/\y= .iface b v/\a≠b/\c=false)\/(∃a u v i,x= .iface a (.bool u)/\y= .iface a (.bool v)/\c=(u==v)/\ti a=some i/\i.jt= .bool/\i.Vx=true)
def Kc(ge:GE)(ti:Nat->T TE)(tm:Tm)(l:HL)(o:Oper)(K:G->T Nm->Prop):Prop:=
 match o.op with
 |.move x=>fc (bP ge tm x) λy=>K y none
 |.assign x=>fc (bP ge tm x) λy=>K y none
 |.pick c x y=>match bP ge tm c with
  |.bool t=>fc (Cd t (bP ge tm x) (bP ge tm y)) λz=>K z none
  |_=>False
 |.load t x=>match bP ge tm x with
  |.eU j off=>match lk l j with
   |some (.cells cs)=>Qx ti t cs off λy=>K y (some j)
   |some (.bD sz xs)=>∃i q z,off=i*sz+q/\fy xs i=some z/\match z.cells.all G.eV with
    |true=>Qx ti t z.cells q λy=>K y (some j)
    |false=>False
   |_=>False
  |.aS (c::cs) off=>Qx ti t (c::cs) off λy=>K y none
  |_=>False
 |.fieldAddr s x f=>match ti s with
  |some i=>match i.jt with
   |.struct=>match fy i.za f with
    |some (off,t)=>match ti t with
     |some C=>match Nat.ble 1 C.sz with
      |true=>match bP ge tm x with
       |.eU j n=>K (.eU j (n+off)) none
       |.aS cs n=>K (.aS cs (n+off)) none
       |_=>False
      |false=>False
     |none=>False
    |none=>False
   |_=>False
  |none=>False
 |.field s x f=>match ti s with
  |some i=>match i.jt with
   |.struct=>match fy i.za f with
    |some (off,t)=>match bP ge tm x with
     |.agg cs=>Qx ti t cs off λy=>K y none
     |_=>False
    |none=>False
   |_=>False
  |none=>False
 |.extract x i=>match bP ge tm x with
  |.bZ cs=>Ka cs i λy=>K y none
  |_=>False
 |.makeFunc fn first w=>K (.fn fn (first.toList.map (bP ge tm)) (w.toList.map (bP ge tm))) none
 |.build t p=>match ti t with
  |some i=>match i.jt with
   |.struct=>FT i.zero λA=>HT (RG ti i.za) A (λcs=>K (.agg cs) none) (p.toList.map λq=>(q.1,bP ge tm q.2))
   |.array _ e=>match ti e with
    |some j=>FT i.zero λA=>HT (λn=>some (n*j.sz,j.sz)) A (λcs=>K (.agg cs) none) (p.toList.map λq=>(q.1,bP ge tm q.2))
    |none=>False
   |_=>False
  |none=>False
 |.buildSlice t len p=>match ti t with
  |some i=>match i.jt with
   |.slice e=>match ti e with
    |some j=>match Nat.beq len p.size&&Nat.beq j.zero.length j.sz&&Nat.ble (len*j.sz) 16777216&&Nat.ble len 16777216&&sM j.sz (p.toList.map λq=>(q.1,bP ge tm q.2))with
     |true=>FT (p.toList.map λq=>bP ge tm q.2) λxs=>K (.sl j.sz .fu xs) none
     |false=>False
    |none=>False
   |_=>False
  |none=>False
 |.indexAddr t x y=>match qJ ti t,bP ge tm x,bP ge tm y with
  |some sz,.sl d _ xs,.int _ i=>match Nat.beq d sz with
   |true=>∃xs',bF xs xs'/\∃z,aA xs' i=some z/\match z.cells.all G.eV with
    |true=>FT z.cells λcs=>K (.aS cs 0) none
    |false=>False
   |false=>False
  |some sz,.ms j d n,.int _ i=>match Nat.beq d sz with
   |true=>0<=i/\i<n/\∃m,i.toNat*sz=m/\K (.eU j m) none
   |false=>False
  |some sz,.sub j d lo n _,.int _ i=>match Nat.beq d sz with
   |true=>0<=i/\i<n/\∃m,(lo+i.toNat)*sz=m/\K (.eU j m) none
   |false=>False
  |none,.aS cs n,.int _ i=>match hZ ti t with
   |.array len e=>match ti e with
    |some r=>0<=i/\i<len/\VC i (λk=>∃m,n+k*r.sz=m/\K (.aS cs m) none) len 0
    |none=>False
   |_=>False
  |none,.eU j n,.int _ i=>match hZ ti t with
   |.array len e=>match ti e with
    |some r=>0<=i/\i<len/\∃m,n+i.toNat*r.sz=m/\K (.eU j m) none
    |none=>False
   |_=>False
  |_,_,_=>False
 |.index t x y=>match hZ ti t,bP ge tm x,bP ge tm y with
  |.string,.str s,.int _ i=>∃c,0<=i/\s[i.toNat]?=some c/\K (.int .u8 c.toNat) none
  |.array n e,.agg cs,.int _ i=>match ti e with
   |some j=>0<=i/\i<n/\∃z,cut j.agg j.sz cs (i.toNat*j.sz)=some z/\fc z λz=>K z none
   |none=>False
  |_,_,_=>False
 |.slice t x lo g none=>match bP ge tm x,AQ ge tm lo,AQ ge tm g with
  |.str s,some lo,some g=>match hZ ti t with
   |.string=>0<=lo.getD 0/\lo.getD 0<=g.getD s.size/\g.getD s.size<=s.size/\K (.str (s.extract (lo.getD 0).toNat (g.getD s.size).toNat)) none
   |_=>False
  |.sl d _ xs,some lo,some g=>match qJ ti t with
   |some sz=>match Nat.beq d sz with
    |true=>∃xs',bF xs xs'/\0<=lo.getD 0/\lo.getD 0<=g.getD xs'.length/\g.getD xs'.length<=xs'.length/\K (.sl sz .no ((xs'.drop (lo.getD 0).toNat).take ((g.getD xs'.length).toNat-(lo.getD 0).toNat))) none
    |false=>False
   |none=>False
  |.ms j d N,some lo,some g=>match qJ ti t with
   |some sz=>match Nat.beq d sz with
    |true=>0<=lo.getD 0/\lo.getD 0<=g.getD N/\g.getD N<=N/\∃a,(lo.getD 0).toNat=a/\∃b,(g.getD N).toNat-a=b/\K (.sub j sz a b N) none
    |false=>False
   |none=>False
  |.sub j d 0 n N,some lo,some g=>match qJ ti t with
   |some sz=>match Nat.beq d sz with
    |true=>0<=lo.getD 0/\lo.getD 0<=g.getD n/\g.getD n<=N/\∃a,(lo.getD 0).toNat=a/\∃b,(g.getD n).toNat-a=b/\K (.sub j sz a b N) none
    |false=>False
   |none=>False
  |.aS cs 0,some none,some none=>match hZ ti t with
   |.array n e=>match ti e with
    |some r=>match Nat.ble n 4611686018427387904 with
     |true=>∃xs,xs.flatMap G.cells=cs/\xs.length=n/\(xs.all λy=>Nat.beq y.cells.length r.sz&&y.cells.all G.eV)=true/\K (.sl r.sz .no xs) none
     |false=>False
    |none=>False
   |_=>False
  |_,_,_=>False
 |.slice t x (some lo) (some g) (some D)=>match qJ ti t,bP ge tm x with
  |some sz,.ms _ d N=>match Nat.beq d sz with
   |true=>match bP ge tm lo,bP ge tm g,bP ge tm D with
    |.int _ a,.int _ b,.int _ c=>0<=a/\a<=b/\b<=c/\c<=N/\K .any none
    |_,_,_=>False
   |false=>False
  |_,_=>False
 |.typeAssert x _ t false=>match ti t with
  |some i=>match i.jt with
   |.iface=>False
   |_=>∃v,bP ge tm x= .iface t v/\K v none
  |none=>False
 |.makeInterface t x=>match ti t with
  |some i=>match i.jt with
   |.iface=>False
   |_=>K (.iface t (bP ge tm x)) none
  |none=>False
 |.binOp op t x y _=>match hZ ti t with
  |.iface=>match op with
   |.eql=>∃c,VF ti (bP ge tm x) (bP ge tm y) c/\K (.bool c) none
   |_=>False
  |.pointer=>match AY (bP ge tm x),bP ge tm y with
   |some c,.eM=>match op with
    |.eql=>K (.bool c) none
    |.neq=>K (.bool (!c)) none
    |_=>False
   |_,_=>False
  |.func=>match AZ (bP ge tm x),bP ge tm y with
   |some c,.bX=>match op with
    |.eql=>K (.bool c) none
    |.neq=>K (.bool (!c)) none
    |_=>False
   |_,_=>False
  |_=>match bP ge tm x,bP ge tm y with
   |.int k a,.int u c=>match HU op with
    |true=>0<=c/\K (.int k (a.fdiv (2 ^ min c.toNat k.bits))) none
    |false=>match HW op with
     |true=>0<=c/\K (.int k (k.wrap (a*2 ^ min c.toNat k.bits))) none
     |false=>match decide (k=u)with
      |true=>match op with
       |.quo=>c≠0/\K (.int k (k.wrap (a.tdiv c))) none
       |.rem=>c≠0/\K (.int k (a.tmod c)) none
       |op=>match vP op k a c with
        |some z=>K z none
        |none=>False
      |false=>False
   |.str a,.str c=>match op with
    |.add=>a.size+c.size<=9223372036854775807/\K (.str (a++c)) none
    |op=>match vR op a c with
     |some z=>K z none
     |none=>False
   |.bool a,.bool c=>match hZ ti t with
    |.bool=>match op with
     |.eql=>K (.bool (a==c)) none
     |.neq=>K (.bool (!(a==c))) none
     |_=>False
    |_=>False
   |_,_=>False
 |.unOp op _ x=>match op,bP ge tm x with
  |.not,.bool c=>K (.bool (!c)) none
  |.neg,.int k n=>K (.int k (k.wrap (0-n))) none
  |_,_=>False
 |.nilCheck x=>match vZ (bP ge tm x)with
  |true=>fc (bP ge tm x) λy=>K y none
  |false=>False
 |.convert s t x=>match ti s,hZ ti t,bP ge tm x with
  |some _,.int u,.int _ n=>K (.int u (u.wrap n)) none
  |_,_,_=>False
 |.call c=>match c.callee with
  |.builtin .len=>match c.args.toList,c.argTypes.toList with
   | [x],[t]=>match hZ ti t,bP ge tm x with
    |.slice _,.sl _ _ xs=>∃xs',bF xs xs'/\K (.int .i64 xs'.length) none
    |.slice _,.ms _ _ n=>K (.int .i64 n) none
    |.slice _,.sub _ _ _ n _=>K (.int .i64 n) none
    |.string,.str s=>K (.int .i64 s.size) none
    |_,_=>False
   |_,_=>False
  |.builtin .min=>match c.args.toList with
   | [x,y]=>match bP ge tm x,bP ge tm y with
    |.int k a,.int _ c=>K (.int k (if c<a then c else a)) none
    |_,_=>False
   |_=>False
  |.builtin .max=>match c.args.toList with
   | [x,y]=>match bP ge tm x,bP ge tm y with
    |.int k a,.int _ c=>K (.int k (if a<c then c else a)) none
    |_,_=>False
   |_=>False
  |_=>False
 |_=>False
def Mv(z:G)(q:Nat)(y:G)(sz:Nat)(K:G->Prop):Prop:=match z with
 |.agg cs=>FT y.cells λys=>HR cs q ys λcs'=>K (.agg cs')
 |_=>match Nat.beq q 0&&Nat.beq y.cells.length sz with
  |true=>fc y K
  |false=>False
def avF{z q y sz K}(h:Mv z q y sz K):∃z',((∃cs,z= .agg cs/\z'= .agg (fH cs q y.cells))\/(z'=y/\q=0/\y.cells.length=sz))/\K z':=by
 unfold Mv at h;split at h
 .obtain⟨_,h⟩:=nA _ _ _ (gi _ h);exact⟨_,.inl ⟨_,rfl,rfl⟩,h⟩
 .split at h
  .rename_i x;simp only[BR]at x;exact⟨_,.inr ⟨rfl,FU x.1,FU x.2⟩,gz h⟩
  .exact h.elim
def ZD(P:Program)(ge:GE)(ti:Nat->T TE)(b:Nat)(tm:Tm)(l:HL)(o:Oper)(K:KX):Prop:=
 match o.op with
 |.store t x y=>match bP ge tm x with
  |.eU j off=>match lk l j with
   |some (.cells cs)=>match Kb ti t (bP ge tm y).cells with
    |true=>FT (bP ge tm y).cells λys=>HR cs off ys λcs'=>pb j (.cells cs') l λl'=>K (.bZ []) l' [j]
    |false=>False
   |some (.bD sz xs)=>match Kb ti t (bP ge tm y).cells with
    |true=>∃i q z,off=i*sz+q/\fy xs i=some z/\Nat.ble (q+(bP ge tm y).cells.length) sz=true/\Mv z q (bP ge tm y) sz λz'=>∃xs',bF (xs.set i z') xs'/\pb j (.bD sz xs') l λl'=>K (.bZ []) l' [j]
    |false=>False
   |_=>False
  |_=>False
 |.alloc t=>match ti t with
  |some i=>FT i.zero λcs=>∃k,nx b l=k/\K (.eU (1,k) 0) (((1,k),.cells cs)::l) []
  |none=>False
 |.box _ x=>match(bP ge tm x).cells.all G.eV with
  |true=>FT (bP ge tm x).cells λcs=>∃k,nx b l=k/\K (.eU (1,k) 0) (((1,k),.cells cs)::l) []
  |false=>False
 |.range t x=>match hZ ti t,bP ge tm x with
  |.map _ _,.map i=>match lk l i with
   |some (.map _)=>∃k,nx b l=k/\K (.eU (1,k) 0) (((1,k),.yB i)::l) []
   |_=>False
  |.string,.str s=>∃k,nx b l=k/\K (.eU (1,k) 0) (((1,k),.sG s 0)::l) []
  |_,_=>False
 |.next x str=>match bP ge tm x with
  |.eU j 0=>match lk l j with
   |some (.yB i)=>match str with
    |false=>match lk l i with
     |some (.map [])=>K (.bZ [.bool false]) l []
     |_=>False
    |true=>False
   |some (.sG s pos)=>match str with
    |true=>(pos<s.size->pb j (.sG s (pos+(Utf8.decode s pos).2)) l λl'=>K (.bZ [.bool true,.int .i64 pos,.int .i32 (Utf8.decode s pos).1]) l' [j])/\(s.size<=pos->K (.bZ [.bool false]) l [])
    |false=>False
   |_=>False
  |_=>False
 |.makeMap t none=>match ti t with
  |some _=>∃k,nx b l=k/\K (.map (1,k)) (((1,k),.map [])::l) []
  |none=>False
 |.lookup t x y ok=>match hZ ti t with
  |.map key elem=>match hZ ti key,ti elem,bP ge tm x,bP ge tm y with
   |.string,some a,.map j,.str s=>match lk l j with
    |some (.map g)=>∃c v,fh g s=some (cond c (some v) none)/\(c=false->a.agg=false/\a.zero=[v]\/a.agg=true/\v= .agg a.zero)/\K (FL ok v c) l []
    |_=>False
   |_,_,_,_=>False
  |_=>False
 |.mapUpdate t x y z=>match hZ ti t with
  |.map key _=>match hZ ti key,bP ge tm x,bP ge tm y with
   |.string,.map j,.str s=>match lk l j with
    |some (.map g)=>∃d,jl g s (bP ge tm z)=some d/\pb j (.map d) l λl'=>K (.bZ []) l' [j]
    |_=>False
   |_,_,_=>False
  |_=>False
 |.insert t x y z=>match hZ ti t with
  |.map key _=>match hZ ti key,bP ge tm x,bP ge tm y with
   |.string,.map j,.str s=>match lk l j with
    |some (.map g)=>∃d,jl g s (bP ge tm z)=some d/\pb j (.map d) l λl'=>K (.bZ []) l' [j]
    |_=>False
   |_,_,_=>False
  |_=>False
 |.call c=>match c.callee with
  |.builtin .append=>match c.args.toList,c.argTypes.toList with
   | [x,y],[t,u]=>match Nat.beq u t with
    |true=>Qg ti b l t (bP ge tm x) (bP ge tm y) K
    |false=>False
   |_,_=>False
  |.builtin .clear=>match c.args.toList,c.argTypes.toList with
   | [x],[t]=>match ti t,bP ge tm x with
    |some i,.sub j sz lo n N=>match i.jt with
     |.slice e=>match ti e with
      |some a=>match Nat.beq a.sz sz&&Nat.beq a.zero.length a.sz&&a.zero.all G.eV with
       |true=>match lk l j with
        |some (.bD m xs)=>match Nat.beq m sz with
         |true=>xs.length=N/\∃p,(p= .agg a.zero\/a.zero=[p])/\∃xs',bF (xs.take lo++List.replicate n p++xs.drop (lo+n)) xs'/\pb j (.bD sz xs') l λl'=>K (.bZ []) l' [j]
         |false=>False
        |_=>False
       |false=>False
      |none=>False
     |_=>False
    |_,_=>False
   |_,_=>False
  |.value x=>match bP ge tm x with
   |.fn (.func f) first r=>bW P f=true/\ox P ge b f (first++c.args.toList.map (bP ge tm)++r) (aN l) (CH b l K)
   |_=>False
  |_=>False
 |.binOp .eql t x (.const (.slice none _ _)) _=>match hZ ti t,bP ge tm x with
  |.slice _,.sl _ _ xs=>∀c:At,(c=true->xs=[])->K (.bool c) l []
  |_,_=>False
 |_=>False
def eff(o:Oper):At:=match o.op with
 |.store ..|.alloc ..|.box ..|.binOp .eql _ _ (.const (.slice none _ _)) _|.range ..|.next ..|.makeMap ..|.lookup ..|.mapUpdate ..|.insert ..=>true
 |.call c=>match c.callee with
  |.builtin .append|.builtin .clear|.value _=>true
  |_=>false
 |_=>false
def VG(ge:GE)(ti:Nat->T TE)(b:Nat)(tm:Tm)(l:HL)(o:Oper)(K:KX):Prop:=
 match o.op with
 |.buildSlice t len y=>match ti t with
  |some i=>match i.jt with
   |.slice e=>match ti e with
    |some j=>match Nat.beq len y.size&&Nat.beq j.zero.length j.sz&&Nat.ble (len*j.sz) 16777216&&Nat.ble len 16777216&&sM j.sz (y.toList.map λq=>(q.1,bP ge tm q.2))with
     |true=>FT (y.toList.map λq=>bP ge tm q.2) λxs=>xs≠ []/\∃k,nx b l=k/\∃n,xs.length=n/\K (.ms (1,k) j.sz n) (((1,k),.bD j.sz xs)::l) []
     |false=>False
    |none=>False
   |_=>False
  |none=>False
 |.slice t x (some lo) none none=>match qJ ti t,bP ge tm x,bP ge tm lo with
  |some sz,.sl z (.tail j) xs,.int _ a=>match Nat.beq z sz with
   |true=>match lk l j with
    |some (.tail d n)=>match Nat.beq d sz with
     |true=>xs.length=n/\0<=a/\a<=n/\∃k,nx b l=k/\pb j (.bD 0 []) l λl'=>K (.sl sz (.tail (1,k)) (xs.drop a.toNat)) (((1,k),.tail sz (xs.drop a.toNat).length)::l') [j]
     |false=>False
    |_=>False
   |false=>False
  |_,_,_=>False
 |.call c=>match c.callee with
  |.builtin .len=>match c.args.toList,c.argTypes.toList with
   | [x],[t]=>match hZ ti t,bP ge tm x with
    |.map _ _,.map j=>match lk l j with
     |some (.map f)=>K (.int .i64 f.length) l []
     |_=>False
    |_,_=>False
   |_,_=>False
  |_=>False
 |_=>False
def aiG(ti:Nat->T TE)(o:Oper):At:=match o.op with
 |.buildSlice ..|.slice _ (.tmp _) (some (.const _)) none none=>true
 |.call c=>match c.callee,c.argTypes.toList with
  |.builtin .len,[t]=>match hZ ti t with
   |.map _ _=>true
   |_=>false
  |_,_=>false
 |_=>false
def SX(P:Program)(ge:GE)(ti:Nat->T TE)(b:Nat)(tm:Tm)(l:HL)(o:Oper)(K:KX):Prop:=match eff o with
 |true=>ZD P ge ti b tm l o K
 |false=>match aiG ti o with
  |true=>(Kc ge ti tm l o λx _=>K x l [])\/VG ge ti b tm l o K
  |false=>Kc ge ti tm l o λx _=>K x l []
end
end Go.Ab

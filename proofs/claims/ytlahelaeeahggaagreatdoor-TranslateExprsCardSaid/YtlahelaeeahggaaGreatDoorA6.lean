/- The logic of the walk. -/
import Derived.Laws.StructEq
import Derived.MapKept
import Derived.Test.YtlahelaeeahggaaGreatDoorA5
set_option linter.all false
open Go Go.RowKit
namespace Go.Ab
section
variable {P:Program}{ge:GE}{F:Nm->Prop}{S:Hp->Prop}{tm:Tm}{hp:Hp}{K:AV->Hp->Prop}{o:Oper}
def G.bF(g:G)(j:Nm)(t:TI):G:={g with tl:=λi=>if i=j then t else g.tl i}
def G.fF(g:G){j:Nm}(t:TI)(hj:¬g.dc j):G.Le g (g.bF j t)where
 cj:=rfl
 w0:=rfl
 fz _:=anf
 dc _ h:=h
 cg _ _:=rfl
 tl i hi:=by left;simp only[G.bF];rw[amL (λe=>hj (by rw[<-e];exact hi))]
def de.bF{g:G}{w:World}(r:de g w hp){j:Nm}(t:TI)(hj:hp j=none):de (g.bF j t) w hp:=by
 have hle:=g.fF t (r.cu hj);have htl:∀k p,hp k=some p->(g.bF j t).tl k=g.tl k:=λk p hk=>by
  simp only[G.bF];rw[amL (λe=>by rw[e,hj]at hk;simp at hk)]
 have acs:∀k p,hp k=some p->cX (g.bF j t) k p=cX g k p:=λk p hk=>fy p hle (r.cM hk) (htl k p hk)
 exact⟨r.dc,r.hU,r.size,r.fz,λk p hk=>(r.eP k p hk).kR hle (r.cM hk) (htl k p hk) λb _=>⟨rfl,rfl⟩,
  λk p b hk hb=>r.dI k p b hk (by rw[<-acs k p hk];exact hb),
  λi k p q b hi hk hb hb'=>r.hX i k p q b hi hk (by rw[<-acs i p hi];exact hb) (by rw[<-acs k q hk];exact hb')⟩
def de.ix{g:G}{w:World}(r:de g w hp){j:Nm}(hj:hp j=none)(sz b:Nat):de (g.push j b) w (cE hp j (.br sz [])):=by
 have hle:=G.dA g (j:=j) b (r.cu hj);have key:∀i p,cE hp j (.br sz []) i=some p->(i=j/\p= .br sz [])\/(i≠j/\hp i=some p):=by
  intro i p h;by_cases e:i=j
  ·subst e;rw[aZ]at h;simp at h;exact .inl ⟨rfl,h.symm⟩
  ·rw[aT _ _ e]at h;exact .inr ⟨e,h⟩
 have hown':∀i p,hp i=some p->cX (g.push j b) i p=cX g i p:=λi p h=>fy p hle (r.cM h) rfl
 refine⟨λi=>?_,r.hU,r.size,r.fz,?_,?_,?_⟩
 ·by_cases e:i=j
  ·subst e;simp[G.push,cE]
  ·simp only[G.push,aT _ _ e,e,false_or];exact r.dc i
 ·intro i p h;rcases key i p h with⟨rfl,rfl⟩|⟨hne,h⟩
  ·intro h;exact absurd rfl h
  ·exact(r.eP i p h).kR hle (r.cM h) rfl λb hb=>⟨rfl,rfl⟩
 ·intro i p d h hb;rcases key i p h with⟨rfl,rfl⟩|⟨hne,h⟩
  ·simp[cX]at hb
  ·rw[hown' i p h]at hb;exact r.dI i p d h hb
 ·intro i k p q d hi hk hbi hbk;rcases key i p hi with⟨rfl,rfl⟩|⟨hne,h⟩
  ·simp[cX]at hbi
  ·rcases key k q hk with⟨rfl,rfl⟩|⟨hne',h'⟩
   ·simp[cX]at hbk
   ·rw[hown' i p h]at hbi;rw[hown' k q h']at hbk;exact r.hX i k p q d h h' hbi hbk
def de.mO{g:G}{w:World}(r:de g w hp){t ty e:TypeId}{sz bytes:Nat}(T:lP P t e sz bytes)
 {j:Nm} (hj:hp j=none) {sz0:Nat} {ys:amx AV} {tok:iA} {s x:Value} (hs:V g (.sl sz0 .eD []) s)
 (hx:V g (.sl sz tok ys) x) (hb:ys.length*bytes<=140737488355328) (hm:ys.length<=4611686018427387904):
 ∃v w' g',(Builtin.append_ #[t,t] ty #[s,x]).run P w= .ok v w'/\G.Le g g'/\de g' w' (cE hp j (.br sz ys))/\V g' (.ms j sz ys.length) v:=by
 obtain⟨i,z,hi,hz,aea,hib,hzs⟩:=T.mJ;subst aea hib;obtain⟨vals,acB,acL⟩:=fD (P:=P) r hx;have hvl:=VE.length _ _ acB;have hs:V g (.sl i.size .eD []) s:=V.sub (.nil (.inl rfl)) _ hs;obtain⟨ade,holds,ac6⟩:=fD (P:=P) r hs;simp only[VE]at holds;subst holds;simp only[V]at hs hx;obtain⟨a,cap,rfl,hcap,acU,_,acv,aeq⟩:=hs;obtain⟨xa,aer,rfl,afx,_,_,_,_⟩:=hx;simp only[dw,amB]at aeq;subst aeq;by_cases hye:ys=[]
 ·subst hye;have r':=r.bF ⟨a,0,0⟩ hj;have aeg:=(g.fF ⟨a,0,0⟩ (r.cu hj)).trans (G.dA _ w.heap.size (r'.cu hj));refine⟨.slice a 0 0,w,(g.bF j ⟨a,0,0⟩).push j w.heap.size,?_,aeg,r'.ix hj _ _,?_⟩
  ·have hf:=acL w rfl;simp only[VE]at acB;subst acB;cases a<;>simp[Builtin.append_,amI T.under,sizeOf,typeInfo,hi,Builtin.lenOf]at hf ⊢<;>simp[hf,storeCells]
  ·simp only[V];exact⟨by simp[G.push],a,0,by simp,by simp,λ_=>rfl,by simp,acv,by simp[dw,G.push,G.bF]⟩
 ·have afy:0<ys.length:=ans.2 hye;have adV:0<0+ys.length:=by omega
  have hb':(0+ys.length)*i.bytes<=140737488355328:=by rw[anE];exact hb
  have afM:=growslice_fits adV hb';have acI:¬(ys.length<=0):=by omega
  have aeN:¬(9223372036854775807<(ys.length:Int)):=by omega
  have aeO:¬(281474976710656<Builtin.nextslicecap ys.length 0*i.bytes):=by
   rw[anE]at afM;omega
  let nc:=grownCap w ys.length 0 e
  let row:Array Value:=vals.toArray++Builtin.zeroCells z.cells (nc - ys.length)
  have acO:(Builtin.append_ #[t,t] ty #[.slice a 0 0,.slice xa ys.length aer]).run P w=
   .ok (.slice (some ⟨w.heap.size,0,none⟩) ys.length nc) (w.drew.alloc (.cells row e)):=by
   have hf:=acL w.drew rfl;have hfo:=ac6 w.drew rfl;simp only[amB]at hfo;simp[Builtin.append_,amI T.under,sizeOf,typeInfo,zeroValue,hi,hz,Builtin.lenOf,hye,aeN,aeO,Question.forced,hf,hfo,newRow,grownCap,nc,row]
  have hnc:ys.length<=nc:=grownCap_ge w _ _ _
  let t:TI:=⟨some ⟨w.heap.size,0,none⟩,ys.length,nc⟩
  have r0:de (g.bF j t) w.drew hp:=(r.bF t hj).drew (w.drawn+1);have hz0:g.fz w.heap.size=[]:=r.hZ;have aeg:=(g.fF t (r.cu hj)).trans (G.dA (g.bF j t) w.drew.heap.size ((r.bF t hj).cu hj));have r1:=r0.alloc hj (.cells row e) (.br i.size ys) (by cases ys with|nil=>exact absurd rfl hye|cons=>simp[cX,G.push]) (λ_=>by
   refine⟨vals,(Builtin.zeroCells z.cells (nc - ys.length)).toList,e,VE.mono aeg _ _ _ acB,?_,?_,?_⟩
   ·have:((g.bF j t).push j w.drew.heap.size).cg j=w.heap.size:=by simp[G.push]
    rw[this];refine(fT w.drew _).trans ?_;simp[row]
   ·simpa[G.push,G.bF]using hz0
   ·have hzl:(Builtin.zeroCells z.cells (nc - ys.length)).toList.length=(nc - ys.length)*i.size:=by
     rw[<-hzs];simp[Builtin.zeroCells]
    refine⟨by simp[G.push,G.bF,t],by simp[G.push,G.bF,t,hnc],by simp[G.push,G.bF,t],?_⟩;simp only[G.push,G.bF,am0,t,hvl,hzl];rw[<-am6];exact anc _ (by omega))
  refine⟨_,_,_,acO,aeg,r1,?_⟩;simp only[V];exact⟨by simp[G.push],_,nc,rfl,⟨hnc,hm⟩,by simp,λ_=>by simp[G.push],by simp,by simp[dw,G.push,G.bF,t]⟩
def ep.mO{t e:TypeId}{x y:Operand}{sz sz0 bytes:Nat}{tok:iA}{ys:amx AV}(j:Nm)(hj:hp j=none)(hF:¬F j)(ho:o.op= .call {callee:=.builtin .append,args:=#[x,y],argTypes:=#[t,t]})
 (T:lP P t e sz bytes) (hx:bH ge tm x= .sl sz0 .eD []) (hy:bH ge tm y= .sl sz tok ys)
 (hb:ys.length*bytes<=140737488355328) (hm:ys.length<=4611686018427387904)
 (hk:K (.ms j sz ys.length) (cE hp j (.br sz ys))):ep P ge F o tm hp K:=by
 refine .value λg fr w act f r kk v=>?_
 have h1:=v x (by simp[ho,Op.operands,Call.operands]);have h2:=v y (by simp[ho,Op.operands,Call.operands]);rw[hx]at h1;rw[hy]at h2;have hfr:=dy f hF;obtain⟨u,w',g',e1,e2,e3,e4⟩:=r.rel.mO (ty:=o.type) (j:=j) T (bX hj hfr) h1 h2 hb hm;rw[bp]at e3;exact⟨u,w',g',_,_,by simp[execOp,ho,resolve,invoke,builtin,e1],e2,⟨e3,r.cw.cE hfr⟩,e4,hk⟩
def Ev.K6{t e:TypeId}{x:Operand}{sz n:Nat}{j:Nm}(ho:o.op= .call {callee:=.builtin .len,args:=#[x],argTypes:=#[t]})
 (hu:P.underlying t=some (.slice e)) (hx:bH ge tm x= .ms j sz n):Ev P ge o tm S (.int .i64 n):=by
 refine .still (λg w act _ _ r kk v=>?_);have h1:=v x (by simp[ho,Op.operands,Call.operands]);rw[hx]at h1;simp only[V]at h1 |-;obtain⟨_,a,cap,e1,_⟩:=h1;exact⟨_,by simp[execOp,ho,resolve,invoke,builtin,Builtin.len_,e1,goInt,amI hu],rfl⟩
def de.B6{g:G}{w:World}(r:de g w hp){t:TypeId}{agg:amz}{n:Nat}(ha:fM P t=some agg)(hn:cQ P t=some n)
 {j:Nm} {i off sz:Nat} {xs:amx AV} {z:AV} (hj:hp j=some (.br sz xs)) (hz:xs[i]?=some z) (hs:z.cells.all AV.dV=true) {y:AV} (hy:Ab.cut agg n z.cells off=some y):
 ∃v,(loadVar t ⟨g.cg j,i*sz+off,none⟩).run P w= .ok v w/\V g y v:=by
 obtain⟨vals,rest,elem,hve,hb,_⟩:=r.eP j _ hj (by intro e;subst e;simp at hz);obtain⟨u,k1,k2,k3,k4⟩:=VE.get _ _ hve _ _ hz;refine iB (P:=P) (o:=i*sz) ha hn hb (V.cells k1 hs) ?_ hy;refine k4.trans ?_;simp only;exact ee (an4 _ _) _
def Ev.En{t:TypeId}{x:Operand}{j:Nm}{i off m sz n:Nat}{ag:amz}{xs:amx AV}{y z:AV}(ho:o.op= .load t x)(hx:bH ge tm x= .ptr j m)(hm:m=i*sz+off)
 (ha:fM P t=some ag) (hn:cQ P t=some n) (hz:xs[i]?=some z) (hs:z.cells.all AV.dV=true) (hy:cut ag n z.cells off=some y):
 Ev P ge o tm (λhq=>hq j=some (.br sz xs)) y:=by
 refine .still (λg w a hq hj r k v=>?_);have hv:=v x (by simp[ho,Op.operands]);rw[hx]at hv;simp only[V]at hv;subst hm;obtain⟨u,h1,h2⟩:=r.B6 ha hn hj hz hs hy;exact⟨u,by simp[execOp,ho,Instr.loadAt,hv.2,Instr.sureAddr,h1],h2⟩
theorem VE.eH{g:G}{sz off n:Nat}{vs:amx Value}{z':AV}(hn:vs.length=n)(ho:off+n<=sz):(xs:amx AV)->(vals:amx Value)->VE g sz xs vals->(i:Nat)->{z:AV}->xs[i]?=some z->
 (∀u,V g z u->u.cells.size=sz->(∀c∈u.cells.toList,c.oneCell'=true)->∃u',V g z' u'/\u'.cells.toList=u.cells.toList.take off++vs++u.cells.toList.drop (off+n)/\∀c∈u'.cells.toList,c.oneCell'=true)->
 VE g sz (xs.set i z') (vals.take (i*sz+off)++vs++vals.drop (i*sz+off+n))
 | [],_,_,i,z,hz,_=>by simp at hz
 |x::xs,vals,e,0,z,hz,hk=>by
  simp only[VE]at e;obtain⟨u,rest,rfl,h0,h1,h2⟩:=e;simp at hz;subst hz;obtain⟨u',k1,k2,k3⟩:=hk u h1 h0.1 h0.2;simp only[List.set_cons_zero,VE];have hl:u.cells.toList.length=sz:=by simpa using h0.1
  refine⟨u',rest,?_,⟨?_,k3⟩,k1,h2⟩
  ·rw[k2,Nat.zero_mul,anE,aoS (by omega),aon (by omega)];simp
  ·have:=anB List.length k2;simp only[amO,ant,anR,hl,hn,anJ]at this;omega
 |x::xs,vals,e,i+1,z,hz,hk=>by
  simp only[VE]at e;obtain⟨u,rest,rfl,h0,h1,h2⟩:=e;have ih:=VE.eH hn ho xs rest h2 i (by simpa using hz) hk;simp only[List.set_cons_succ,VE];have hl:u.cells.toList.length=sz:=by simpa using h0.1
  refine⟨u,_,?_,h0,h1,ih⟩;have e1:(i+1)*sz+off=u.cells.toList.length+(i*sz+off):=by rw[hl,am6];omega
  have e2:(i+1)*sz+off+n=u.cells.toList.length+(i*sz+off+n):=by rw[hl,am6];omega
  rw[e2,e1,List.take_append,an3];simp[aoR,aoi]
def de.Aw{g:G}{w:World}(r:de g w hp){t:TypeId}{n:Nat}(hn:cQ P t=some n)
 {j:Nm} {i off sz:Nat} {xs:amx AV} {z z':AV} (hj:hp j=some (.br sz xs)) (hz:xs[i]?=some z) {x:AV} {v:Value} (hx:V g x v) (hs:x.cells.all AV.dV=true)
 (hl:x.cells.length=n) (hle:off+n<=sz)
 (hz':(∃cs,z= .agg cs/\z'= .agg (Ab.eH cs off x.cells))\/(z'=x/\off=0/\n=sz)):
 ∃w',(storeVar t ⟨g.cg j,i*sz+off,none⟩ v).run P w= .ok () w'/\de g w' (cE hp j (.br sz (xs.set i z'))):=by
 have hne:xs≠ []:=by intro e;subst e;simp at hz
 obtain⟨vals,rest,elem,hve,hb,hfz,htl⟩:=r.eP j _ hj hne;have hxc:=hx.cells hs;have hlen:=VL.length _ _ hxc;have hlv:=VE.length _ _ hve;have hi:=fC hz;have acI:i*sz+off+n<=vals.length:=by
  rw[hlv];have:(i+1)*sz<=xs.length*sz:=anc _ hi;rw[am6]at this;omega
 have acs:cX g j (.br sz xs)=some (g.cg j):=by cases xs with|nil=>exact absurd rfl hne|cons=>rfl
 have hown':cX g j (.br sz (xs.set i z'))=some (g.cg j):=by
  cases xs with
  |nil=>exact absurd rfl hne
  |cons a xs=>cases i<;>rfl
 have acO:=aok (P:=P) (g.cg j) (i*sz+off) elem v.cells.toList 0 _ w hb (by simp at hlen |-;omega) (VL.dV _ _ hxc hs);have aeI:(storeVar t ⟨g.cg j,i*sz+off,none⟩ v).run P w=(storeCells ⟨g.cg j,i*sz+off,none⟩ v.cells.toList).run P w:=by
  simp only[storeVar,amM,dt hn,amN];rw[amL (by simp at hlen |-;omega)]
 have aen:v.cells.toList.length=n:=by rw[hlen,hl]
 have hsp:=VE.eH (z':=z') aen hle xs vals hve i hz (λu hu hsz afj=>by
  rcases hz' with⟨cs,rfl,rfl⟩|⟨rfl,rfl,rfl⟩
  ·simp only[V]at hu;obtain⟨br,rfl,hcs⟩:=hu;refine⟨.agg (br.toList.take off++v.cells.toList++br.toList.drop (off+n)).toArray,?_,by simp[Value.cells],?_⟩
   ·simp only[V];refine⟨_,rfl,?_⟩;simp only[Ab.eH,hl];exact VL.append _ _ (VL.append _ _ (VL.take off _ _ hcs) _ _ hxc) _ _ (VL.drop _ _ _ hcs)
   ·intro c hc;simp only[Value.cells,amZ]at hc;rcases hc with(hc|hc)|hc
    ·exact afj c (by simp only[Value.cells];exact anX hc)
    ·exact VL.dV _ _ hxc hs c hc
    ·exact afj c (by simp only[Value.cells];exact aob hc)
  ·refine⟨v,hx,?_,VL.dV _ _ hxc hs⟩;have:u.cells.toList.length=n:=by simpa using hsz
   simp[aoi,this])
 refine⟨_,aeI.trans acO,?_⟩;refine r.set hj (o':=.br sz (xs.set i z')) (hown'.trans acs.symm) (λk hk=>aol _ _ _ _ (λe=>hk (by rw[acs,e]))) (by simp[World.setRow]) rfl rfl rfl ?_ ?_
 ·intro b hb' hne';rw[acs]at hb';simp at hb';subst hb';exact absurd hfz hne'
 ·intro _;have aeh:=VE.length _ _ hsp;rw[aoG,<-hlv]at aeh;refine⟨_,rest,elem,hsp,?_,hfz,by rw[aoG,aeh];exact htl⟩;rw[aom w _ _ _ elem _ hb];have e1:(vals++rest).take (i*sz+off)=vals.take (i*sz+off):=aoS (by omega);have e2:(vals++rest).drop (i*sz+off+v.cells.toList.length)=vals.drop (i*sz+off+n)++rest:=by
   rw[aen,aon (by omega)]
  simp only[anr,e1,e2];simp
def ep.B7{t:TypeId}{x y:Operand}{j:Nm}{i off m n sz:Nat}{xs:amx AV}{z z':AV}(ho:o.op= .store t x y)(hx:bH ge tm x= .ptr j m)(hm:m=i*sz+off)(hj:hp j=some (.br sz xs))(hz:xs[i]?=some z)
 (hn:cQ P t=some n) (hs:(bH ge tm y).cells.all AV.dV=true) (hl:(bH ge tm y).cells.length=n) (hle:off+n<=sz)
 (hz':(∃cs,z= .agg cs/\z'= .agg (eH cs off (bH ge tm y).cells))\/(z'=bH ge tm y/\off=0/\n=sz))
 {xs':amx AV} (dW:bC (xs.set i z') xs') (hk:K (.bR []) (cE hp j (.br sz xs'))):ep P ge F o tm hp K:=by
 refine .skip λg fr w a f r k v=>?_
 have hv:=v x (by simp[ho,Op.operands]);rw[hx]at hv;simp only[V]at hv;subst hm;obtain⟨w',h1,h2⟩:=r.rel.Aw hn (aH hj) hz (v y (by simp[ho,Op.operands])) hs hl hle hz';have h3:de g w' (cE (bz hp fr) j (.br sz xs')):=by
  have hne:xs≠ []:=by intro e;subst e;simp at hz
  have hl1:=dW.length;have hn':xs.set i z'≠ []:=by intro e;have:=anB List.length e;simp at this;exact hne this
  have aei:dH g w' j (.br sz xs'):=λ_=>by
   obtain⟨vs,rest,elem,q1,q2⟩:=h2.eP j _ (aZ _ _ _) hn';exact⟨vs,rest,elem,VE.sub dW _ _ q1,by rw[<-hl1];exact q2⟩
  have acs:cX g j (.br sz xs')=cX g j (.br sz (xs.set i z')):=by
   cases h4:xs' with
   |nil=>rw[h4]at hl1;exact absurd (anu (by simpa using hl1)) hn'
   |cons a b=>
    cases h5:xs.set i z' with
    |nil=>exact absurd h5 hn'
    |cons=>rfl
  have:=h2.set (o':=.br sz xs') (w':=w') (aZ _ _ _) acs (λ_ _=>rfl) rfl rfl rfl rfl (λb hb hf=>h2.fz b hf) aei;have e:cE (cE (bz hp fr) j (.br sz (xs.set i z'))) j (.br sz xs')=cE (bz hp fr) j (.br sz xs'):=by
   funext q;simp only[cE];split<;>rfl
  rw[e]at this;exact this
 rw[bp]at h3;exact⟨w',g,_,by simp[execOp,ho,Instr.storeAt,hv.2,Instr.sureAddr,h1],G.Le.refl g,⟨h3,r.cw.fE hj⟩,hk⟩
def de.mP{g:G}{w:World}(r:de g w hp){j:Nm}{sz:Nat}{xs:amx AV}(hj:hp j=some (.br sz xs)):
 ∃g',G.Le g g'/\g'.dc=g.dc/\de g' w (cE hp j (.br sz []))/\∀v,V g (.ms j sz xs.length) v->V g' (.sl sz .no xs) v:=by
 by_cases hne:xs=[]
 ·subst hne;refine⟨g,G.Le.refl g,rfl,?_,λv hv=>?_⟩
  ·have:cE hp j (.br sz [])=hp:=by
    funext k;by_cases e:k=j
    ·subst e;rw[aZ,hj]
    ·rw[aT _ _ e]
   rw[this];exact r
  ·simp only[V]at hv |-;obtain⟨_,a,cap,e1,e2,e3,_,e5,_⟩:=hv;exact⟨a,cap,e1,e2,e3,λh=>absurd rfl h,e5,trivial⟩
 ·obtain⟨vals,rest,elem,hve,hb,hfz,_⟩:=r.eP j _ hj hne;have acs:cX g j (.br sz xs)=some (g.cg j):=by cases xs with|nil=>exact absurd rfl hne|cons=>rfl
  have hle:G.Le g (g.cr (g.cg j) vals):=G.gL (by rw[hfz];exact anQ);have hown':∀i p,cX (g.cr (g.cg j) vals) i p=cX g i p:=λi p=>by cases p<;>rfl
  have key:∀i p,cE hp j (.br sz []) i=some p->(i=j/\p= .br sz [])\/(i≠j/\hp i=some p):=by
   intro i p h;by_cases e:i=j
   ·subst e;rw[aZ]at h;simp at h;exact .inl ⟨rfl,h.symm⟩
   ·rw[aT _ _ e]at h;exact .inr ⟨e,h⟩
  refine⟨_,hle,rfl,⟨λi=>?_,r.hU,r.size,λb hb'=>?_,λi p hi=>?_,λi p d hi hd=>?_,λi k p q d hi hk hdi hdk=>?_⟩,λv hv=>?_⟩
  ·show g.dc i↔_
   by_cases e:i=j
   ·subst e;rw[aZ,r.dc i,hj];simp
   ·rw[aT _ _ e];exact r.dc i
  ·by_cases e:b=g.cg j
   ·subst e;exact⟨_,elem,(0,0),hb,by simp[G.cr]⟩
   ·have hb2:g.fz b≠ []:=by simpa[G.cr,e]using hb'
    obtain⟨c,e',fr,h,hp'⟩:=r.fz b hb2;exact⟨c,e',fr,h,by simpa[G.cr,e]using hp'⟩
  ·rcases key i p hi with⟨rfl,rfl⟩|⟨hn,hi⟩
   ·intro h;exact absurd rfl h
   ·refine(r.eP i p hi).kR hle (r.cM hi) rfl λb hb'=>⟨rfl,?_⟩
    have hbj:b≠g.cg j:=λe=>by
     subst e;exact hn (r.hX i j p _ _ hi hj hb' acs)
    simp[G.cr,hbj]
  ·rw[hown']at hd;rcases key i p hi with⟨rfl,rfl⟩|⟨_,hi⟩
   ·simp[cX]at hd
   ·exact r.dI i p d hi hd
  ·rw[hown']at hdi hdk;rcases key i p hi with⟨rfl,rfl⟩|⟨_,hi⟩
   ·simp[cX]at hdi
   ·rcases key k q hk with⟨rfl,rfl⟩|⟨_,hk⟩
    ·simp[cX]at hdk
    ·exact r.hX i k p q d hi hk hdi hdk
  ·simp only[V]at hv |-;obtain⟨_,a,cap,e1,e2,e3,e4,e5,_⟩:=hv;have ha:=e4 (ans.2 hne);refine⟨a,cap,e1,e2,e3,λ_=>⟨g.cg j,0,vals,ha,VE.mono hle _ _ _ hve,?_⟩,e5,trivial⟩;simp[G.cr]
def de.uP{g:G}{w:World}(r:de g w hp){j:Nm}{sz:Nat}{xs:amx AV}(hj:hp j=some (.br sz xs))(hne:xs≠ []):
 ∃g',G.Le g g'/\g'.dc=g.dc/\de g' w (cE hp j (.tail sz xs.length))/\∀v,V g (.ms j sz xs.length) v->V g' (.sl sz (.tail j) xs) v:=by
 obtain⟨vals,rest,elem,hve,hb,hfz,ht1,ht2,ht3,ht4⟩:=r.eP j _ hj hne;have hlv:=VE.length _ _ hve;have acs:cX g j (.br sz xs)=some (g.cg j):=by cases xs with|nil=>exact absurd rfl hne|cons=>rfl
 have hle:G.Le g (g.cr (g.cg j) vals):=G.gL (by rw[hfz];exact anQ);have hown':∀i p,cX (g.cr (g.cg j) vals) i p=cX g i p:=λi p=>by cases p<;>rfl
 have aeV:∀d,cX g j (.tail sz xs.length)=some d->d=g.cg j:=λd hd=>by
  simp only[cX]at hd;split at hd
  ·rw[ht3]at hd;simpa using hd.symm
  ·simp at hd
 have key:∀i p,cE hp j (.tail sz xs.length) i=some p->(i=j/\p= .tail sz xs.length)\/(i≠j/\hp i=some p):=by
  intro i p h;by_cases e:i=j
  ·subst e;rw[aZ]at h;simp at h;exact .inl ⟨rfl,h.symm⟩
  ·rw[aT _ _ e]at h;exact .inr ⟨e,h⟩
 refine⟨_,hle,rfl,⟨λi=>?_,r.hU,r.size,λb hb'=>?_,λi p hi=>?_,λi p d hi hd=>?_,λi k p q d hi hk hdi hdk=>?_⟩,λv hv=>?_⟩
 ·show g.dc i↔_
  by_cases e:i=j
  ·subst e;rw[aZ,r.dc i,hj];simp
  ·rw[aT _ _ e];exact r.dc i
 ·by_cases e:b=g.cg j
  ·subst e;exact⟨_,elem,(0,0),hb,by simp[G.cr]⟩
  ·have hb2:g.fz b≠ []:=by simpa[G.cr,e]using hb'
   obtain⟨c,e',fr,h,hp'⟩:=r.fz b hb2;exact⟨c,e',fr,h,by simpa[G.cr,e]using hp'⟩
 ·rcases key i p hi with⟨rfl,rfl⟩|⟨hn,hi⟩
  ·refine⟨ht1,ht2,λ_=>⟨g.cg i,0,ht3,by simp[G.cr,hlv],_,elem,hb,?_⟩⟩;simp only[G.cr,anE,List.size_toArray,amO];exact ht4
  ·refine(r.eP i p hi).kR hle (r.cM hi) rfl λb hb'=>⟨rfl,?_⟩
   have hbj:b≠g.cg j:=λe=>by
    subst e;exact hn (r.hX i j p _ _ hi hj hb' acs)
   simp[G.cr,hbj]
 ·rw[hown']at hd;rcases key i p hi with⟨rfl,rfl⟩|⟨_,hi⟩
  ·have:=aeV d hd;subst this;exact r.dI _ _ _ hj acs
  ·exact r.dI i p d hi hd
 ·rw[hown']at hdi hdk;rcases key i p hi with⟨h1,h2⟩|⟨_,hi2⟩
  ·rcases key k q hk with⟨h3,h4⟩|⟨_,hk2⟩
   ·rw[h1,h3]
   ·rw[h1,h2]at hdi;have:=aeV d hdi;subst this;rw[h1];exact r.hX _ k _ q _ hj hk2 acs hdk
  ·rcases key k q hk with⟨h3,h4⟩|⟨_,hk2⟩
   ·rw[h3,h4]at hdk;have:=aeV d hdk;subst this;rw[h3];exact r.hX i _ p _ _ hi2 hj hdi acs
   ·exact r.hX i k p q d hi2 hk2 hdi hdk
 ·simp only[V]at hv |-;obtain⟨e0,a,cap,e1,e2,e3,e4,e5,e6⟩:=hv;have ha:=e4 (ans.2 hne);refine⟨a,cap,e1,e2,e3,λ_=>⟨g.cg j,0,vals,ha,VE.mono hle _ _ _ hve,?_⟩,e5,e6.mono hle⟩;simp[G.cr]
end
section
variable {P:Program}{ge:GE}{F:Nm->Prop}{S:Hp->Prop}{tm:Tm}{hp:Hp}{K:AV->Hp->Prop}{o:Oper}
def ep.B8{t e:TypeId}{len sz:Nat}{acp:Array (Nat×Operand)}{zs:amx AV}(j:Nm)(hj:hp j=none)(hF:¬F j)(ho:o.op= .buildSlice t len acp)(ht:cF P t=some (e,sz))(adW:ia P e=some zs)
 (hlen:len=acp.size) (hz:zs.length=sz) (afS:len*sz<=16777216) (hl2:len<=16777216) (hok:oy sz (acp.toList.map λq=>(q.1,bH ge tm q.2))=true)
 (hne:(acp.toList.map λq=>bH ge tm q.2)≠ [])
 (hk:K (.ms j sz (acp.toList.map λq=>bH ge tm q.2).length) (cE hp j (.br sz (acp.toList.map λq=>bH ge tm q.2)))):ep P ge F o tm hp K:=by
 refine .value λg fr w a f r k v=>?_
 obtain⟨hu,hsz⟩:=da ht;obtain⟨z,hz1,rfl⟩:=gX adW w;have hrel:=mL (g:=g) (f:=bH ge tm) (h:=a.eval) acp.toList (λq hq=>v q.2 (by simp[ho,Op.operands];exact⟨q.1,by simpa using hq⟩));simp only[oy,amC,am7,amR]at hok;obtain⟨afT,afU⟩:=hok;revert hne hk;generalize hxs:(acp.toList.map λq=>bH ge tm q.2)=xs;intro hne hk;have aee:(acp.toList.map λq=>(q.1,bH ge tm q.2))=(xs.zipIdx 0).map λp=>(p.2,p.1):=by
  apply anZ;intro i;have h1:=anB (λl=>l[i]?) afT
  grind
 have ada:xs.length=len:=by rw[<-hxs,hlen];simp
 have adX:∀x∈xs,x.cells.length=sz/\x.cells.all AV.dV=true:=by
  intro x hx;rw[<-hxs]at hx;obtain⟨q,hq,rfl⟩:=am3.1 hx;have:=afU (q.1,bH ge tm q.2) (am3.2 ⟨q,hq,rfl⟩);simpa using this
 have adv:=pR (sz:=sz) xs 0 [] (by simp) adX;rw[<-aee,ada]at adv;simp only[anP]at adv
 let adf:Array Value:=(Array.range (len*sz)).map (λi=>z.cells[i % z.cells.size]!)
 have aeQ:VL g (List.replicate (len*sz) .any) adf.toList:=by
  have:=uG (g:=g) adf.toList;simpa[adf]using this
 obtain⟨vs,h1,h2⟩:=gY _ _ _ aeQ hrel (by simp) adv;have hve:=lR xs vs.toList h2 adX;have hfr:=dy f hF;have hjn:=bX hj hfr
 let t:TI:=⟨some ⟨w.heap.size,0,none⟩,xs.length,len⟩
 have hle:=(g.fF t (r.rel.cu hjn)).trans (G.dA (g.bF j t) w.heap.size ((r.rel.bF t hjn).cu hjn));have hvl:vs.toList.length=len*sz:=by rw[VE.length _ _ hve,ada]
 have r1:=(r.rel.bF t hjn).alloc hjn (.cells vs e) (.br sz xs) (by cases xs with|nil=>exact absurd rfl hne|cons=>simp[cX,G.push]) (λ_=>⟨vs.toList,[],e,VE.mono hle _ _ _ hve,by simp only[G.push,am0,aox];rw[fT],by simpa[G.push,G.bF]using r.rel.hZ,by simp[G.push,G.bF,t],by simp[G.push,G.bF,t,ada],by simp[G.push,G.bF,t],by simp only[G.push,G.bF,am0,t,hvl];simp⟩);rw[bp]at r1;refine⟨.slice (some ⟨w.heap.size,0,none⟩) len len,w.alloc (.cells vs e),(g.bF j t).push j w.heap.size,_,_,?_,hle,⟨r1,r.cw.cE hfr⟩,?_,hk⟩
 ·have aM:(acp.map λ(i,x)=>(i,a.eval x)).toList=acp.toList.map λq=>(q.1,a.eval q.2):=by simp
  have hns:¬(len*sz>2 ^ 24):=by omega
  simp only[execOp,ho,Instr.buildSlice,amM,amI hu,amN,dt hsz,hns,anj];rw[aM];by_cases h0:len*sz=0
  ·rw[amH h0];have e0:(Array.map (λx=>(#[]:Array Value)[x %(#[]:Array Value).size]!) (Array.range (len*sz)))=adf:=by simp[adf,h0]
   simp only[amM,am2,amN,e0,h1];rfl
  ·rw[amL h0];simp only[amM,hz1,am2,amN];rw[show(Array.map (λx=>z.cells[x % z.cells.size]!) (Array.range (len*sz)))=adf from rfl,h1];rfl
 ·simp only[V];refine⟨.inl rfl,some ⟨w.heap.size,0,none⟩,len,by rw[ada],by omega,by simp,λ_=>by simp[G.push],by simp,by simp[dw,G.push,G.bF,t,ada]⟩
end
section
variable {P:Program}{ge:GE}{F:Nm->Prop}{S:Hp->Prop}{tm:Tm}{hp:Hp}{K:AV->Hp->Prop}{o:Oper}
def th{t a b:TypeId}{ms:_}{v u:Value}{w:World}(hu:P.underlying t=some (.interface ms))(hne:a≠b):(Op.equal t (.iface a v) (.iface b u)).run P w= .ok false w:=by
 show(Op.equalIn (9999+1) t (.iface a v) (.iface b u)).run P w=_
 rw[Op.equalIn];simp only[amM,amI hu,amN];simp[hne]
def uQ{a:TypeId}{c d:amz}{w:World}{n:Nat}(hb:P.underlying a=some .bool):(Op.equalIn (n+1) a (.bool c) (.bool d)).run P w= .ok (c==d) w:=by
 rw[Op.equalIn];simp only[amM,amI hb,amN];rfl
def tj{t a:TypeId}{ms:_}{c d:amz}{it:TypeInfo}{w:World}(hu:P.underlying t=some (.interface ms))(hi:P.info? a=some it)(hc:it.comparable=true)(hb:P.underlying a=some .bool):
 (Op.equal t (.iface a (.bool c)) (.iface a (.bool d))).run P w= .ok (c==d) w:=by
 show(Op.equalIn ((9998+1)+1) t _ _).run P w=_
 have h:=uQ (P:=P) (a:=a) (c:=c) (d:=d) (w:=w) (n:=9998) hb;generalize hn:9998+1=n at*;rw[Op.equalIn];simp only[amM,amI hu,amN];have ht:(typeInfo a).run P w= .ok it w:=by simp[typeInfo,hi]
 simp[ht,hc,h]
def Ev.Eo{t t':TypeId}{ms:_}{x y:Operand}{a b:TypeId}{v u:AV}(ho:o.op= .binOp .eql t x y t')(hu:P.underlying t=some (.interface ms))(hx:bH ge tm x= .iface a v)(hy:bH ge tm y= .iface b u)(hne:a≠b):
 Ev P ge o tm S (.bool false):=by
 refine .still (λg w act _ _ r kk vv=>?_);have h1:=vv x (by simp[ho,Op.operands]);have h2:=vv y (by simp[ho,Op.operands]);rw[hx]at h1;rw[hy]at h2;simp only[V]at h1 h2;obtain⟨v',h1,_⟩:=h1;obtain⟨u',h2,_⟩:=h2;refine⟨.bool false,?_,by simp only[V]⟩;have:=th (P:=P) (w:=w) (v:=v') (u:=u') hu hne;simp[execOp,ho,h1,h2,eqGuard,binOp,this]
def Ev.Ep{t t':TypeId}{ms:_}{x y:Operand}{a:TypeId}{c d:amz}{it:TypeInfo}(ho:o.op= .binOp .eql t x y t')(hu:P.underlying t=some (.interface ms))(hx:bH ge tm x= .iface a (.bool c))(hy:bH ge tm y= .iface a (.bool d))
 (hi:P.info? a=some it) (hc:it.comparable=true) (hb:P.underlying a=some .bool):Ev P ge o tm S (.bool (c==d)):=by
 refine .still (λg w act _ _ r kk vv=>?_);have h1:=vv x (by simp[ho,Op.operands]);have h2:=vv y (by simp[ho,Op.operands]);rw[hx]at h1;rw[hy]at h2;simp only[V]at h1 h2;obtain⟨v',h1,rfl⟩:=h1;obtain⟨u',h2,rfl⟩:=h2;refine⟨.bool (c==d),?_,by simp only[V]⟩;have:=tj (P:=P) (w:=w) (c:=c) (d:=d) hu hi hc hb;simp[execOp,ho,h1,h2,eqGuard,binOp,this]
def Ev.Er{x:Operand}{s t:TypeId}{d:TypeDesc}{v:AV}(ho:o.op= .typeAssert x s t false)(hu:P.underlying t=some d)(hd:(d matches .interface _)=false)(hx:bH ge tm x= .iface t v):Ev P ge o tm S v:=by
 refine .still (λg w act _ _ r kk vv=>?_);have h1:=vv x (by simp[ho,Op.operands]);rw[hx]at h1;simp only[V]at h1;obtain⟨v',h1,h2⟩:=h1;refine⟨v',?_,h2⟩;simp only[execOp,ho,Instr.typeAssert,amM,amI hu,amN,h1];cases d<;>simp_all
def ep.makeMap{t:TypeId}(j:Nm)(ho:o.op= .makeMap t none)(hj:hp j=none)(hF:¬F j)(hk:K (.map j) (cE hp j (.map []))):ep P ge F o tm hp K:=by
 refine .value λg fr w a f r k v=>?_
 have hfr:=dy f hF;have hjn:=bX hj hfr;refine⟨.map (some w.heap.size),w.alloc (.map #[] 0),g.push j w.heap.size,_,_,?_,G.dA g _ (r.rel.cu hjn),⟨bp▸r.rel.alloc hjn _ _ (by simp[cX,G.push]) ⟨#[],0,by simp[cv],by simp only[G.push,am0];exact fT _ _,by simpa[G.push]using r.rel.hZ⟩,r.cw.cE hfr⟩,?_,hk⟩
 ·simp[execOp,ho,Instr.makeMap,run_newObj]
 ·simp[V,G.push]
def eB:amx (AV×AV)->amw->amy (amy AV)
 | [],_=>some none
 |(.an k,v)::r,s=>cond (s.data.toList==k.data.toList) (some (some v)) (eB r s)
 |_::_,_=>none
def hC:amx (AV×AV)->amw->AV->amy (amx (AV×AV))
 | [],s,v=>some [(.an s,v)]
 |(.an k,x)::r,s,v=>cond (s.data.toList==k.data.toList) (some ((.an k,v)::r)) ((hC r s v).map ((.an k,x):: ·))
 |_::_,_,_=>none
def K7(a b:amw):(a==b)=(a.data.toList==b.data.toList):=by
 grind [beq_toListBytes,ByteArray.toList_eq]
def pX{g:G}{s:amw}:(es:amx (AV×AV))->(acz:amx MapEntry)->cv g es acz->(i:Nat)->{r:amy AV}->eB es s=some r->
 ∃q,Instr.findNow .string (.string s) acz i=some q/\(match r with|none=>q=none|some v=>∃n u,q=some (n,u)/\V g v u)
 | [],acz,e,i,r,h=>by
  simp only[cv]at e;subst e;simp only[eB,amT]at h;subst h;exact⟨none,rfl,rfl⟩
 |(.an k,v)::es,acz,e,i,r,h=>by
  simp only[cv,V]at e;obtain⟨x,rest,rfl,hk,hv,he⟩:=e;simp only[eB]at h;simp only[Instr.findNow,hk,Instr.sameNow,K7];cases hb:(s.data.toList==k.data.toList)with
  |true=>
   rw[hb]at h;simp only[ane,amT]at h;subst h;exact⟨_,rfl,i,x.val,rfl,hv⟩
  |false=>
   rw[hb]at h;exact pX es rest he (i+1) h
 |(.bool _,_)::_,_,_,_,_,h=>by simp[eB]at h
 |(.int _ _,_)::_,_,_,_,_,h=>by simp[eB]at h
 |(.dY,_)::_,_,_,_,_,h=>by simp[eB]at h
 |(.ptr _ _,_)::_,_,_,_,_,h=>by simp[eB]at h
 |(.aQ _ _,_)::_,_,_,_,_,h=>by simp[eB]at h
 |(.sl _ _ _,_)::_,_,_,_,_,h=>by simp[eB]at h
 |(.ms _ _ _,_)::_,_,_,_,_,h=>by simp[eB]at h
 |(.sub _ _ _ _ _,_)::_,_,_,_,_,h=>by simp[eB]at h
 |(.dq,_)::_,_,_,_,_,h=>by simp[eB]at h
 |(.map _,_)::_,_,_,_,_,h=>by simp[eB]at h
 |(.fn _ _ _,_)::_,_,_,_,_,h=>by simp[eB]at h
 |(.cy,_)::_,_,_,_,_,h=>by simp[eB]at h
 |(.iface _ _,_)::_,_,_,_,_,h=>by simp[eB]at h
 |(.nilIface,_)::_,_,_,_,_,h=>by simp[eB]at h
 |(.agg _,_)::_,_,_,_,_,h=>by simp[eB]at h
 |(.bR _,_)::_,_,_,_,_,h=>by simp[eB]at h
 |(.any,_)::_,_,_,_,_,h=>by simp[eB]at h
def lW{key:TypeId}{b:amz}{n:Nat}{s:amw}{w:World}(hk:P.underlying key=some .string):(Instr.checkKey b (n+1) key (.string s)).run P w= .ok () w:=by
 rw[Instr.checkKey];simp only[amM,amI hk,amN];rfl
def Ax(ok:amz)(v:AV)(b:amz):AV:=match ok with
 |true=>.bR [v,.bool b]
 |false=>v
def Ev.Es{t key elem:TypeId}{x y:Operand}{ok:amz}{j:Nm}{es:amx (AV×AV)}{s:amw}{b:amz}{v:AV}(ho:o.op= .lookup t x y ok)(ht:P.underlying t=some (.map key elem))(hk:P.underlying key=some .string)
 (hx:bH ge tm x= .map j) (hy:bH ge tm y= .an s) (hf:eB es s=some (cond b (some v) none)) (hz:b=false->∃it z,P.info? elem=some it/\it.zero=some z/\v=ow z):
 Ev P ge o tm (λhq=>hq j=some (.map es)) (Ax ok v b):=by
 refine .still (λg w act hq hj r kk vv=>?_);have h1:=vv x (by simp[ho,Op.operands]);have h2:=vv y (by simp[ho,Op.operands]);rw[hx]at h1;rw[hy]at h2;simp only[V]at h1 h2;obtain⟨acz,acC,e1,e2,_⟩:=r.eP j _ hj;obtain⟨q,q1,q2⟩:=pX es acz.toList e1 0 hf;have acP:(getObj (g.cg j)).run P w= .ok (.map acz acC) w:=aoH e2;have afk:=lW (P:=P) (key:=key) (b:=acz.isEmpty) (n:=9999) (s:=s) (w:=w) hk;have afG:(Instr.findKey key (.string s) acz.toList).run P w= .ok q w:=by
  simp only[Instr.findKey,amM,amI hk,amN,q1];rfl
 cases b with
 |true=>
  simp only[ane]at q2;obtain⟨n,u,rfl,hv⟩:=q2;refine⟨if ok then .tuple #[u,.bool true]else u,?_,?_⟩
  ·simp only[execOp,ho,h1.2,h2,Instr.lookup,amM,amI ht,amN,acP,am2,afk,afG]
  ·cases ok with
   |true=>simp only[Ax,V,am0];exact⟨_,rfl,by simp only[VL];exact⟨_,_,rfl,hv,_,_,rfl,by simp only[V],rfl⟩⟩
   |false=>simpa[Ax]using hv
 |false=>
  simp only[ana]at q2;subst q2;obtain⟨it,z,i1,i2,rfl⟩:=hz rfl;have adW:(zeroValue elem).run P w= .ok z w:=by simp[zeroValue,typeInfo,i1,i2]
  refine⟨if ok then .tuple #[z,.bool false]else z,?_,?_⟩
  ·simp only[execOp,ho,h1.2,h2,Instr.lookup,amM,amI ht,amN,acP,am2,afk,afG,adW]
  ·cases ok with
   |true=>simp only[Ax,V,am0];exact⟨_,rfl,by simp only[VL];exact⟨_,_,rfl,nO g z,_,_,rfl,by simp only[V],rfl⟩⟩
   |false=>simpa[Ax]using nO g z
def pY{g:G}{s:amw}{v:AV}{u:Value}(hu:V g v u):(es:amx (AV×AV))->(acz:amx MapEntry)->cv g es acz->{es':amx (AV×AV)}->hC es s v=some es'->(i:Nat)->
 (∃n e,Instr.findNow .string (.string s) acz i=some (some (n+i,e.val))/\acz[n]?=some e/\e.key= .string s/\cv g es' (acz.modify n λe=>{e with key:=.string s,val:=u}))\/
 (Instr.findNow .string (.string s) acz i=some none/\∀c,cv g es' (acz++[{key:=.string s,val:=u,born:=c}]))
 | [],acz,e,es',h,i=>by
  simp only[cv]at e;subst e;simp only[hC,amT]at h;subst h;exact .inr ⟨rfl,λc=>by simp only[anP,cv,V];exact⟨_,_,rfl,rfl,hu,rfl⟩⟩
 |(.an k,x)::es,acz,e,es',h,i=>by
  simp only[cv,V]at e;obtain⟨y,rest,rfl,hk,hv,he⟩:=e;simp only[hC]at h;simp only[Instr.findNow,hk,Instr.sameNow,K7];cases hb:(s.data.toList==k.data.toList)with
  |true=>
   rw[hb]at h;simp only[ane,amT]at h;subst h;have hsk:s=k:=by
    have:=eq_of_beq hb;cases s;cases k;simp only[aos]at this;rw[this]
   refine .inl ⟨0,y,by simp,rfl,by rw[hk,hsk],?_⟩;simp only[List.modify_zero_cons,cv,V];exact⟨_,_,rfl,by rw[hsk],hu,he⟩
  |false=>
   rw[hb]at h;simp only[ana,aoD]at h;obtain⟨es2,h,rfl⟩:=h;rcases pY hu es rest he h (i+1)with⟨n,e0,h1,h2,h3,h4⟩|⟨h1,h2⟩
   ·refine .inl ⟨n+1,e0,by simp only[h1];congr 3;omega,by simpa using h2,h3,?_⟩;simp only[List.modify_succ_cons,cv,V];exact⟨_,_,rfl,hk,hv,h4⟩
   ·refine .inr ⟨by simp only[h1],λc=>?_⟩;simp only[anO,cv,V];exact⟨_,_,rfl,hk,hv,h2 c⟩
 |(.bool _,_)::_,_,_,_,h,_=>by simp[hC]at h
 |(.int _ _,_)::_,_,_,_,h,_=>by simp[hC]at h
 |(.dY,_)::_,_,_,_,h,_=>by simp[hC]at h
 |(.ptr _ _,_)::_,_,_,_,h,_=>by simp[hC]at h
 |(.aQ _ _,_)::_,_,_,_,h,_=>by simp[hC]at h
 |(.sl _ _ _,_)::_,_,_,_,h,_=>by simp[hC]at h
 |(.ms _ _ _,_)::_,_,_,_,h,_=>by simp[hC]at h
 |(.sub _ _ _ _ _,_)::_,_,_,_,h,_=>by simp[hC]at h
 |(.dq,_)::_,_,_,_,h,_=>by simp[hC]at h
 |(.map _,_)::_,_,_,_,h,_=>by simp[hC]at h
 |(.fn _ _ _,_)::_,_,_,_,h,_=>by simp[hC]at h
 |(.cy,_)::_,_,_,_,h,_=>by simp[hC]at h
 |(.iface _ _,_)::_,_,_,_,h,_=>by simp[hC]at h
 |(.nilIface,_)::_,_,_,_,h,_=>by simp[hC]at h
 |(.agg _,_)::_,_,_,_,h,_=>by simp[hC]at h
 |(.bR _,_)::_,_,_,_,h,_=>by simp[hC]at h
 |(.any,_)::_,_,_,_,h,_=>by simp[hC]at h
def ep.mapUpdate{t key elem:TypeId}{x y z:Operand}{j:Nm}{es es':amx (AV×AV)}{s:amw}(ho:o.op= .mapUpdate t x y z\/o.op= .insert t x y z)(ht:P.underlying t=some (.map key elem))(hk:P.underlying key=some .string)
 (hx:bH ge tm x= .map j) (hy:bH ge tm y= .an s) (hj:hp j=some (.map es)) (hu:hC es s (bH ge tm z)=some es') (hK:K (.bR []) (cE hp j (.map es'))):ep P ge F o tm hp K:=by
 refine .skip λg fr w a f r k v=>?_
 have adM:x∈o.op.operands/\y∈o.op.operands/\z∈o.op.operands:=by rcases ho with ho|ho<;>simp[ho,Op.operands]
 have h1:=v x adM.1;have h2:=v y adM.2.1;have h3:=v z adM.2.2;rw[hx]at h1;rw[hy]at h2;simp only[V]at h1 h2;obtain⟨acz,acC,e1,e2,e3⟩:=r.rel.eP j _ (aH hj);have acP:=aoH (P:=P) e2;have afk:=lW (P:=P) (key:=key) (b:=false) (n:=9999) (s:=s) (w:=w) hk;have ef:∀adw adh,cv g es' adw.toList->(Instr.mapUpdate t (.map (some (g.cg j))) (.string s) (a.eval z)).run P w= .ok () {w with heap:=w.heap.setIfInBounds (g.cg j) (.map adw adh)}->
  ∃w' g' hp',(execOp a.eval o).run P w= .ok .skip w'/\G.Le g g'/\eW g' w' hp' fr/\K (.bR []) hp':=by
  intro adw adh he acO;have hlt:g.cg j<w.heap.size:=(anD.1 e2).1;have aei:(w.heap.setIfInBounds (g.cg j) (.map adw adh))[g.cg j]?=some (.map adw adh):=by
   rw[aoZ];simp[hlt]
  have r2:=r.rel.set (w':={w with heap:=w.heap.setIfInBounds (g.cg j) (.map adw adh)}) (aH hj) (o':=.map es') rfl (λk hk=>by
   have hne:g.cg j≠k:=λe=>hk (by simp[cX,e])
   simp only[aoZ,hne,anj]) (by simp) rfl rfl rfl (λb hb hne=>by
   simp only[cX,amT]at hb;subst hb;exact absurd e3 hne) ⟨adw,adh,he,aei,e3⟩
  rw[bp]at r2;refine⟨_,g,_,?_,G.Le.refl g,⟨r2,r.cw.fE hj⟩,hK⟩;rcases ho with ho|ho<;>simp[execOp,ho,h1.2,h2,acO]
 have run:∀q,(Instr.findKey key (.string s) acz.toList).run P w= .ok q w->∀f w',(match q with
  |some (i,_)=>(do let key<-Instr.keyThatStays (((acz[i]?).map λ(m:MapEntry)=>m.key).getD (.string s)) (.string s);setObj (g.cg j) (.map (acz.modify i λ(e:MapEntry)=>{e with key,val:=a.eval z}) acC):Sem Unit)
  |none=>setObj (g.cg j) (.map (acz.push {key:=.string s,val:=a.eval z,born:=acC}) (acC+1))).run P w= .ok f w'->
  (Instr.mapUpdate t (.map (some (g.cg j))) (.string s) (a.eval z)).run P w= .ok f w':=by
  intro q hq f w' h;simp only[Instr.mapUpdate,amM,amI ht,amN,acP,afk,hq];exact h
 have hfk:∀q,Instr.findNow .string (.string s) acz.toList 0=some q->(Instr.findKey key (.string s) acz.toList).run P w= .ok q w:=by
  intro q hq;simp only[Instr.findKey,amM,amI hk,amN,hq];rfl
 rcases pY h3 es acz.toList e1 hu 0 with⟨n,e,q1,q2,q3,q4⟩|⟨q1,q2⟩
 ·refine ef (acz.modify n λe=>{e with key:=.string s,val:=a.eval z}) acC (by rw[Array.toList_modify];exact q4) (run _ (hfk _ q1) _ _ ?_);have q2:acz[n]?=some e:=by rw[<-aoF];exact q2
  have hst:(Instr.keyThatStays (.string s) (.string s)).run P w= .ok (.string s) w:=by
   have:Instr.sameBits 10000 (.string s) (.string s)=true:=by
    show Instr.sameBits (9999+1) _ _=true
    simp[Instr.sameBits,K7]
   simp[Instr.keyThatStays,this]
  simp only[anr,amM,q2,ang,anV,q3,hst,amN];exact MapKept.run_setObj_map _ e2
 ·refine ef (acz.push {key:=.string s,val:=a.eval z,born:=acC}) (acC+1) (by rw[Array.toList_push];exact q2 acC) (run _ (hfk _ q1) _ _ ?_);exact MapKept.run_setObj_map _ e2
def Ev.B9{t e:TypeId}{x:Operand}{n sz:Nat}{cs xs:amx AV}(ho:o.op= .slice t x none none none)(hu:P.underlying t=some (.array n e))(hsz:cQ P e=some sz)(hx:bH ge tm x= .aQ cs 0)
 (hcs:xs.flatMap AV.cells=cs) (hlen:xs.length=n) (hn:n<=4611686018427387904) (hok:∀y∈xs,y.cells.length=sz/\y.cells.all AV.dV=true):Ev P ge o tm S (.sl sz .no xs):=by
 refine .still (λg w act _ _ r kk v=>?_);have h1:=v x (by simp[ho,Op.operands]);rw[hx]at h1;simp only[V]at h1;obtain⟨b,off,vals,e1,e2,e3⟩:=h1;have hve:=lR xs vals (by rw[hcs];exact e2) hok;refine⟨.slice (some ⟨b,off,none⟩) n n,?_,?_⟩
 ·have hr:=dt (P:=P) hsz w;have ha:Addr.add ⟨b,off,none⟩ (0*sz)=⟨b,off,none⟩:=by simp[am8]
  by_cases h0:n=0<;>simp[execOp,ho,Instr.sliceAt,Instr.sureAddr,amI hu,e1,Instr.sliceBounds,hr,h0,am8]
 ·simp only[V];exact⟨_,_,by rw[hlen],by omega,by simp,λ_=>⟨b,off,vals,rfl,hve,e3⟩,by simp,trivial⟩
def Ev.tk{t e:TypeId}{x y:Operand}{k:IntKind}{i:Int}{sz n len:Nat}{cs:amx AV}(ho:o.op= .indexAddr t x y)
 (hu:P.underlying t=some (.array len e)) (hsz:cQ P e=some sz) (hx:bH ge tm x= .aQ cs n) (hy:bH ge tm y= .int k i) (h0:0<=i) (hi:i<len):Ev P ge o tm S (.aQ cs (n+i.toNat*sz)):=by
 refine .still (λg w act _ _ r kk v=>?_);have h1:=v x (by simp[ho,Op.operands]);have h2:=v y (by simp[ho,Op.operands]);rw[hx]at h1;rw[hy]at h2;simp only[V]at h1 h2 |-;obtain⟨b,off,vals,e1,e2,e3⟩:=h1;exact⟨.pointer (some ⟨b,off+(n+i.toNat*sz),none⟩),by simp[execOp,ho,h2,e1,Instr.indexAt,Instr.sureAddr,asIntOf,amI hu,h0,hi,dt hsz,am8,aoj],b,off,vals,rfl,e2,e3⟩
def Ay{z:Value}(h:z.oneCell'=true):z.cells=#[z]/\ow z=gg z:=by
 cases z<;>simp_all[Value.cells,Value.oneCell',ow]
def ep.Ca{t key elem:TypeId}{x:Operand}{i:Nm}{es:amx (AV×AV)}(j:Nm)(ho:o.op= .range t x)(ht:P.underlying t=some (.map key elem))(hx:bH ge tm x= .map i)(hi:hp i=some (.map es))
 (hj:hp j=none) (hF:¬F j) (hk:K (.ptr j 0) (cE hp j (.sJ i))):ep P ge F o tm hp K:=by
 refine .value λg fr w a f r kk v=>?_
 have h1:=v x (by simp[ho,Op.operands]);rw[hx]at h1;simp only[V]at h1;obtain⟨acz,acC,e1,e2,e3⟩:=r.rel.eP i _ (aH hi);have acP:=aoH (P:=P) e2;have hfr:=dy f hF;have hjn:=bX hj hfr;have hle:=G.dA g (j:=j) w.heap.size (r.rel.cu hjn);refine⟨.pointer (some ⟨w.heap.size,0,none⟩),w.alloc (.mapIter (some (g.cg i)) acC #[] acC),g.push j w.heap.size,_,_,?_,hle,⟨bp▸r.rel.alloc hjn _ _ (by simp[cX,G.push]) ⟨hle.dc i h1.1,acC,acC,?_,by simpa[G.push]using r.rel.hZ⟩,r.cw.cE hfr⟩,?_,hk⟩
 ·simp[execOp,ho,Instr.range,h1.2,amI ht,acP,run_newObj]
 ·simp[V,G.push]
 ·have hij:i≠j:=by rintro rfl;rw[hi]at hj;simp at hj
  simp only[G.push,am0,amL hij];exact fT _ _
def ep.Cb{t:TypeId}{x:Operand}{s:amw}(j:Nm)(ho:o.op= .range t x)(ht:P.underlying t=some .string)(hx:bH ge tm x= .an s)
 (hj:hp j=none) (hF:¬F j) (hk:K (.ptr j 0) (cE hp j (.ot s 0))):ep P ge F o tm hp K:=by
 refine .value λg fr w a f r kk v=>?_
 have h1:=v x (by simp[ho,Op.operands]);rw[hx]at h1;simp only[V]at h1;have hfr:=dy f hF;have hjn:=bX hj hfr;have hle:=G.dA g (j:=j) w.heap.size (r.rel.cu hjn);refine⟨.pointer (some ⟨w.heap.size,0,none⟩),w.alloc (.stringIter s 0),g.push j w.heap.size,_,_,?_,hle,⟨bp▸r.rel.alloc hjn _ _ (by simp[cX,G.push]) ⟨?_,by simpa[G.push]using r.rel.hZ⟩,r.cw.cE hfr⟩,?_,hk⟩
 ·simp[execOp,ho,Instr.range,h1,amI ht,run_newObj]
 ·simp[V,G.push]
 ·simp only[G.push,am0];exact fT _ _
def Ev.Az{x:Operand}{i j:Nm}(ho:o.op= .next x false)(hx:bH ge tm x= .ptr j 0):Ev P ge o tm (λhq=>hq j=some (.sJ i)/\hq i=some (.map [])) (.bR [.bool false]):=by
 refine .still (λg w act hq hs r kk vv=>?_);have h1:=vv x (by simp[ho,Op.operands]);rw[hx]at h1;simp only[V]at h1;obtain⟨_,adT,last,k1,_⟩:=r.eP j _ hs.1;obtain⟨acz,acC,e1,e2,_⟩:=r.eP i _ hs.2;simp only[cv]at e1;have e1:acz=#[]:=Array.toList_eq_nil_iff.1 e1;subst e1;have hg1:(getObj (g.cg j)).run P w= .ok (.mapIter (some (g.cg i)) adT #[] last) w:=by simp only[getObj,Sem.run,k1]
 have hg2:=aoH (P:=P) e2;refine⟨.tuple #[.bool false],?_,by simp only[V];exact⟨_,rfl,by simp only[VL];exact⟨_,_,rfl,by simp only[V],rfl⟩⟩⟩;simp[execOp,ho,Instr.next,h1.2,hg1,hg2,choose,Sem.run,Question.forced]
def Ev.uR{x:Operand}{j:Nm}{s:amw}{pos:Nat}(ho:o.op= .next x true)(hx:bH ge tm x= .ptr j 0)(hp:s.size<=pos):Ev P ge o tm (λhq=>hq j=some (.ot s pos)) (.bR [.bool false]):=by
 refine .still (λg w act hq hs r kk vv=>?_);have h1:=vv x (by simp[ho,Op.operands]);rw[hx]at h1;simp only[V]at h1;obtain⟨k1,_⟩:=r.eP j _ hs;have hg1:(getObj (g.cg j)).run P w= .ok (.stringIter s pos) w:=by simp only[getObj,Sem.run,k1]
 refine⟨.tuple #[.bool false],?_,by simp only[V];exact⟨_,rfl,by simp only[VL];exact⟨_,_,rfl,by simp only[V],rfl⟩⟩⟩;have:¬pos<s.size:=by omega
 simp[execOp,ho,Instr.next,h1.2,hg1,this]
def ep.Et{x:Operand}{j:Nm}{s:amw}{pos:Nat}(ho:o.op= .next x true)(hx:bH ge tm x= .ptr j 0)(hj:hp j=some (.ot s pos))(hlt:pos<s.size)
 (hk:K (.bR [.bool true,.int .i64 pos,.int .i32 (Utf8.decode s pos).1]) (cE hp j (.ot s (pos+(Utf8.decode s pos).2)))):ep P ge F o tm hp K:=by
 refine .value λg fr w a f r kk v=>?_
 have h1:=v x (by simp[ho,Op.operands]);rw[hx]at h1;simp only[V]at h1;obtain⟨k1,k2⟩:=r.rel.eP j _ (aH hj);have hg1:(getObj (g.cg j)).run P w= .ok (.stringIter s pos) w:=by simp only[getObj,Sem.run,k1]
 have hs1:(setObj (g.cg j) (.stringIter s (pos+(Utf8.decode s pos).2))).run P w= .ok () {w with heap:=w.heap.setIfInBounds (g.cg j) (.stringIter s (pos+(Utf8.decode s pos).2))}:=by simp only[setObj,Sem.run,k1]
 have aj8:g.cg j<w.heap.size:=(anD.1 k1).1;have aei:(w.heap.setIfInBounds (g.cg j) (.stringIter s (pos+(Utf8.decode s pos).2)))[g.cg j]?=some (.stringIter s (pos+(Utf8.decode s pos).2)):=by
  grind
 have r2:=r.rel.set (w':={w with heap:=w.heap.setIfInBounds (g.cg j) (.stringIter s (pos+(Utf8.decode s pos).2))}) (aH hj) (o':=.ot s (pos+(Utf8.decode s pos).2)) rfl (λk hk=>by
  have hne:g.cg j≠k:=λe=>hk (by simp[cX,e])
  simp only[aoZ,hne,anj]) (by simp) rfl rfl rfl (λb hb hne=>by
  simp only[cX,amT]at hb;subst hb;exact absurd k2 hne) ⟨aei,k2⟩
 rw[bp]at r2;refine⟨.tuple #[.bool true,goInt pos,.int .i32 (Utf8.decode s pos).1],_,g,_,_,?_,G.Le.refl g,⟨r2,r.cw.fE hj⟩,?_,hk⟩
 ·simp[execOp,ho,Instr.next,h1.2,hg1,hlt,hs1]
 ·simp only[V];exact⟨_,rfl,by simp only[VL,V,goInt];exact⟨_,_,rfl,rfl,_,_,rfl,rfl,_,_,rfl,rfl,rfl⟩⟩
end
section
variable {P:Program}{ge:GE}{F:Nm->Prop}{S:Hp->Prop}{tm:Tm}{hp:Hp}{K:AV->Hp->Prop}{o:Oper}
def de.qI{g:G}{w:World}(r:de g w hp){j k:Nm}{sz i:Nat}{xs:amx AV}(hj:hp j=some (.br sz xs))(hk:hp k=none)(hi:i<=xs.length)
 {a:amy Addr} {cap:Nat} (ha:xs≠ []->a=(g.tl j).a/\cap=(g.tl j).cap) (hcap:i<=cap/\i<=4611686018427387904) (acU:a=none->cap=0) (acv:∀x∈a,x.spot=none):
 ∃g',G.Le g g'/\de g' w (cE (cE hp j (.br sz [])) k (.br sz (xs.take i)))/\V g' (.ms k sz i) (.slice a i cap):=by
 have hne:k≠j:=λe=>by rw[e,hj]at hk;simp at hk
 have r1:=r.bF ⟨a,i,cap⟩ hk;have hnd:=r1.cu hk;have hle:G.Le g ((g.bF k ⟨a,i,cap⟩).push k (g.cg j)):=(g.fF _ (r.cu hk)).trans (G.dA _ _ hnd);generalize hg:(g.bF k ⟨a,i,cap⟩).push k (g.cg j)=g' at*;have aes:g'.tl k=⟨a,i,cap⟩:=by rw[<-hg];simp[G.push,G.bF]
 have htl:∀q,q≠k->g'.tl q=g.tl q:=λq hq=>by rw[<-hg];simp[G.push,G.bF,hq]
 have ad0:g'.cg k=g.cg j:=by rw[<-hg];simp[G.push]
 have aet:∀q,q≠k->g'.cg q=g.cg q:=λq hq=>by rw[<-hg];simp[G.push,G.bF,hq]
 have hfz:g'.fz=g.fz:=by rw[<-hg];rfl
 have ac3:g'.cj=g.cj:=by rw[<-hg];rfl
 have hw0:g'.w0=g.w0:=by rw[<-hg];rfl
 have acN:∀q,g'.dc q↔q=k\/g.dc q:=λq=>by rw[<-hg];simp[G.push,G.bF]
 have key:∀q p,cE (cE hp j (.br sz [])) k (.br sz (xs.take i)) q=some p->(q=k/\p= .br sz (xs.take i))\/(q=j/\p= .br sz [])\/(q≠k/\q≠j/\hp q=some p):=by
  intro q p h;by_cases e:q=k
  ·subst e;rw[aZ]at h;simp at h;exact .inl ⟨rfl,h.symm⟩
  ·rw[aT _ _ e]at h;by_cases e2:q=j
   ·subst e2;rw[aZ]at h;simp at h;exact .inr (.inl ⟨rfl,h.symm⟩)
   ·rw[aT _ _ e2]at h;exact .inr (.inr ⟨e,e2,h⟩)
 have acs:∀q p,hp q=some p->q≠k->cX g' q p=cX g q p:=λq p h hq=>fy p hle (r.cM h) (htl q hq)
 have aeW:∀b,cX g' k (.br sz (xs.take i))=some b->cX g j (.br sz xs)=some b:=by
  intro b hb;cases xs with
  |nil=>simp[cX]at hb
  |cons x xs=>
   cases i with
   |zero=>simp[cX]at hb
   |succ i=>simp only[aow,cX]at hb |-;rw[ad0]at hb;exact hb
 refine⟨g',hle,⟨λq=>?_,by rw[ac3,hw0];exact r.hU,by rw[ac3];exact r.size,λb hb=>by rw[hfz]at hb |-;exact r.fz b hb,?_,?_,?_⟩,?_⟩
 ·rw[acN];by_cases e:q=k
  ·subst e;rw[aZ];simp
  ·rw[aT _ _ e];by_cases e2:q=j
   ·subst e2;rw[aZ];simp[r.cM hj]
   ·rw[aT _ _ e2];simp only[e,false_or];exact r.dc q
 ·intro q p h;rcases key q p h with⟨rfl,rfl⟩|⟨rfl,rfl⟩|⟨h1,h2,h3⟩
  ·intro hn;have hx:xs≠ []:=by intro e;subst e;simp at hn
   obtain⟨vals,rest,elem,o1,o2,o3,o4,o5,o6,o7⟩:=r.eP j _ hj hx;have hvl:=VE.length _ _ o1;obtain⟨ea,ec⟩:=ha hx;refine⟨vals.take (i*sz),vals.drop (i*sz)++rest,elem,VE.mono hle _ _ _ (VE.take i _ _ o1),?_,by rw[ad0,hfz];exact o3,?_⟩
   ·rw[ad0,o2,<-aoy,ao0]
   ·refine⟨by rw[aes];simp;omega,by rw[aes];simp;omega,by rw[aes,ad0];show a=_;rw[ea];exact o6,?_⟩;rw[aes]
    show cap*sz<=_
    rw[ec];simp only[ant,amO,anR];omega
  ·intro hn;exact absurd rfl hn
  ·exact(r.eP q p h3).kR hle (r.cM h3) (htl q h1) λb _=>⟨rfl,by rw[hfz]⟩
 ·intro q p b h hb;rw[ac3];rcases key q p h with⟨rfl,rfl⟩|⟨rfl,rfl⟩|⟨h1,h2,h3⟩
  ·exact r.dI j _ b hj (aeW b hb)
  ·simp[cX]at hb
  ·rw[acs q p h3 h1]at hb;exact r.dI q p b h3 hb
 ·intro q q' p p' b h h' hb hb';rcases key q p h with⟨rfl,rfl⟩|⟨rfl,rfl⟩|⟨h1,h2,h3⟩
  ·rcases key q' p' h' with⟨rfl,rfl⟩|⟨rfl,rfl⟩|⟨h1',h2',h3'⟩
   ·rfl
   ·simp[cX]at hb'
   ·rw[acs q' p' h3' h1']at hb';exact absurd (r.hX j q' _ p' b hj h3' (aeW b hb) hb') (λe=>h2' e.symm)
  ·simp[cX]at hb
  ·rcases key q' p' h' with⟨rfl,rfl⟩|⟨rfl,rfl⟩|⟨h1',h2',h3'⟩
   ·rw[acs q p h3 h1]at hb;exact absurd (r.hX q j p _ b h3 hj hb (aeW b hb')) h2
   ·simp[cX]at hb'
   ·rw[acs q p h3 h1]at hb;rw[acs q' p' h3' h1']at hb';exact r.hX q q' p p' b h3 h3' hb hb'
 ·simp only[V];refine⟨(acN k).2 (.inl rfl),a,cap,rfl,hcap,acU,λh0=>?_,acv,(acN k).2 (.inl rfl),by rw[aes];exact amW _,λ_=>by rw[aes];exact⟨rfl,rfl⟩⟩;have hx:xs≠ []:=by intro e;subst e;simp at hi;omega
  obtain⟨_,_,_,_,_,_,_,_,o6,_⟩:=r.eP j _ hj hx;rw[ad0,(ha hx).1];exact o6
def VE.TZ{g:G}{sz:Nat}:(lo:Nat)->(xs:amx AV)->(vals:amx Value)->VE g sz xs vals->{zs:amx AV}->{ys:amx Value}->VE g sz zs ys->lo+zs.length<=xs.length->
 VE g sz (xs.take lo++zs++xs.drop (lo+zs.length)) (vals.take (lo*sz)++ys++vals.drop (lo*sz+ys.length))
 |lo,xs,vals,e,zs,ys,h,hl=>by
  have hy:=VE.length _ _ h;refine VE.append _ _ (VE.append _ _ (VE.take lo _ _ e) _ _ h) _ _ ?_;have:=VE.drop (lo+zs.length) _ _ e
  grind
def de.to{g:G}{w:World}(r:de g w hp){j:Nm}{sz lo:Nat}{xs zs:amx AV}{ys:amx Value}(hj:hp j=some (.br sz xs))(hne:xs≠ [])
 (hz:VE g sz zs ys) (hl:lo+zs.length<=xs.length):
 ∃w',(storeCells ⟨g.cg j,lo*sz,none⟩ ys).run P w= .ok () w'/\de g w' (cE hp j (.br sz (xs.take lo++zs++xs.drop (lo+zs.length)))):=by
 obtain⟨vals,rest,elem,hve,hb,hfz,htl⟩:=r.eP j _ hj hne;have hlv:=VE.length _ _ hve;have hly:=VE.length _ _ hz;have acI:lo*sz+ys.length<=vals.length:=by
  rw[hlv,hly,<-am6];exact anc _ hl
 have acs:cX g j (.br sz xs)=some (g.cg j):=by cases xs with|nil=>exact absurd rfl hne|cons=>rfl
 have hlen:(xs.take lo++zs++xs.drop (lo+zs.length)).length=xs.length:=by simp;omega
 have hown':cX g j (.br sz (xs.take lo++zs++xs.drop (lo+zs.length)))=some (g.cg j):=by
  cases h:xs.take lo++zs++xs.drop (lo+zs.length)with
  |nil=>rw[h]at hlen;exact absurd (anu hlen.symm) hne
  |cons=>rfl
 have acO:=aok (P:=P) (g.cg j) (lo*sz) elem ys 0 _ w hb (by simp;omega) (VE.dV _ _ hz);refine⟨_,by simpa using acO,?_⟩;refine r.set hj (o':=.br sz (xs.take lo++zs++xs.drop (lo+zs.length))) (hown'.trans acs.symm) (λk hk=>aol _ _ _ _ (λe=>hk (by rw[acs,e]))) (by simp[World.setRow]) rfl rfl rfl ?_ ?_
 ·intro b hb' hne'
  grind
 ·intro _;have hsp:=VE.TZ lo xs vals hve hz hl;have aeh:=VE.length _ _ hsp;rw[hlen,<-hlv]at aeh;refine⟨_,rest,elem,hsp,?_,hfz,by rw[hlen,aeh];exact htl⟩;rw[aom w _ _ _ elem _ hb]
  grind
end
end Go.Ab

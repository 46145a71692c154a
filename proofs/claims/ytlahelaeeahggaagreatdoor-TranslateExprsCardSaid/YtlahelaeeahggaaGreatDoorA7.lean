/- The logic of the walk. -/
import Derived.Test.YtlahelaeeahggaaGreatDoorA6
set_option linter.all false
open Go Go.RowKit
namespace Go.Ab
section
variable {P:Program}{ge:GE}{F:Nm->Prop}{S:Hp->Prop}{tm:Tm}{hp:Hp}{K:AV->Hp->Prop}{o:Oper}
def oF(z:Array Value)(n:Nat):(Builtin.zeroCells z (n+1)).toList=z.toList++(Builtin.zeroCells z n).toList:=by
 apply List.ext_getElem
 ·simp[Builtin.zeroCells,am6,aoh]
 ·intro i h1 h2;have hz:0<z.size:=by
   simp only[Builtin.zeroCells,Array.toList_map,amJ,anJ,Array.size_range]at h1;rcases Nat.eq_zero_or_pos z.size with h|h
   ·rw[h]at h1;simp at h1
   ·exact h
  simp only[Builtin.zeroCells,Array.toList_map,List.getElem_map,Array.getElem_toList,Array.getElem_range];by_cases h:i<z.size
  ·rw[List.getElem_append_left (by simpa using h),Nat.mod_eq_of_lt h];simp[getElem!_pos,h]
  ·rw[List.getElem_append_right (by simpa using h)];simp only[List.getElem_map,Array.getElem_toList,Array.getElem_range,anJ];rw[Nat.mod_eq_sub_mod (by omega)]
def VE.Ka{g:G}{sz:Nat}{z:Array Value}(hs:z.size=sz)(h1:∀v∈z.toList,v.oneCell'=true){x:AV}{v:Value}(hv:V g x v)(hc:v.cells=z):(n:Nat)->VE g sz (List.replicate n x) (Builtin.zeroCells z n).toList
 |0=>by simp[VE,Builtin.zeroCells]
 |n+1=>by
  rw[aoU,oF];simp only[VE];exact⟨v,_,by rw[hc],⟨by rw[hc];exact hs,by rw[hc];exact h1⟩,hv,VE.Ka hs h1 hv hc n⟩
def oG{lo hi:amy Operand}{l h:amy Int}{len cap L H:Nat}{a:Act}{w:World}
 (b1:(l=none/\lo.map a.eval=none)\/∃k m,l=some m/\lo.map a.eval=some (.int k m))
 (b2:(h=none/\hi.map a.eval=none)\/∃k m,h=some m/\hi.map a.eval=some (.int k m))
 (h0:0<=l.getD 0) (h1:l.getD 0<=h.getD len) (h2:h.getD len<=cap) (hL:(l.getD 0).toNat=L) (hH:(h.getD (len:Int)).toNat=H):
 (Instr.sliceBounds true len cap (lo.map a.eval) (hi.map a.eval) none).run P w= .ok (L,H,cap) w:=by
 rcases b1 with⟨rfl,e2⟩|⟨k1,m1,rfl,e2⟩<;>rcases b2 with⟨rfl,e3⟩|⟨k2,m2,rfl,e3⟩<;>simp only[aoY,anV]at h0 h1 h2 hL hH<;>
  simp only[e2,e3,Instr.sliceBounds,Instr.sliceBound,asIntOf,amM,am2,amN]
 ·simp at hL hH;simp[<-hH,<-hL]
 ·have e4:0<=m2/\m2<=(cap:Int):=⟨by omega,by omega⟩;simp_all
 ·have e4:0<=m1/\m1<=(len:Int):=⟨by omega,by omega⟩;simp_all
 ·have e4:0<=m2/\m2<=(cap:Int):=⟨by omega,by omega⟩;have e5:0<=m1/\m1<=(H:Int):=⟨by omega,by omega⟩;simp_all
def add_zero'{a:Addr}(h:a.spot=none):a.add 0=a:=by
 obtain⟨b,o,s⟩:=a
 grind [Addr.add_mid]
def OF{g:G}{j:Nm}{sz N L H:Nat}{a:amy Addr}{cap:Nat}(hd:g.dc j)(hLH:L<=H)(hHN:H<=N)(htl:N<=(g.tl j).n)(hcap:N<=cap)(hbig:N<=4611686018427387904)
 (acU:a=none->cap=0) (ha:0<N->a=some ⟨g.cg j,0,none⟩) (acv:∀x∈a,x.spot=none) (ht:(g.tl j).n=N->a=(g.tl j).a/\cap=(g.tl j).cap):
 V g (.sub j sz L (H - L) N) (.slice (if cap=L then a else a.map (·.add (L*sz))) (H - L) (cap - L)):=by
 simp only[V];refine⟨hd,by omega,htl,_,_,rfl,⟨by omega,by omega⟩,?_,?_,?_,?_,?_⟩
 ·intro e;split at e
  ·omega
  ·cases a with
   |none=>have:=acU rfl;omega
   |some a=>simp at e
 ·intro h0;rw[amL (by omega),ha (by omega)];simp[am8]
 ·intro y hy;split at hy
  ·exact acv y hy
  ·cases a with
   |none=>simp at hy
   |some a=>
    simp at hy;subst hy;have:=acv a rfl;unfold Addr.add;split<;>simp_all
 ·intro hL;subst hL;refine⟨by simpa using hcap,λh0=>?_⟩;split
  ·exact ha h0
  ·rw[ha h0];simp[am8]
 ·intro e hL;subst hL;obtain⟨e1,e2⟩:=ht e;refine⟨?_,by simpa using e2⟩;split
  ·exact e1
  ·cases a with
   |none=>exact e1
   |some a=>simp only[Nat.zero_mul,ang];rw[add_zero' (acv a rfl)];exact e1
def Ev.Cc{t e:TypeId}{x:Operand}{lo hi:amy Operand}{l h:amy Int}{sz N:Nat}{j:Nm}(ho:o.op= .slice t x lo hi none)(ht:cF P t=some (e,sz))(hx:bH ge tm x= .ms j sz N)
 (hl:uN ge tm lo=some l) (hh:uN ge tm hi=some h) (h0:0<=l.getD 0) (h1:l.getD 0<=h.getD N) (h2:h.getD N<=N):
 Ev P ge o tm S (.sub j sz (l.getD 0).toNat ((h.getD N).toNat - (l.getD 0).toNat) N):=by
 refine .still (λg w act _ _ r kk v=>?_);obtain⟨hu,hsz⟩:=da ht;have hv:=v x (by simp[ho,Op.operands]);rw[hx]at hv;simp only[V]at hv;obtain⟨hd,a,cap,e1,hc,hn,ha,acv,_,q1,q2⟩:=hv;have b1:=gZ (g:=g) (a:=act) hl (λy e=>v y (by simp[ho,Op.operands,e]));have b2:=gZ (g:=g) (a:=act) hh (λy e=>v y (by simp[ho,Op.operands,e]));have adg:=dt (P:=P) hsz w;have hb:=oG (P:=P) (w:=w) (cap:=cap) b1 b2 h0 h1 (by omega) rfl rfl;refine⟨_,?_,OF (a:=a) (cap:=cap) hd (by omega) (by omega) q1 (by omega) hc.2 hn ha acv q2⟩;simp only[execOp,ho,Instr.sliceAt,amM,amI hu,amN,Instr.slice,e1,hb,adg,am2,Option.map_none]
def Ev.Cd{t e:TypeId}{x:Operand}{lo hi:amy Operand}{l h:amy Int}{sz n N:Nat}{j:Nm}(ho:o.op= .slice t x lo hi none)(ht:cF P t=some (e,sz))(hx:bH ge tm x= .sub j sz 0 n N)
 (hl:uN ge tm lo=some l) (hh:uN ge tm hi=some h) (h0:0<=l.getD 0) (h1:l.getD 0<=h.getD n) (h2:h.getD n<=N):
 Ev P ge o tm S (.sub j sz (l.getD 0).toNat ((h.getD n).toNat - (l.getD 0).toNat) N):=by
 refine .still (λg w act _ _ r kk v=>?_);obtain⟨hu,hsz⟩:=da ht;have hv:=v x (by simp[ho,Op.operands]);rw[hx]at hv;simp only[V]at hv;obtain⟨hd,p1,p2,a,cap,e1,hc,hn,ha,acv,q1,q2⟩:=hv;obtain⟨q3,q4⟩:=q1 trivial;have b1:=gZ (g:=g) (a:=act) hl (λy e=>v y (by simp[ho,Op.operands,e]));have b2:=gZ (g:=g) (a:=act) hh (λy e=>v y (by simp[ho,Op.operands,e]));have adg:=dt (P:=P) hsz w;have hb:=oG (P:=P) (w:=w) (cap:=cap) b1 b2 h0 h1 (by omega) rfl rfl;refine⟨_,?_,OF (a:=a) (cap:=cap) hd (by omega) (by omega) p2 q3 hc.2 hn q4 acv (λe=>q2 e trivial)⟩;simp only[execOp,ho,Instr.sliceAt,amM,amI hu,amN,Instr.slice,e1,hb,adg,am2,Option.map_none]
def Ev.K8{t e:TypeId}{x:Operand}{sz lo n N:Nat}{j:Nm}(ho:o.op= .call {callee:=.builtin .len,args:=#[x],argTypes:=#[t]})
 (hu:P.underlying t=some (.slice e)) (hx:bH ge tm x= .sub j sz lo n N):Ev P ge o tm S (.int .i64 n):=by
 refine .still (λg w act _ _ r kk v=>?_);have h1:=v x (by simp[ho,Op.operands,Call.operands]);rw[hx]at h1;simp only[V]at h1 |-;obtain⟨_,_,_,a,cap,e1,_⟩:=h1;exact⟨_,by simp[execOp,ho,resolve,invoke,builtin,Builtin.len_,e1,goInt,amI hu],rfl⟩
def Ev.qJ{t e:TypeId}{x y:Operand}{k:IntKind}{i:Int}{j:Nm}{sz lo n N:Nat}(ho:o.op= .indexAddr t x y)
 (ht:cF P t=some (e,sz)) (hx:bH ge tm x= .sub j sz lo n N) (hy:bH ge tm y= .int k i) (h0:0<=i) (hi:i<n):Ev P ge o tm S (.ptr j ((lo+i.toNat)*sz)):=by
 refine .still (λg w act _ _ r kk v=>?_);obtain⟨hu,hsz⟩:=da ht;have h1:=v x (by simp[ho,Op.operands]);have h2:=v y (by simp[ho,Op.operands]);rw[hx]at h1;rw[hy]at h2;simp only[V]at h1 h2 |-;obtain⟨hj,_,_,a,cap,e1,hc,_,ha,_⟩:=h1;have ha:=ha (by omega);subst ha;exact⟨.pointer (some ⟨g.cg j,(lo+i.toNat)*sz,none⟩),by simp[execOp,ho,h2,e1,Instr.indexAt,asIntOf,amI hu,h0,hi,dt hsz,am8,am6],hj,rfl⟩
end
section
variable {P:Program}{ge:GE}{F:Nm->Prop}{S:Hp->Prop}{tm:Tm}{hp:Hp}{K:AV->Hp->Prop}{o:Oper}
def uS(P:Program)(e:TypeId)(sz:Nat)(zx:AV):Prop:=∃zs,ia P e=some zs/\zs.length=sz/\zs.all AV.dV=true/\(zx= .agg zs\/zs=[zx])
def uS.run{e:TypeId}{sz:Nat}{zx:AV}(h:uS P e sz zx)(g:G)(w:World):
 ∃z v,(zeroValue e).run P w= .ok z w/\z.cells.size=sz/\(∀u∈z.cells.toList,u.oneCell'=true)/\V g zx v/\v.cells=z.cells:=by
 obtain⟨zs,h1,h2,h3,h4⟩:=h;obtain⟨z,k1,rfl⟩:=gX h1 w;have hv:=gM g z.cells.toList;have hs:=VL.dV _ _ hv h3;rcases h4 with rfl|h4
 ·exact⟨z,.agg z.cells,k1,by simpa using h2,hs,by simp only[V];exact⟨_,rfl,hv⟩,rfl⟩
 ·rw[h4]at hv;simp only[VL]at hv;obtain⟨u,rest,e1,e2,e3⟩:=hv;subst e3;refine⟨z,u,k1,by simpa using h2,hs,e2,?_⟩;have hu:=hs u (by rw[e1];simp);have:u.cells=#[u]:=by cases u<;>simp_all[Value.cells,Value.oneCell']
  rw[this];exact aos.1 (by rw[e1])
def AA{α:Type}(xs:amx α)(lo:Nat):xs.take lo++[]++xs.drop (lo+0)=xs:=by simp
def tq{hp:Hp}{j:Nm}{p:bk}(h:hp j=some p):cE hp j p=hp:=by
 funext k
 grind [aZ,aT]
def ep.Ce{t e:TypeId}{x:Operand}{j:Nm}{sz lo n N:Nat}{xs:amx AV}{zx:AV}(ho:o.op= .call {callee:=.builtin .clear,args:=#[x],argTypes:=#[t]})
 (ht:cF P t=some (e,sz)) (hx:bH ge tm x= .sub j sz lo n N) (hj:hp j=some (.br sz xs)) (hN:xs.length=N) (hz:uS P e sz zx)
 {xs':amx AV} (dW:bC (xs.take lo++List.replicate n zx++xs.drop (lo+n)) xs') (hk:K (.bR []) (cE hp j (.br sz xs'))):ep P ge F o tm hp K:=by
 refine .value λg fr w a f r k v=>?_
 obtain⟨hu,hsz⟩:=da ht;have hv:=v x (by simp[ho,Op.operands,Call.operands]);rw[hx]at hv;simp only[V]at hv;obtain⟨hd,p1,p2,ad,cap,e1,hc,hn,ha,acv,_⟩:=hv;have sY:∀{w':World},de g w' (bz (cE hp j (.br sz (xs.take lo++List.replicate n zx++xs.drop (lo+n)))) fr)->de g w' (bz (cE hp j (.br sz xs')) fr):=by
  intro w' r';have hl:=dW.length;have aei:dH g w' j (.br sz xs'):=λhne=>by
   have ah3:xs.take lo++List.replicate n zx++xs.drop (lo+n)≠ []:=λq=>hne (anu (by rw[<-hl,q];rfl))
   obtain⟨vs,rest,elem,q1,q2⟩:=r'.eP j _ (aH (aZ _ _ _)) ah3;exact⟨vs,rest,elem,VE.sub dW _ _ q1,by rw[<-hl];exact q2⟩
  have acs:cX g j (.br sz xs')=cX g j (.br sz (xs.take lo++List.replicate n zx++xs.drop (lo+n))):=by
   cases h4:xs' with
   |nil=>
    rw[h4]at hl;have:xs.take lo++List.replicate n zx++xs.drop (lo+n)=[]:=anu hl;rw[this]
   |cons a b=>
    cases h5:xs.take lo++List.replicate n zx++xs.drop (lo+n)with
    |nil=>rw[h4,h5]at hl;simp at hl
    |cons=>rfl
  have:=r'.set (o':=.br sz xs') (w':=w') (aH (aZ _ _ _)) acs (λ_ _=>rfl) rfl rfl rfl rfl (λb hb hf=>r'.fz b hf) aei;rw[bp]at this;have e:cE (cE hp j (.br sz (xs.take lo++List.replicate n zx++xs.drop (lo+n)))) j (.br sz xs')=cE hp j (.br sz xs'):=by
   funext q;simp only[cE];split<;>rfl
  rw[e]at this;exact this
 by_cases h0:n=0
 ·subst h0;have agT:cE hp j (.br sz (xs.take lo++List.replicate 0 zx++xs.drop (lo+0)))=hp:=by
   rw[List.replicate_zero,AA];exact tq hj
  refine⟨.tuple #[],w,g,_,_,?_,G.Le.refl g,⟨sY (by rw[agT];exact r.rel),r.cw.fE hj⟩,by simp[V,VL],hk⟩;cases ad<;>simp[execOp,ho,resolve,invoke,builtin,Builtin.clear_,e1,amI hu]
 ·have ah4:=ha (by omega);subst ah4;have hne:xs≠ []:=by intro q;subst q;simp at hN;omega
  obtain⟨z,u,z1,z2,z3,z4,z5⟩:=hz.run g w;obtain⟨w',h1,h2⟩:=r.rel.to (P:=P) (lo:=lo) (aH hj) hne (VE.Ka z2 z3 z4 z5 n) (by simp;omega);simp only[List.length_replicate]at h2;rw[bp]at h2;refine⟨.tuple #[],w',g,_,_,?_,G.Le.refl g,⟨sY h2,r.cw.fE hj⟩,by simp[V,VL],hk⟩;obtain⟨m,rfl⟩:∃m,n=m+1:=⟨n - 1,by omega⟩;simp[execOp,ho,resolve,invoke,builtin,Builtin.clear_,e1,amI hu,z1,h1]
end
section
variable {P:Program}{ge:GE}{F:Nm->Prop}{S:Hp->Prop}{tm:Tm}{hp:Hp}{K:AV->Hp->Prop}{o:Oper}
def de.tu{g:G}{w:World}(r:de g w hp){j:Nm}{sz lo m:Nat}{xs:amx AV}(hj:hp j=some (.br sz xs))(hne:xs≠ [])(hl:lo+m<=xs.length){a:amy Addr}{cap:Nat}(ha:0<m->a=some ⟨g.cg j,lo*sz,none⟩):
 ∃ys,VE g sz ((xs.drop lo).take m) ys/\(Builtin.firstCells sz m (.slice a m cap)).run P w= .ok ys.toArray w:=by
 obtain⟨vals,rest,elem,hve,hb,_,_⟩:=r.eP j _ hj hne;have hlv:=VE.length _ _ hve;have hd:=VE.take m _ _ (VE.drop lo _ _ hve);have hyl:=VE.length _ _ hd;have hlen:((xs.drop lo).take m).length=m:=by simp;omega
 rw[hlen]at hyl;refine⟨_,hd,?_⟩;rcases Nat.eq_zero_or_pos m with h0|h0
 ·subst h0;cases a<;>simp[Builtin.firstCells,loadCells,loadCellsFrom]
 ·rw[ha h0];refine aoo (P:=P) w sz m _ _ _ _ hyl λq u hu=>?_
  rw[am8];have hq:q<m*sz:=by have:=fC hu;omega
  rw[List.getElem?_take_of_lt hq,an7]at hu;simp[World.cell?,hb]
  grind
def ep.AD{t e:TypeId}{x y:Operand}{j:Nm}{sz bytes i lo m N:Nat}{xs:amx AV}(ho:o.op= .call {callee:=.builtin .append,args:=#[x,y],argTypes:=#[t,t]})
 (T:lP P t e sz bytes) (hx:bH ge tm x= .sub j sz 0 i N) (hy:bH ge tm y= .sub j sz lo m N) (hj:hp j=some (.br sz xs)) (hN:xs.length=N) (hne:xs≠ []) (hi:i+m<=N)
 (hk:K (.sub j sz 0 (i+m) N) (cE hp j (.br sz (xs.take i++(xs.drop lo).take m++xs.drop (i+m))))):ep P ge F o tm hp K:=by
 refine .value λg fr w act f r kk v=>?_
 have h1:=v x (by simp[ho,Op.operands,Call.operands]);have h2:=v y (by simp[ho,Op.operands,Call.operands]);rw[hx]at h1;rw[hy]at h2;simp only[V]at h1 h2;obtain⟨d1,p1,p2,a,cap,e1,c1,n1,a1,s1,f1,t1⟩:=h1;obtain⟨d2,q1,q2,b,ah6,e2,c2,n2,a2,s2,_,t2⟩:=h2;obtain⟨_,_,_,_,_,_,o4,o5,o6,o7⟩:=r.rel.eP j _ (aH hj) hne;obtain⟨t3,t4⟩:=t1 (by omega) trivial;rw[o6]at t3;obtain⟨ii,z,hi1,hz,aea,hib,hzs⟩:=T.mJ;obtain⟨ys,hys,acL⟩:=r.rel.tu (P:=P) (aH hj) hne (lo:=lo) (m:=m) (by omega) (a:=b) (cap:=ah6) a2;have hlen:((xs.drop lo).take m).length=m:=by simp;omega
 obtain⟨w',h3,h4⟩:=r.rel.to (P:=P) (lo:=i) (aH hj) hne hys (by omega);rw[hlen,bp]at h4;refine⟨.slice a (i+m) cap,w',g,_,_,?_,G.Le.refl g,⟨h4,r.cw.fE hj⟩,?_,hk⟩
 ·subst aea;have acI:i+m<=cap:=by omega
  simp[execOp,ho,resolve,invoke,builtin,Builtin.append_,amI T.under,sizeOf,typeInfo,hi1,e1,e2,Builtin.lenOf,acI,acL,t3,am8,h3]
 ·simp only[V]
  grind
def de.AE{g:G}{w:World}(r:de g w hp){j:Nm}{sz:Nat}{xs zs:amx AV}{ys:amx Value}(hj:hp j=some (.br sz xs))(hne:xs≠ [])(ah7:zs≠ [])
 (hz:VE g sz zs ys) (hl:xs.length+zs.length<=(g.tl j).cap):
 ∃w' g',(storeCells ⟨g.cg j,xs.length*sz,none⟩ ys).run P w= .ok () w'/\G.Le g g'/\(∀q,q≠j->g'.tl q=g.tl q)/\g'.tl j=⟨(g.tl j).a,xs.length+zs.length,(g.tl j).cap⟩/\g'.cg=g.cg/\de g' w' (cE hp j (.br sz (xs++zs))):=by
 obtain⟨vals,rest,elem,hve,hb,hfz,o4,o5,o6,o7⟩:=r.eP j _ hj hne;have hlv:=VE.length _ _ hve;have hly:=VE.length _ _ hz;have acI:xs.length*sz+ys.length<=vals.length+rest.length:=by
  refine anH ?_ o7;rw[hly,<-am6];exact anc _ hl
 have acs:cX g j (.br sz xs)=some (g.cg j):=by cases xs with|nil=>exact absurd rfl hne|cons=>rfl
 have acO:=aok (P:=P) (g.cg j) (xs.length*sz) elem ys 0 _ w hb (by simp;omega) (VE.dV _ _ hz);have hzl:0<zs.length:=ans.2 ah7;have hle:G.Le g (g.tail j ⟨(g.tl j).a,xs.length+zs.length,(g.tl j).cap⟩):=G.qq (.inr (by rw[o4];simp;omega));generalize hg:g.tail j ⟨(g.tl j).a,xs.length+zs.length,(g.tl j).cap⟩=g' at*;have acY:g'.tl j=⟨(g.tl j).a,xs.length+zs.length,(g.tl j).cap⟩:=by rw[<-hg];simp[G.tail]
 have htl:∀q,q≠j->g'.tl q=g.tl q:=λq hq=>by rw[<-hg];simp[G.tail,hq]
 have aet:g'.cg=g.cg:=by rw[<-hg];rfl
 have adr:g'.fz=g.fz:=by rw[<-hg];rfl
 have acN:g'.dc=g.dc:=by rw[<-hg];rfl
 have ac3:g'.cj=g.cj:=by rw[<-hg];rfl
 have hw0:g'.w0=g.w0:=by rw[<-hg];rfl
 have aeX:cX g' j (.br sz (xs++zs))=some (g.cg j):=by
  cases xs with
  |nil=>exact absurd rfl hne
  |cons=>simp only[anO,cX,aet]
 have key:∀q p,cE hp j (.br sz (xs++zs)) q=some p->(q=j/\p= .br sz (xs++zs))\/(q≠j/\hp q=some p):=by
  intro q p h;by_cases e:q=j
  ·subst e;rw[aZ]at h;simp at h;exact .inl ⟨rfl,h.symm⟩
  ·rw[aT _ _ e]at h;exact .inr ⟨e,h⟩
 generalize hW:w.setRow (g.cg j) ((vals++rest).take (xs.length*sz+0)++ys++(vals++rest).drop (xs.length*sz+0+ys.length)).toArray=W;refine⟨W,g',by rw[<-hW];simpa using acO,hle,htl,acY,aet,?_⟩;have adq:∀k,k≠g.cg j->W.heap[k]?=w.heap[k]?:=λk hk=>by rw[<-hW];exact aol _ _ _ _ hk
 have ac2:W.heap[g.cg j]?=some (.cells ((vals++rest).take (xs.length*sz+0)++ys++(vals++rest).drop (xs.length*sz+0+ys.length)).toArray elem (0,0)):=by rw[<-hW];exact aom w _ _ _ elem _ hb
 have hsz:W.heap.size=w.heap.size:=by rw[<-hW];simp[World.setRow]
 have adH:=r.dI j _ _ hj acs;have r2:=r.set (w':=W) hj (o':=.br sz xs) rfl (λk hk=>adq k (λe=>hk (by rw[acs,e]))) hsz (by rw[<-hW];rfl) (by rw[<-hW];rfl) (by rw[<-hW];rfl)
  (λb hb' hne'=>by rw[acs]at hb';simp at hb';subst hb';exact absurd hfz hne') (λ_=>by
   refine⟨vals,ys++(rest.drop ys.length),elem,hve,?_,hfz,o4,o5,o6,?_⟩
   ·rw[ac2];have e1:(vals++rest).take (xs.length*sz+0)=vals:=by rw[anr,<-hlv];simp
    have e2:(vals++rest).drop (xs.length*sz+0+ys.length)=rest.drop ys.length:=by rw[anr,<-hlv,an3];simp
    rw[e1,e2];simp
   ·simp only[amO,anR];omega)
 rw[tq hj]at r2;refine⟨λq=>?_,by rw[ac3,hw0];exact r2.hU,by rw[ac3];exact r2.size,λb hb'=>by rw[adr]at hb' |-;exact r2.fz b hb',?_,?_,?_⟩
 ·rw[acN];by_cases e:q=j
  ·subst e;rw[aZ,r.dc q,hj];simp
  ·rw[aT _ _ e];exact r.dc q
 ·intro q p h;rcases key q p h with⟨rfl,rfl⟩|⟨h1,h2⟩
  ·intro _;refine⟨vals++ys,rest.drop ys.length,elem,VE.mono hle _ _ _ (VE.append _ _ hve _ _ hz),?_,by rw[aet,adr];exact hfz,?_⟩
   ·rw[aet,ac2];have e1:(vals++rest).take (xs.length*sz+0)=vals:=by rw[anr,<-hlv];simp
    have e2:(vals++rest).drop (xs.length*sz+0+ys.length)=rest.drop ys.length:=by rw[anr,<-hlv,an3];simp
    rw[e1,e2]
   ·refine⟨by rw[acY,amO],by rw[acY,amO];exact hl,by rw[acY,aet];exact o6,?_⟩;rw[acY];simp only[amO,anR];omega
  ·exact(r2.eP q p h2).kR hle (r.cM h2) (htl q h1) λb _=>⟨rfl,by rw[adr]⟩
 ·intro q p b h hb';rw[ac3,hsz];rcases key q p h with⟨rfl,rfl⟩|⟨h1,h2⟩
  ·rw[aeX]at hb';simp at hb';subst hb';exact adH
  ·rw[fy p hle (r.cM h2) (htl q h1)]at hb';exact r.dI q p b h2 hb'
 ·intro q q' p p' b h h' hb' adC;rcases key q p h with⟨rfl,rfl⟩|⟨h1,h2⟩
  ·rw[aeX]at hb';simp at hb';subst hb';rcases key q' p' h' with⟨rfl,rfl⟩|⟨h3,h4⟩
   ·rfl
   ·rw[fy p' hle (r.cM h4) (htl q' h3)]at adC;exact r.hX _ q' _ p' _ hj h4 acs adC
  ·rw[fy p hle (r.cM h2) (htl q h1)]at hb';rcases key q' p' h' with⟨rfl,rfl⟩|⟨h3,h4⟩
   ·rw[aeX]at adC;simp at adC;subst adC;exact r.hX q _ p _ _ h2 hj hb' acs
   ·rw[fy p' hle (r.cM h4) (htl q' h3)]at adC;exact r.hX q q' p p' b h2 h4 hb' adC
end
section
variable {P:Program}{ge:GE}{F:Nm->Prop}{S:Hp->Prop}{tm:Tm}{hp:Hp}{K:AV->Hp->Prop}{o:Oper}
def de.oH{g:G}{w:World}(r:de g w hp){t ty e:TypeId}{sz bytes:Nat}(T:lP P t e sz bytes){j k:Nm}{xs ys:amx AV}{tok:iA}{s x:Value}
 (hj:hp j=some (.br sz xs)) (hne:xs≠ []) (hk:hp k=none) (hs:V g (.ms j sz xs.length) s) (hx:V g (.sl sz tok ys) x) (hb:(xs.length+ys.length)*bytes<=140737488355328) (hm:xs.length+ys.length<=4611686018427387904):
 ∃v w' g',(Builtin.append_ #[t,t] ty #[s,x]).run P w= .ok v w'/\G.Le g g'/\de g' w' (cE (cE hp j (.br sz [])) k (.br sz (xs++ys)))/\V g' (.ms k sz (xs.length+ys.length)) v:=by
 obtain⟨i,z,hi,hz,aea,hib,hzs⟩:=T.mJ;subst aea hib;obtain⟨vals,acB,acL⟩:=fD (P:=P) r hx;have hvl:=VE.length _ _ acB;have hkj:k≠j:=λq=>by rw[q,hj]at hk;simp at hk
 simp only[V]at hs hx;obtain⟨d1,a,cap,rfl,hcap,acU,ha,acv,_,q1,q2⟩:=hs;obtain⟨xa,aer,rfl,afx,_,_,_,_⟩:=hx;obtain⟨vs,rest,elem,hve,hbl,hfz,o4,o5,o6,o7⟩:=r.eP j _ hj hne;obtain⟨q3,q4⟩:=q2 o4;have hxl:0<xs.length:=ans.2 hne;by_cases hye:ys=[]
 ·subst hye;obtain⟨g',h1,h2,h3⟩:=r.qI (i:=xs.length) hj hk (amW _) (λ_=>⟨q3,q4⟩) hcap acU acv;refine⟨.slice a xs.length cap,w,g',?_,h1,by simpa using h2,by simpa using h3⟩;have hf:=acL w rfl;simp only[VE]at acB;subst acB;rw[q3,o6];simp[Builtin.append_,amI T.under,sizeOf,typeInfo,hi,Builtin.lenOf,hcap.1]at hf |-;simp[hf,storeCells]
 ·have hyl:0<ys.length:=ans.2 hye;by_cases acI:xs.length+ys.length<=cap
  ·obtain⟨w',g1,h1,h2,h3,h4,h5,h6⟩:=r.AE (P:=P) hj hne hye acB (by rw[<-q4];exact acI);have hk1:cE hp j (.br i.size (xs++ys)) k=none:=by rw[aT _ _ hkj];exact hk
   obtain⟨g',k1,k2,k3⟩:=h6.qI (k:=k) (i:=(xs++ys).length) (a:=a) (cap:=cap) (aZ _ _ _) hk1 (amW _) (λ_=>by rw[h4];exact⟨q3,q4⟩) (by rw[amO];exact⟨acI,hm⟩) acU acv;rw[anz]at k2;have e2:cE (cE (cE hp j (.br i.size (xs++ys))) j (.br i.size [])) k (.br i.size (xs++ys))=cE (cE hp j (.br i.size [])) k (.br i.size (xs++ys)):=by
    funext q;simp only[cE];by_cases e8:q=k
    ·rw[amH e8,amH e8]
    ·rw[amL e8,amL e8];by_cases e9:q=j
     ·rw[amH e9,amH e9]
     ·rw[amL e9,amL e9,amL e9]
   rw[e2]at k2;rw[amO]at k3;refine⟨.slice a (xs.length+ys.length) cap,w',g',?_,h2.trans k1,k2,k3⟩;have hf:=acL w rfl;rw[q3,o6]at*;simp[Builtin.append_,amI T.under,sizeOf,typeInfo,hi,Builtin.lenOf,acI,hf,am8,h1]
  ·have adV:cap<xs.length+ys.length:=by omega
   have afM:=growslice_fits adV hb;have aeN:¬(9223372036854775807<((xs.length:Int)+(ys.length:Int))):=by omega
   have aeO:¬(281474976710656<Builtin.nextslicecap (xs.length+ys.length) cap*i.bytes):=by omega
   let nc:=grownCap w (xs.length+ys.length) cap e
   obtain⟨ade,holds,ac6⟩:=r.tu (P:=P) hj hne (lo:=0) (m:=xs.length) (by omega) (a:=a) (cap:=cap) (by simpa using ha);simp only[List.drop_zero,anz]at holds;have hol:=VE.length _ _ holds;have afl:(Builtin.firstCells i.size xs.length (.slice a xs.length cap)).run P w.drew= .ok ade.toArray w.drew:=by
    have hh:=ha hxl;subst hh;refine aoo (P:=P) w.drew i.size xs.length _ _ _ ade hol λq u hu=>?_
    rw[am8];have hq:=fC hu;have aeh:=VE.length _ _ hve;have h9:=ac6;rw[aoo (P:=P) w i.size xs.length ⟨g.cg j,0,none⟩ xs.length cap vs aeh (λq u hu=>by
     rw[am8];simp[World.cell?,hbl];rw[an8 (fC hu)];exact hu)]at h9
    simp at h9;subst h9;have hh2:w.drew.heap[g.cg j]?=some (.cells (vs++rest).toArray elem (0,0)):=hbl;simp[World.cell?,hh2];rw[an8 hq];exact hu
   let row:Array Value:=ade.toArray++vals.toArray++Builtin.zeroCells z.cells (nc - (xs.length+ys.length))
   have acO:(Builtin.append_ #[t,t] ty #[.slice a xs.length cap,.slice xa ys.length aer]).run P w=
    .ok (.slice (some ⟨w.heap.size,0,none⟩) (xs.length+ys.length) nc) (w.drew.alloc (.cells row e)):=by
    have hf:=acL w.drew rfl;simp[Builtin.append_,amI T.under,sizeOf,typeInfo,zeroValue,hi,hz,Builtin.lenOf,acI,aeN,aeO,Question.forced,hf,afl,newRow,grownCap,nc,row]
   have hnc:xs.length+ys.length<=nc:=grownCap_ge w _ _ _;have r0:=r.drew (w.drawn+1);have rj:de g w.drew (cE hp j (.br i.size [])):=by
    have acs:cX g j (.br i.size ([]:amx AV))=none:=rfl;refine⟨λq=>?_,r0.hU,r0.size,r0.fz,λq p h=>?_,λq p b h hb'=>?_,λq q' p p' b h h' hb' adC=>?_⟩
    ·by_cases e9:q=j
     ·subst e9;rw[aZ];simp[d1]
     ·rw[aT _ _ e9];exact r0.dc q
    ·by_cases e9:q=j
     ·subst e9;rw[aZ]at h;simp at h;subst h;intro h;exact absurd rfl h
     ·rw[aT _ _ e9]at h;exact r0.eP q p h
    ·by_cases e9:q=j
     ·subst e9;rw[aZ]at h;simp at h;subst h;simp[cX]at hb'
     ·rw[aT _ _ e9]at h;exact r0.dI q p b h hb'
    ·by_cases e9:q=j
     ·subst e9;rw[aZ]at h;simp at h;subst h;simp[cX]at hb'
     ·rw[aT _ _ e9]at h;by_cases e8:q'=j
      ·subst e8;rw[aZ]at h';simp at h';subst h';simp[cX]at adC
      ·rw[aT _ _ e8]at h';exact r0.hX q q' p p' b h h' hb' adC
   have hk2:cE hp j (.br i.size []) k=none:=by rw[aT _ _ hkj];exact hk
   let t':TI:=⟨some ⟨w.heap.size,0,none⟩,xs.length+ys.length,nc⟩
   have r1:=rj.bF t' hk2;have hz0:g.fz w.heap.size=[]:=r.hZ;have aeg:=(g.fF t' (r.cu hk)).trans (G.dA (g.bF k t') w.drew.heap.size (r1.cu hk2));have hxy:xs++ys≠ []:=by simp[hne]
   have r2:=r1.alloc hk2 (.cells row e) (.br i.size (xs++ys)) (by cases h8:xs++ys with|nil=>exact absurd h8 hxy|cons=>simp[cX,G.push]) (λ_=>by
    refine⟨ade++vals,(Builtin.zeroCells z.cells (nc - (xs.length+ys.length))).toList,e,VE.mono aeg _ _ _ (VE.append _ _ holds _ _ acB),?_,?_,?_⟩
    ·have:((g.bF k t').push k w.drew.heap.size).cg k=w.heap.size:=by simp[G.push]
     rw[this];refine(fT w.drew _).trans ?_;simp[row]
    ·simpa[G.push,G.bF]using hz0
    ·have hzl:(Builtin.zeroCells z.cells (nc - (xs.length+ys.length))).toList.length=(nc - (xs.length+ys.length))*i.size:=by
      rw[<-hzs];simp[Builtin.zeroCells]
     refine⟨by simp[G.push,G.bF,t'],by simp[G.push,G.bF,t',hnc],by simp[G.push,G.bF,t'],?_⟩;simp only[G.push,G.bF,am0,t',hvl,hol,hzl,amO];rw[<-am6,<-am6];exact anc _ (by omega))
   refine⟨_,_,_,acO,aeg,r2,?_⟩;simp only[V];exact⟨by simp[G.push],_,nc,rfl,⟨hnc,hm⟩,by simp,λ_=>by simp[G.push],by simp,by simp[dw,G.push,G.bF,t']⟩
def ep.oH{t e:TypeId}{x y:Operand}{j:Nm}{sz bytes n:Nat}{tok:iA}{xs ys:amx AV}(k:Nm)(hk:hp k=none)(hF:¬F k)(ho:o.op= .call {callee:=.builtin .append,args:=#[x,y],argTypes:=#[t,t]})
 (T:lP P t e sz bytes) (hx:bH ge tm x= .ms j sz n) (hy:bH ge tm y= .sl sz tok ys) (hj:hp j=some (.br sz xs)) (hn:xs.length=n) (hne:xs≠ []) (hb:(xs.length+ys.length)*bytes<=140737488355328) (hm:xs.length+ys.length<=4611686018427387904)
 (hK:K (.ms k sz (xs.length+ys.length)) (cE (cE hp j (.br sz [])) k (.br sz (xs++ys)))):ep P ge F o tm hp K:=by
 subst hn;refine .value λg fr w act f r kk v=>?_
 have h1:=v x (by simp[ho,Op.operands,Call.operands]);have h2:=v y (by simp[ho,Op.operands,Call.operands]);rw[hx]at h1;rw[hy]at h2;have hfr:=dy f hF;obtain⟨u,w',g',e1,e2,e3,e4⟩:=r.rel.oH (ty:=o.type) T (aH hj) hne (bX hk hfr) h1 h2 hb hm;rw[bp,bp]at e3;exact⟨u,w',g',_,_,by simp[execOp,ho,resolve,invoke,builtin,e1],e2,⟨e3,(r.cw.fE hj).cE hfr⟩,e4,hK⟩
def Ev.K9{t e:TypeId}{x lo hi mx:Operand}{k1 k2 k3:IntKind}{l h m:Int}{sz N:Nat}{j:Nm}(ho:o.op= .slice t x (some lo) (some hi) (some mx))(ht:cF P t=some (e,sz))(hx:bH ge tm x= .ms j sz N)
 (hl:bH ge tm lo= .int k1 l) (hh:bH ge tm hi= .int k2 h) (hm:bH ge tm mx= .int k3 m) (h0:0<=l) (h1:l<=h) (h2:h<=m) (h3:m<=N):Ev P ge o tm S .any:=by
 refine .still (λg w act _ _ r kk v=>?_);obtain⟨hu,hsz⟩:=da ht;have hv:=v x (by simp[ho,Op.operands]);have v1:=v lo (by simp[ho,Op.operands]);have v2:=v hi (by simp[ho,Op.operands]);have v3:=v mx (by simp[ho,Op.operands]);rw[hx]at hv;rw[hl]at v1;rw[hh]at v2;rw[hm]at v3;simp only[V]at hv v1 v2 v3;obtain⟨hd,a,cap,e1,hc,hn,ha,acv,_⟩:=hv;have adg:=dt (P:=P) hsz w;refine⟨.slice (if m.toNat=l.toNat then a else a.map (·.add (l.toNat*sz))) (h.toNat - l.toNat) (m.toNat - l.toNat),?_,by simp only[V]⟩
 ·have b1:0<=m/\m<=(cap:Int):=by omega
  have b2:0<=h/\h<=(m.toNat:Int):=by omega
  have b3:0<=l/\l<=(h.toNat:Int):=by omega
  simp only[execOp,ho,Instr.sliceAt,amM,amI hu,amN,Instr.slice,e1,ang,v1,v2,v3,Instr.sliceBounds,Instr.sliceBound,asIntOf,am2];simp_all
def kY{t e:TypeId}(ht:P.underlying t=some (.pointer e))(a:amy Addr)(w:World):(Op.equal t (.pointer a) (.pointer none)).run P w= .ok a.isNone w:=by
 unfold Op.equal Op.maxDepth;rw[show(10000:Nat)=9999+1 from rfl];unfold Op.equalIn;cases a<;>(simp only[amM,amI ht,amN];rfl)
def Eu:Value->amz
 |.nilFunc=>true
 |_=>false
def qK{t:TypeId}{ps rs:Array TypeId}{vr:amz}(ht:P.underlying t=some (.func ps rs vr))(v:Value)(hv:v= .nilFunc\/∃f a b,v= .func f a b)(w:World):(Op.equal t v .nilFunc).run P w= .ok (Eu v) w:=by
 unfold Op.equal Op.maxDepth;rw[show(10000:Nat)=9999+1 from rfl];unfold Op.equalIn;rcases hv with rfl|⟨f,a,b,rfl⟩<;>(simp only[amM,amI ht,amN];rfl)
def uT:AV->amy amz
 |.dY=>some true
 |.ptr _ _=>some false
 |.aQ _ _=>some false
 |_=>none
def uU:AV->amy amz
 |.cy=>some true
 |.fn _ _ _=>some false
 |_=>none
def Ev.Cf{t t' e:TypeId}{x y:Operand}{c neg:amz}(ho:o.op= .binOp (if neg then .neq else .eql) t x y t')(hu:P.underlying t=some (.pointer e))(hx:uT (bH ge tm x)=some c)(hy:bH ge tm y= .dY):Ev P ge o tm S (.bool (c != neg)):=by
 refine .still (λg w act _ _ r kk vv=>?_);have h1:=vv x (by simp[ho,Op.operands]);have h2:=vv y (by simp[ho,Op.operands]);rw[hy]at h2;have hv:∃a:amy Addr,act.eval x= .pointer a/\a.isNone=c:=by
  cases hq:bH ge tm x<;>rw[hq]at hx h1<;>simp[uT]at hx<;>simp only[V]at h1
  ·exact⟨none,h1,by simpa using hx⟩
  ·exact⟨_,h1.2,by simpa using hx⟩
  ·obtain⟨b,o,vals,h1,_⟩:=h1;exact⟨_,h1,by simpa using hx⟩
 obtain⟨a,e1,rfl⟩:=hv;simp only[V]at h2;cases neg
 ·exact⟨.bool a.isNone,by simp[execOp,ho,e1,h2,eqGuard,binOp,kY hu],by simp[V]⟩
 ·exact⟨.bool (!a.isNone),by simp[execOp,ho,e1,h2,eqGuard,binOp,kY hu],by simp[V]⟩
def Ev.Kb{t t':TypeId}{ps rs:Array TypeId}{vr:amz}{x y:Operand}{c neg:amz}(ho:o.op= .binOp (if neg then .neq else .eql) t x y t')(hu:P.underlying t=some (.func ps rs vr))(hx:uU (bH ge tm x)=some c)(hy:bH ge tm y= .cy):Ev P ge o tm S (.bool (c != neg)):=by
 refine .still (λg w act _ _ r kk vv=>?_);have h1:=vv x (by simp[ho,Op.operands]);have h2:=vv y (by simp[ho,Op.operands]);rw[hy]at h2;have hv:(act.eval x= .nilFunc\/∃f a b,act.eval x= .func f a b)/\Eu (act.eval x)=c:=by
  cases hq:bH ge tm x<;>rw[hq]at hx h1<;>simp[uU]at hx<;>simp only[V]at h1
  ·obtain⟨a,b,h1,_⟩:=h1;rw[h1];exact⟨.inr ⟨_,_,_,rfl⟩,by simpa[Eu]using hx⟩
  ·rw[h1];exact⟨.inl rfl,by simpa[Eu]using hx⟩
 obtain⟨e0,e1⟩:=hv;simp only[V]at h2;have hr:=qK (P:=P) hu _ e0 w;cases neg
 ·exact⟨.bool c,by simp[execOp,ho,h2,eqGuard,binOp,hr,e1],by simp[V]⟩
 ·exact⟨.bool (!c),by simp[execOp,ho,h2,eqGuard,binOp,hr,e1],by simp[V]⟩
end
end Go.Ab

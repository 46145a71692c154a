/- The logic of the walk. -/
import Derived.Test.YtlahelaeeahggaaGreatDoorA7
set_option linter.all false
open Go Go.RowKit
namespace Go.Ab
section
variable {P:Program}{ge:GE}{F:Nm->Prop}{tm:Tm}{l:HL}{o:Oper}{ti:Nat->amy TE}
def Y0(x:AV)(K:AV->Prop):Prop:=match x with
 |.bool b=>K (.bool b)
 |.int k n=>K (.int k n)
 |.an s=>K (.an s)
 |.dY=>K .dY
 |.ptr j n=>K (.ptr j n)
 |.aQ cs n=>K (.aQ cs n)
 |.sl a t xs=>K (.sl a t xs)
 |.ms j a n=>K (.ms j a n)
 |.sub j a b n m=>K (.sub j a b n m)
 |.dq=>K .dq
 |.map j=>K (.map j)
 |.fn f a b=>K (.fn f a b)
 |.cy=>K .cy
 |.iface t v=>K (.iface t v)
 |.nilIface=>K .nilIface
 |.agg cs=>K (.agg cs)
 |.bR vs=>K (.bR vs)
 |.any=>K .any
def Cg{x:AV}{K:AV->Prop}(h:Y0 x K):K x:=by cases x<;>exact h
def AF:amx AV->(amx AV->Prop)->Prop
 | [],K=>K []
 |x::xs,K=>Y0 x λy=>AF xs λr=>K (y::r)
def eX:(xs:amx AV)->{K:amx AV->Prop}->AF xs K->K xs
 | [],_,h=>h
 |_::xs,_,h=>eX xs (Cg h)
def fc(x:AV)(K:AV->Prop):Prop:=match x with
 |.bool b=>K (.bool b)
 |.int k n=>K (.int k n)
 |.an s=>K (.an s)
 |.dY=>K .dY
 |.ptr j n=>K (.ptr j n)
 |.aQ cs n=>K (.aQ cs n)
 |.sl a t xs=>K (.sl a t xs)
 |.ms j a n=>K (.ms j a n)
 |.sub j a b n m=>K (.sub j a b n m)
 |.dq=>K .dq
 |.map j=>K (.map j)
 |.fn f a b=>K (.fn f a b)
 |.cy=>K .cy
 |.iface t v=>K (.iface t v)
 |.nilIface=>K .nilIface
 |.agg cs=>AF cs λcs=>K (.agg cs)
 |.bR vs=>K (.bR vs)
 |.any=>K .any
def fm{x:AV}{K:AV->Prop}(h:fc x K):K x:=by
 cases x<;>first|exact h|exact eX _ h
def Ew:amx AV->Nat->(AV->Prop)->Prop
 | [],_,_=>False
 |x::_,0,K=>fc x K
 |_::xs,n+1,K=>Ew xs n K
def mQ:(xs:amx AV)->(n:Nat)->{K:AV->Prop}->Ew xs n K->∃x,xs[n]?=some x/\K x
 | [],_,_,h=>h.elim
 |x::_,0,_,h=>⟨x,rfl,fm h⟩
 |_::xs,n+1,_,h=>by
  obtain⟨x,h1,h2⟩:=mQ xs n h
  grind
def Ch:amx AV->Nat->(amx AV->Prop)->Prop
 |xs,0,K=>K xs
 | [],_+1,_=>False
 |_::xs,n+1,K=>Ch xs n K
def oI:(xs:amx AV)->(n:Nat)->{K:amx AV->Prop}->Ch xs n K->n<=xs.length/\K (xs.drop n)
 |xs,0,_,h=>⟨anp _,by cases xs<;>exact h⟩
 | [],_+1,_,h=>h.elim
 |_::xs,n+1,_,h=>by
  obtain⟨h1,h2⟩:=oI xs n h
  grind
def wa:amx AV->Nat->(amx AV->Prop)->Prop
 |_,0,K=>K []
 | [],_+1,_=>False
 |x::xs,n+1,K=>wa xs n λr=>K (x::r)
def oJ:(xs:amx AV)->(n:Nat)->{K:amx AV->Prop}->wa xs n K->n<=xs.length/\K (xs.take n)
 |xs,0,_,h=>⟨anp _,by cases xs<;>simpa[wa]using h⟩
 | [],_+1,_,h=>h.elim
 |_::xs,n+1,_,h=>by
  obtain⟨h1,h2⟩:=oJ xs n h
  grind
def OG(agg:amz)(n:Nat)(cs:amx AV)(off:Nat)(K:AV->Prop):Prop:=match agg with
 |true=>Ch cs off λds=>wa ds n λes=>K (.agg es)
 |false=>Ew cs off K
theorem AH{agg:amz}{n:Nat}{cs:amx AV}{off:Nat}{K:AV->Prop}(h:OG agg n cs off K):∃x,cut agg n cs off=some x/\K x:=by
 cases agg with
 |true=>
  obtain⟨h1,h⟩:=oI _ _ h;obtain⟨h2,h⟩:=oJ _ _ h;refine⟨_,?_,h⟩;simp only[anR]at h2;simp only[cut,am0];rw[amH (by omega)]
 |false=>exact mQ _ _ h
def Ci:amx AV->amx AV->(amx AV->Prop)->Prop
 |cs,[],K=>K cs
 | [],_::_,_=>False
 |_::cs,y::ys,K=>Ci cs ys λr=>K (y::r)
def oK:(cs ys:amx AV)->{K:amx AV->Prop}->Ci cs ys K->ys.length<=cs.length/\K (ys++cs.drop ys.length)
 |cs,[],_,h=>⟨anp _,by cases cs<;>exact h⟩
 | [],_::_,_,h=>h.elim
 |_::cs,y::ys,_,h=>by
  obtain⟨h1,h2⟩:=oK cs ys h
  grind
def Cj:amx AV->Nat->amx AV->(amx AV->Prop)->Prop
 |cs,0,ys,K=>Ci cs ys K
 | [],_+1,_,_=>False
 |c::cs,n+1,ys,K=>Cj cs n ys λr=>K (c::r)
def kG:(cs:amx AV)->(n:Nat)->(ys:amx AV)->{K:amx AV->Prop}->Cj cs n ys K->n+ys.length<=cs.length/\K (eH cs n ys)
 |cs,0,ys,K,h=>by
  obtain⟨h1,h2⟩:=oK cs ys (by cases cs<;>exact h)
  grind [eH]
 | [],_+1,_,_,h=>h.elim
 |c::cs,n+1,ys,K,h=>by
  obtain⟨h1,h2⟩:=kG cs n ys h;refine⟨by simp;omega,?_⟩;have e:eH (c::cs) (n+1) ys=c::eH cs n ys:=by
   simp only[eH,aow,anO];rw[show n+1+ys.length=(n+ys.length)+1 from by omega,List.drop_succ_cons]
  rw[e];exact h2
def qL(i j:Nm):amz:=Nat.beq i.1 j.1&&Nat.beq i.2 j.2
def gW{i j:Nm}:qL i j=true↔i=j:=by
 obtain⟨a,b⟩:=i;obtain⟨c,d⟩:=j;simp only[qL,amC,ank];simp_all
def fK{i j:Nm}:qL i j=false↔i≠j:=by
 rw[<-Bool.not_eq_true,gW]
def lk:HL->Nm->amy bk
 | [],_=>none
 |(i,o)::l,j=>cond (qL i j) (some o) (lk l j)
theorem cz:(l:HL)->(j:Nm)->aM l j=lk l j
 | [],j=>rfl
 |(i,o)::l,j=>by
  simp only[aM,lk];cases h:qL i j with
  |true=>rw[amH (gW.1 h).symm];rfl
  |false=>rw[amL (λe=>fK.1 h e.symm),ana,cz l j]
def mR(j:Nm)(o:bk):HL->(HL->Prop)->Prop
 | [],_=>False
 |(i,p)::l,K=>cond (qL i j) (K ((j,o)::l)) (mR j o l λr=>K ((i,p)::r))
def eI{j:Nm}{o:bk}:(l:HL)->{K:HL->Prop}->mR j o l K->K (cR j o l)
 | [],_,h=>h.elim
 |(i,p)::l,K,h=>by
  simp only[mR]at h;simp only[cR];cases e:qL i j with
  |true=>rw[e]at h;rw[amH (gW.1 e)];exact h
  |false=>rw[e]at h;rw[amL (fK.1 e)];exact eI l h
def nx(b:Nat):HL->Nat
 | []=>b
 |(i,_)::l=>nx (cond (Nat.ble b i.2) (i.2+1) b) l
def jX:(l:HL)->(b:Nat)->b<=nx b l
 | [],b=>amW b
 |(i,_)::l,b=>by
  simp only[nx];refine anH ?_ (jX l _);cases h:Nat.ble b i.2 with
  |true=>have:=am4 h;simp only[ane];omega
  |false=>exact amW b
def fR:(l:HL)->(b k:Nat)->(m:Nat)->nx b l<=m->aM l (k,m)=none
 | [],b,k,m,_=>rfl
 |(i,o)::l,b,k,m,h=>by
  simp only[nx]at h;simp only[aM];have h2:=jX l (cond (Nat.ble b i.2) (i.2+1) b);have:i.2<m:=by
   cases hb:Nat.ble b i.2 with
   |true=>rw[hb]at h h2;simp only[ane]at h h2;omega
   |false=>
    rw[hb]at h h2;simp only[ana]at h h2;have:¬b<=i.2:=λe=>by rw[Nat.ble_eq_true_of_le e]at hb;simp at hb
    omega
  rw[amL (λe=>by rw[<-e]at this;simp at this)];exact fR l _ k m h
abbrev KX:=AV->HL->amx Nm->Prop
def gC(ti:Nat->amy TE)(t:Nat):UK:=match ti t with
 |some i=>i.gT
 |none=>.B5
def Kc(ti:Nat->amy TE)(t:Nat)(cs:amx AV)(off:Nat)(K:AV->Prop):Prop:=match ti t with
 |some i=>OG i.agg i.sz cs off K
 |none=>False
def Ex(ti:Nat->amy TE)(t:Nat)(ys:amx AV):amz:=match ti t with
 |some i=>Nat.beq i.sz ys.length&&ys.all AV.dV
 |none=>false
def Ck(acV:Nat->amy (Nat×Nat))(cells:amx AV)(K:amx AV->Prop):amx (Nat×AV)->Prop
 | []=>K cells
 |(i,v)::rest=>match acV i with
  |some (off,size)=>fc v λv=>match Nat.beq v.cells.length size&&v.cells.all AV.dV with
   |true=>Cj cells off v.cells λcs=>Ck acV cs K rest
   |false=>False
  |none=>False
def mS{acV:Nat->amy (Nat×Nat)}{K:amx AV->Prop}:(ps:amx (Nat×AV))->(cells:amx AV)->Ck acV cells K ps->∃cs,ic acV cells ps=some cs/\K cs
 | [],cells,h=>⟨cells,rfl,h⟩
 |(i,v)::rest,cells,h=>by
  simp only[Ck]at h;split at h
  ·rename_i off size hp;have h:=fm h;split at h
   ·rename_i hc;simp only[amC]at hc;obtain⟨h1,h⟩:=kG _ _ _ h;obtain⟨cs,h2,h3⟩:=mS rest _ h;have e:=amK hc.1;refine⟨cs,?_,h3⟩;simp only[ic,hp];rw[amH ⟨e,by omega,hc.2⟩];exact h2
   ·exact h.elim
  ·exact h.elim
def La(ti:Nat->amy TE):amx (Nat×Nat)->Nat->amy (Nat×Nat)
 | [],_=>none
 |(o,t)::_,0=>match ti t with|some i=>some (o,i.sz)|none=>none
 |_::r,n+1=>La ti r n
def Kd(ti:Nat->amy TE)(t:Nat):amy (Nat×Nat):=match ti t with
 |some i=>match i.gT with
  |.slice e=>match ti e with
   |some j=>cond (Nat.beq j.zero.length j.sz&&Nat.ble 1 j.sz&&Nat.ble 1 j.bytes) (some (j.sz,j.bytes)) none
   |none=>none
  |_=>none
 |none=>none
def oL(ti:Nat->amy TE)(t:Nat):amy Nat:=match ti t with
 |some i=>match i.gT with
  |.slice e=>match ti e with
   |some j=>some j.sz
   |none=>none
  |_=>none
 |none=>none
def Y1(ti:Nat->amy TE)(b:Nat)(l:HL)(t:Nat)(x y:AV)(K:KX):Prop:=match Kd ti t with
 |some (sz,bytes)=>match x,y with
  |.sl sz1 (.tail j) xs,.sl sz2 _ ys=>match Nat.beq sz1 sz&&Nat.beq sz2 sz with
   |true=>match lk l j with
    |some (.tail sz3 n)=>match Nat.beq sz3 sz with
     |true=>n=xs.length/\(xs.length+ys.length)*bytes<=140737488355328/\mR j (.tail sz (xs++ys).length) l λl'=>K (.sl sz (.tail j) (xs++ys)) l' [j]
     |false=>False
    |_=>False
   |false=>False
  |.sl sz1 .eD xs,.sl sz2 _ ys=>match Nat.beq sz2 sz&&(Nat.beq sz1 sz||xs.isEmpty)with
   |true=>(xs.length+ys.length)*bytes<=140737488355328/\((∃k,nx b l=k/\K (.sl sz (.tail (1,k)) (xs++ys)) (((1,k),.tail sz (xs++ys).length)::l) [])\/
    (xs=[]/\∃k,nx b l=k/\K (.ms (1,k) sz ys.length) (((1,k),.br sz ys)::l) []))
   |false=>False
  |.sub j sz1 0 i N,.sub j' sz2 lo m N'=>match Nat.beq sz1 sz&&Nat.beq sz2 sz&&qL j' j with
   |true=>match lk l j with
    |some (.br sz3 xs)=>match Nat.beq sz3 sz with
     |true=>N'=N/\xs.length=N/\xs≠ []/\i+m<=N/\∃xs',xs.take i++(xs.drop lo).take m++xs.drop (i+m)=xs'/\mR j (.br sz xs') l λl'=>K (.sub j sz 0 (i+m) N) l' [j]
     |false=>False
    |_=>False
   |false=>False
  |.ms j sz1 n,.sl sz2 _ ys=>match Nat.beq sz1 sz&&Nat.beq sz2 sz with
   |true=>match lk l j with
    |some (.br sz3 xs)=>match Nat.beq sz3 sz with
     |true=>xs.length=n/\xs≠ []/\(xs.length+ys.length)*bytes<=140737488355328/\∃k,nx b l=k/\mR j (.br sz []) l λl'=>∃q,n+ys.length=q/\K (.ms (1,k) sz q) (((1,k),.br sz (xs++ys))::l') [j]
     |false=>False
    |_=>False
   |false=>False
  |_,_=>False
 |none=>False
def lK(P:Program)(ge:GE)(b:Nat)(f:FuncId)(args:amx AV)(hp:Hp)(R:AV->Hp->Prop):Prop:=
 ∀g fr w vs,(∀j,(fr j).isSome=true->j.1<1\/(j.1=1/\j.2<b))->eW g w hp fr->lJ g ge->VL g args vs.toList->
  Calls P f vs w λe w'=>∃v g' x hp',e= .returned v/\G.Le g g'/\eW g' w' hp' fr/\V g' x v/\R x hp'
def ep.OH{o:Oper}{b:Nat}{hp:Hp}{K:AV->Hp->Prop}{x:Operand}{args:Array Operand}{argTypes:Array TypeId}{f:FuncId}{first acr:amx AV}(ho:o.op= .call {callee:=.value x,args:=args,argTypes:=argTypes})
 (hx:bH ge tm x= .fn (.func f) first acr) (he:bL P f=true) (hF:∀j,F j->j.1<1\/(j.1=1/\j.2<b)) (hc:lK P ge b f (first++args.toList.map (bH ge tm)++acr) hp K):ep P ge F o tm hp K:=by
 intro g fr w a Q fi r k v;have hv:=v x (by simp[ho,Op.operands,Call.operands]);rw[hx]at hv;simp only[V]at hv;obtain⟨fa,ca,e,h1,h2⟩:=hv;have acO:(execOp a.eval o).run P w= .ok (.enter f (fa++args.map a.eval++ca)) w:=by
  grind [execOp,resolve,Deferred.ofValue,invoke,qy]
 simp only[Oper.wp,acO,Oper.upon];refine(hc g fr w _ (λj hj=>hF j (fi j hj)) r k ?_).mono λe' w'⟨u,g',y,hp',e1,k1,k2,k3,k4⟩=>?_
 ·have:=VL.append _ _ (VL.append _ _ h1 _ _ (vT args.toList (λz hz=>v z (by simp[ho,Op.operands,Call.operands];exact .inr (by simpa using hz))))) _ _ h2;simp_all
 ·subst e1
  grind
def qM(b:Nat)(l l':HL)(ch:amx Nm):Prop:=(∀j,(aM l j).isSome=true->j∉ch->aM l' j=aM l j)/\(∀j,(aM l j).isSome=true->(aM l' j).isSome=true)/\∀j,(aM l j).isSome=false->(aM l' j).isSome=true->j.1=1/\b<=j.2
def CH(b:Nat)(l:HL)(K:KX):AV->Hp->Prop:=λx h'=>∃l' ch,h'=aM l'/\qM b l l' ch/\K x l' ch
def Cl:BinOp->amz
 |.shr=>true
 |_=>false
def Cm{op:BinOp}(h:Cl op=true):op= .shr:=by cases op<;>simp[Cl]at h<;>rfl
def Cn:BinOp->amz
 |.shl=>true
 |_=>false
def Co{op:BinOp}(h:Cn op=true):op= .shl:=by cases op<;>simp[Cn]at h<;>rfl
def OI(i:Int)(K:Nat->Prop)(l:Nat):Nat->Prop:=Nat.rec (λ_=>True) (λ_ ih k=>(i=(k:Nat)->K k)/\ih (k+1)) l
def pZ{i:Int}{K:Nat->Prop}:(l k:Nat)->OI i K l k->(k:Int)<=i->i<((k+l:Nat):Int)->K i.toNat
 |0,k,_,h1,h2=>by omega
 |l+1,k,h,h1,h2=>by
  by_cases e:i=(k:Nat)
  ·have:=h.1 e
   grind
  ·exact pZ l (k+1) h.2 (by omega) (by omega)
def OJ(ti:Nat->amy TE)(x y:AV)(c:amz):Prop:=(∃a b u v,x= .iface a u/\y= .iface b v/\a≠b/\c=false)\/(∃a u v i,x= .iface a (.bool u)/\y= .iface a (.bool v)/\c=(u==v)/\ti a=some i/\i.gT= .bool/\i.OD=true)
def Ey(ge:GE)(ti:Nat->amy TE)(tm:Tm)(l:HL)(o:Oper)(K:AV->amy Nm->Prop):Prop:=
 match o.op with
 |.move x=>fc (bH ge tm x) λy=>K y none
 |.assign x=>fc (bH ge tm x) λy=>K y none
 |.pick c x y=>match bH ge tm c with
  |.bool t=>fc (vX t (bH ge tm x) (bH ge tm y)) λz=>K z none
  |_=>False
 |.load t x=>match bH ge tm x with
  |.ptr j off=>match lk l j with
   |some (.cells cs)=>Kc ti t cs off λy=>K y (some j)
   |some (.br sz xs)=>∃i q z,off=i*sz+q/\ey xs i=some z/\match z.cells.all AV.dV with
    |true=>Kc ti t z.cells q λy=>K y (some j)
    |false=>False
   |_=>False
  |.aQ (c::cs) off=>Kc ti t (c::cs) off λy=>K y none
  |_=>False
 |.fieldAddr s x f=>match ti s with
  |some i=>match i.gT with
   |.struct=>match ey i.tf f with
    |some (off,t)=>match ti t with
     |some i2=>match Nat.ble 1 i2.sz with
      |true=>match bH ge tm x with
       |.ptr j n=>K (.ptr j (n+off)) none
       |.aQ cs n=>K (.aQ cs (n+off)) none
       |_=>False
      |false=>False
     |none=>False
    |none=>False
   |_=>False
  |none=>False
 |.field s x f=>match ti s with
  |some i=>match i.gT with
   |.struct=>match ey i.tf f with
    |some (off,t)=>match bH ge tm x with
     |.agg cs=>Kc ti t cs off λy=>K y none
     |_=>False
    |none=>False
   |_=>False
  |none=>False
 |.extract x i=>match bH ge tm x with
  |.bR cs=>Ew cs i λy=>K y none
  |_=>False
 |.makeFunc fn first acr=>K (.fn fn (first.toList.map (bH ge tm)) (acr.toList.map (bH ge tm))) none
 |.build t acp=>match ti t with
  |some i=>match i.gT with
   |.struct=>AF i.zero λzs=>Ck (La ti i.tf) zs (λcs=>K (.agg cs) none) (acp.toList.map λq=>(q.1,bH ge tm q.2))
   |.array _ e=>match ti e with
    |some j=>AF i.zero λzs=>Ck (λn=>some (n*j.sz,j.sz)) zs (λcs=>K (.agg cs) none) (acp.toList.map λq=>(q.1,bH ge tm q.2))
    |none=>False
   |_=>False
  |none=>False
 |.buildSlice t len acp=>match ti t with
  |some i=>match i.gT with
   |.slice e=>match ti e with
    |some j=>match Nat.beq len acp.size&&Nat.beq j.zero.length j.sz&&Nat.ble (len*j.sz) 16777216&&Nat.ble len 16777216&&oy j.sz (acp.toList.map λq=>(q.1,bH ge tm q.2))with
     |true=>AF (acp.toList.map λq=>bH ge tm q.2) λxs=>K (.sl j.sz .eD xs) none
     |false=>False
    |none=>False
   |_=>False
  |none=>False
 |.indexAddr t x y=>match oL ti t,bH ge tm x,bH ge tm y with
  |some sz,.sl sz' _ xs,.int _ i=>match Nat.beq sz' sz with
   |true=>∃xs',bC xs xs'/\∃z,au xs' i=some z/\match z.cells.all AV.dV with
    |true=>AF z.cells λcs=>K (.aQ cs 0) none
    |false=>False
   |false=>False
  |some sz,.ms j sz' n,.int _ i=>match Nat.beq sz' sz with
   |true=>0<=i/\i<n/\∃m,i.toNat*sz=m/\K (.ptr j m) none
   |false=>False
  |some sz,.sub j sz' lo n _,.int _ i=>match Nat.beq sz' sz with
   |true=>0<=i/\i<n/\∃m,(lo+i.toNat)*sz=m/\K (.ptr j m) none
   |false=>False
  |none,.aQ cs n,.int _ i=>match gC ti t with
   |.array len e=>match ti e with
    |some te=>0<=i/\i<len/\OI i (λk=>∃m,n+k*te.sz=m/\K (.aQ cs m) none) len 0
    |none=>False
   |_=>False
  |none,.ptr j n,.int _ i=>match gC ti t with
   |.array len e=>match ti e with
    |some te=>0<=i/\i<len/\∃m,n+i.toNat*te.sz=m/\K (.ptr j m) none
    |none=>False
   |_=>False
  |_,_,_=>False
 |.index t x y=>match gC ti t,bH ge tm x,bH ge tm y with
  |.string,.an s,.int _ i=>∃c,0<=i/\s[i.toNat]?=some c/\K (.int .u8 c.toNat) none
  |.array n e,.agg cs,.int _ i=>match ti e with
   |some j=>0<=i/\i<n/\∃z,cut j.agg j.sz cs (i.toNat*j.sz)=some z/\fc z λz=>K z none
   |none=>False
  |_,_,_=>False
 |.slice t x lo hi none=>match bH ge tm x,uN ge tm lo,uN ge tm hi with
  |.an s,some lo,some hi=>match gC ti t with
   |.string=>0<=lo.getD 0/\lo.getD 0<=hi.getD s.size/\hi.getD s.size<=s.size/\K (.an (s.extract (lo.getD 0).toNat (hi.getD s.size).toNat)) none
   |_=>False
  |.sl sz' _ xs,some lo,some hi=>match oL ti t with
   |some sz=>match Nat.beq sz' sz with
    |true=>∃xs',bC xs xs'/\0<=lo.getD 0/\lo.getD 0<=hi.getD xs'.length/\hi.getD xs'.length<=xs'.length/\K (.sl sz .no ((xs'.drop (lo.getD 0).toNat).take ((hi.getD xs'.length).toNat - (lo.getD 0).toNat))) none
    |false=>False
   |none=>False
  |.ms j sz' N,some lo,some hi=>match oL ti t with
   |some sz=>match Nat.beq sz' sz with
    |true=>0<=lo.getD 0/\lo.getD 0<=hi.getD N/\hi.getD N<=N/\∃a,(lo.getD 0).toNat=a/\∃b,(hi.getD N).toNat - a=b/\K (.sub j sz a b N) none
    |false=>False
   |none=>False
  |.sub j sz' 0 n N,some lo,some hi=>match oL ti t with
   |some sz=>match Nat.beq sz' sz with
    |true=>0<=lo.getD 0/\lo.getD 0<=hi.getD n/\hi.getD n<=N/\∃a,(lo.getD 0).toNat=a/\∃b,(hi.getD n).toNat - a=b/\K (.sub j sz a b N) none
    |false=>False
   |none=>False
  |.aQ cs 0,some none,some none=>match gC ti t with
   |.array n e=>match ti e with
    |some te=>match Nat.ble n 4611686018427387904 with
     |true=>∃xs,xs.flatMap AV.cells=cs/\xs.length=n/\(xs.all λy=>Nat.beq y.cells.length te.sz&&y.cells.all AV.dV)=true/\K (.sl te.sz .no xs) none
     |false=>False
    |none=>False
   |_=>False
  |_,_,_=>False
 |.slice t x (some lo) (some hi) (some mx)=>match oL ti t,bH ge tm x with
  |some sz,.ms _ sz' N=>match Nat.beq sz' sz with
   |true=>match bH ge tm lo,bH ge tm hi,bH ge tm mx with
    |.int _ a,.int _ b,.int _ c=>0<=a/\a<=b/\b<=c/\c<=N/\K .any none
    |_,_,_=>False
   |false=>False
  |_,_=>False
 |.typeAssert x _ t false=>match ti t with
  |some i=>match i.gT with
   |.iface=>False
   |_=>∃v,bH ge tm x= .iface t v/\K v none
  |none=>False
 |.makeInterface t x=>match ti t with
  |some i=>match i.gT with
   |.iface=>False
   |_=>K (.iface t (bH ge tm x)) none
  |none=>False
 |.binOp op t x y _=>match gC ti t with
  |.iface=>match op with
   |.eql=>∃c,OJ ti (bH ge tm x) (bH ge tm y) c/\K (.bool c) none
   |_=>False
  |.pointer=>match uT (bH ge tm x),bH ge tm y with
   |some c,.dY=>match op with
    |.eql=>K (.bool c) none
    |.neq=>K (.bool (!c)) none
    |_=>False
   |_,_=>False
  |.func=>match uU (bH ge tm x),bH ge tm y with
   |some c,.cy=>match op with
    |.eql=>K (.bool c) none
    |.neq=>K (.bool (!c)) none
    |_=>False
   |_,_=>False
  |_=>match bH ge tm x,bH ge tm y with
   |.int k a,.int k' c=>match Cl op with
    |true=>0<=c/\K (.int k (a.fdiv (2 ^ min c.toNat k.bits))) none
    |false=>match Cn op with
     |true=>0<=c/\K (.int k (k.wrap (a*2 ^ min c.toNat k.bits))) none
     |false=>match decide (k=k')with
      |true=>match op with
       |.quo=>c≠0/\K (.int k (k.wrap (a.tdiv c))) none
       |.rem=>c≠0/\K (.int k (a.tmod c)) none
       |op=>match qr op k a c with
        |some z=>K z none
        |none=>False
      |false=>False
   |.an a,.an c=>match op with
    |.add=>a.size+c.size<=9223372036854775807/\K (.an (a++c)) none
    |op=>match qu op a c with
     |some z=>K z none
     |none=>False
   |.bool a,.bool c=>match gC ti t with
    |.bool=>match op with
     |.eql=>K (.bool (a==c)) none
     |.neq=>K (.bool (!(a==c))) none
     |_=>False
    |_=>False
   |_,_=>False
 |.unOp op _ x=>match op,bH ge tm x with
  |.not,.bool c=>K (.bool (!c)) none
  |.neg,.int k n=>K (.int k (k.wrap (0 - n))) none
  |_,_=>False
 |.nilCheck x=>match qF (bH ge tm x)with
  |true=>fc (bH ge tm x) λy=>K y none
  |false=>False
 |.convert s t x=>match ti s,gC ti t,bH ge tm x with
  |some _,.int k',.int _ n=>K (.int k' (k'.wrap n)) none
  |_,_,_=>False
 |.call c=>match c.callee with
  |.builtin .len=>match c.args.toList,c.argTypes.toList with
   | [x],[t]=>match gC ti t,bH ge tm x with
    |.slice _,.sl _ _ xs=>∃xs',bC xs xs'/\K (.int .i64 xs'.length) none
    |.slice _,.ms _ _ n=>K (.int .i64 n) none
    |.slice _,.sub _ _ _ n _=>K (.int .i64 n) none
    |.string,.an s=>K (.int .i64 s.size) none
    |_,_=>False
   |_,_=>False
  |.builtin .min=>match c.args.toList with
   | [x,y]=>match bH ge tm x,bH ge tm y with
    |.int k a,.int _ c=>K (.int k (if c<a then c else a)) none
    |_,_=>False
   |_=>False
  |.builtin .max=>match c.args.toList with
   | [x,y]=>match bH ge tm x,bH ge tm y with
    |.int k a,.int _ c=>K (.int k (if a<c then c else a)) none
    |_,_=>False
   |_=>False
  |_=>False
 |_=>False
def T0(z:AV)(q:Nat)(y:AV)(sz:Nat)(K:AV->Prop):Prop:=match z with
 |.agg cs=>AF y.cells λys=>Cj cs q ys λcs'=>K (.agg cs')
 |_=>match Nat.beq q 0&&Nat.beq y.cells.length sz with
  |true=>fc y K
  |false=>False
def Cp{z:AV}{q:Nat}{y:AV}{sz:Nat}{K:AV->Prop}(h:T0 z q y sz K):∃z',((∃cs,z= .agg cs/\z'= .agg (eH cs q y.cells))\/(z'=y/\q=0/\y.cells.length=sz))/\K z':=by
 unfold T0 at h;split at h
 ·obtain⟨_,h⟩:=kG _ _ _ (eX _ h);exact⟨_,.inl ⟨_,rfl,rfl⟩,h⟩
 ·split at h
  ·rename_i hc;simp only[amC]at hc;exact⟨_,.inr ⟨rfl,amK hc.1,amK hc.2⟩,fm h⟩
  ·exact h.elim
def SK(P:Program)(ge:GE)(ti:Nat->amy TE)(b:Nat)(tm:Tm)(l:HL)(o:Oper)(K:KX):Prop:=
 match o.op with
 |.store t x y=>match bH ge tm x with
  |.ptr j off=>match lk l j with
   |some (.cells cs)=>match Ex ti t (bH ge tm y).cells with
    |true=>AF (bH ge tm y).cells λys=>Cj cs off ys λcs'=>mR j (.cells cs') l λl'=>K (.bR []) l' [j]
    |false=>False
   |some (.br sz xs)=>match Ex ti t (bH ge tm y).cells with
    |true=>∃i q z,off=i*sz+q/\ey xs i=some z/\Nat.ble (q+(bH ge tm y).cells.length) sz=true/\T0 z q (bH ge tm y) sz λz'=>∃xs',bC (xs.set i z') xs'/\mR j (.br sz xs') l λl'=>K (.bR []) l' [j]
    |false=>False
   |_=>False
  |_=>False
 |.alloc t=>match ti t with
  |some i=>AF i.zero λcs=>∃k,nx b l=k/\K (.ptr (1,k) 0) (((1,k),.cells cs)::l) []
  |none=>False
 |.box _ x=>match(bH ge tm x).cells.all AV.dV with
  |true=>AF (bH ge tm x).cells λcs=>∃k,nx b l=k/\K (.ptr (1,k) 0) (((1,k),.cells cs)::l) []
  |false=>False
 |.range t x=>match gC ti t,bH ge tm x with
  |.map _ _,.map i=>match lk l i with
   |some (.map _)=>∃k,nx b l=k/\K (.ptr (1,k) 0) (((1,k),.sJ i)::l) []
   |_=>False
  |.string,.an s=>∃k,nx b l=k/\K (.ptr (1,k) 0) (((1,k),.ot s 0)::l) []
  |_,_=>False
 |.next x an=>match bH ge tm x with
  |.ptr j 0=>match lk l j with
   |some (.sJ i)=>match an with
    |false=>match lk l i with
     |some (.map [])=>K (.bR [.bool false]) l []
     |_=>False
    |true=>False
   |some (.ot s pos)=>match an with
    |true=>(pos<s.size->mR j (.ot s (pos+(Utf8.decode s pos).2)) l λl'=>K (.bR [.bool true,.int .i64 pos,.int .i32 (Utf8.decode s pos).1]) l' [j])/\(s.size<=pos->K (.bR [.bool false]) l [])
    |false=>False
   |_=>False
  |_=>False
 |.makeMap t none=>match ti t with
  |some _=>∃k,nx b l=k/\K (.map (1,k)) (((1,k),.map [])::l) []
  |none=>False
 |.lookup t x y ok=>match gC ti t with
  |.map key elem=>match gC ti key,ti elem,bH ge tm x,bH ge tm y with
   |.string,some te,.map j,.an s=>match lk l j with
    |some (.map es)=>∃c v,eB es s=some (cond c (some v) none)/\(c=false->te.agg=false/\te.zero=[v]\/te.agg=true/\v= .agg te.zero)/\K (Ax ok v c) l []
    |_=>False
   |_,_,_,_=>False
  |_=>False
 |.mapUpdate t x y z=>match gC ti t with
  |.map key _=>match gC ti key,bH ge tm x,bH ge tm y with
   |.string,.map j,.an s=>match lk l j with
    |some (.map es)=>∃es',hC es s (bH ge tm z)=some es'/\mR j (.map es') l λl'=>K (.bR []) l' [j]
    |_=>False
   |_,_,_=>False
  |_=>False
 |.insert t x y z=>match gC ti t with
  |.map key _=>match gC ti key,bH ge tm x,bH ge tm y with
   |.string,.map j,.an s=>match lk l j with
    |some (.map es)=>∃es',hC es s (bH ge tm z)=some es'/\mR j (.map es') l λl'=>K (.bR []) l' [j]
    |_=>False
   |_,_,_=>False
  |_=>False
 |.call c=>match c.callee with
  |.builtin .append=>match c.args.toList,c.argTypes.toList with
   | [x,y],[t,t']=>match Nat.beq t' t with
    |true=>Y1 ti b l t (bH ge tm x) (bH ge tm y) K
    |false=>False
   |_,_=>False
  |.builtin .clear=>match c.args.toList,c.argTypes.toList with
   | [x],[t]=>match ti t,bH ge tm x with
    |some i,.sub j sz lo n N=>match i.gT with
     |.slice e=>match ti e with
      |some te=>match Nat.beq te.sz sz&&Nat.beq te.zero.length te.sz&&te.zero.all AV.dV with
       |true=>match lk l j with
        |some (.br sz3 xs)=>match Nat.beq sz3 sz with
         |true=>xs.length=N/\∃zx,(zx= .agg te.zero\/te.zero=[zx])/\∃xs',bC (xs.take lo++List.replicate n zx++xs.drop (lo+n)) xs'/\mR j (.br sz xs') l λl'=>K (.bR []) l' [j]
         |false=>False
        |_=>False
       |false=>False
      |none=>False
     |_=>False
    |_,_=>False
   |_,_=>False
  |.value x=>match bH ge tm x with
   |.fn (.func f) first acr=>bL P f=true/\lK P ge b f (first++c.args.toList.map (bH ge tm)++acr) (aM l) (CH b l K)
   |_=>False
  |_=>False
 |.binOp .eql t x (.const (.slice none _ _)) _=>match gC ti t,bH ge tm x with
  |.slice _,.sl _ _ xs=>∀c:amz,(c=true->xs=[])->K (.bool c) l []
  |_,_=>False
 |_=>False
def Z1(o:Oper):amz:=match o.op with
 |.store ..|.alloc ..|.box ..|.binOp .eql _ _ (.const (.slice none _ _)) _|.range ..|.next ..|.makeMap ..|.lookup ..|.mapUpdate ..|.insert ..=>true
 |.call c=>match c.callee with
  |.builtin .append|.builtin .clear|.value _=>true
  |_=>false
 |_=>false
def OK(ge:GE)(ti:Nat->amy TE)(b:Nat)(tm:Tm)(l:HL)(o:Oper)(K:KX):Prop:=
 match o.op with
 |.buildSlice t len acp=>match ti t with
  |some i=>match i.gT with
   |.slice e=>match ti e with
    |some j=>match Nat.beq len acp.size&&Nat.beq j.zero.length j.sz&&Nat.ble (len*j.sz) 16777216&&Nat.ble len 16777216&&oy j.sz (acp.toList.map λq=>(q.1,bH ge tm q.2))with
     |true=>AF (acp.toList.map λq=>bH ge tm q.2) λxs=>xs≠ []/\∃k,nx b l=k/\∃n,xs.length=n/\K (.ms (1,k) j.sz n) (((1,k),.br j.sz xs)::l) []
     |false=>False
    |none=>False
   |_=>False
  |none=>False
 |_=>False
def OL(o:Oper):amz:=match o.op with
 |.buildSlice ..=>true
 |_=>false
def SX(P:Program)(ge:GE)(ti:Nat->amy TE)(b:Nat)(tm:Tm)(l:HL)(o:Oper)(K:KX):Prop:=match Z1 o with
 |true=>SK P ge ti b tm l o K
 |false=>match OL o with
  |true=>(Ey ge ti tm l o λx _=>K x l [])\/OK ge ti b tm l o K
  |false=>Ey ge ti tm l o λx _=>K x l []
end
section
variable {P:Program}{ge:GE}{F:Nm->Prop}{tm:Tm}{l:HL}{o:Oper}{ti:Nat->amy TE}
def T2(P:Program)(ge:GE)(tm:Tm)(l:HL)(o:Oper)(K:AV->amy Nm->Prop):Prop:=∃S x dep,Ev P ge o tm S x/\Up S/\S (aM l)/\(∀hq:Hp,(∀j,dep=some j->hq j=aM l j)->S hq)/\(∀j,dep=some j->(aM l j).isSome=true/\∃t a off,o.op= .load t a/\bH ge tm a= .ptr j off/\∀hq,eQ P hq t (.ptr j off)=some x->S hq)/\K x dep
def T2.of{K:AV->amy Nm->Prop}{x:AV}(e:Ev P ge o tm T1 x)(k:K x none):T2 P ge tm l o K:=⟨T1,x,none,e,Up.true,trivial,λ_ _=>trivial,λ_ h=>by simp at h,k⟩
theorem jj(ht:lr P ti){t:Nat}{cs:amx AV}{off:Nat}{K:AV->Prop}(h:Kc ti t cs off K):∃ag n y,fM P t=some ag/\cQ P t=some n/\cut ag n cs off=some y/\K y:=by
 unfold Kc at h;split at h
 ·rename_i i hi;have hk:=ht t i hi
  grind [AH,hk.OE,hk.size]
 ·exact h.elim
def gi(ht:lr P ti){t sz:Nat}(h:oL ti t=some sz):∃e,cF P t=some (e,sz):=by
 unfold oL at h;split at h
 ·rename_i i hi;split at h
  ·rename_i e he;split at h
   ·rename_i j hj;simp at h;subst h;exact⟨e,by simp[cF,(ht t i hi).slice he,(ht e j hj).size]⟩
   ·simp at h
  ·simp at h
 ·simp at h
def tx{x:amy Operand}(h:uN ge tm x=some none):x=none:=by
 cases x with
 |none=>rfl
 |some y=>simp only[uN]at h;split at h<;>simp at h
def bU(ht:lr P ti){t:Nat}{u:UK}(h:gC ti t=u)(hu:u≠ .B5):∃i,ti t=some i/\i.gT=u/\ka P t i:=by
 unfold gC at h;split at h
 ·rename_i i hi;exact⟨i,hi,h,ht t i hi⟩
 grind
def tz(ht:lr P ti):(fl:amx (Nat×Nat))->{fs:amx Go.Field}->qH fs fl=true->∀{ps:amx (Nat×Nat)},fs.mapM (λf=>(P.info? f.type).map λi=>(f.offset,i.size))=some ps->
 ∀n r,La ti fl n=some r->ps[n]?=some r
 | [],fs,h,ps,hp,n,r,e=>by simp[La]at e
 |(o,t)::fl,[],h,ps,hp,n,r,e=>by simp[qH]at h
 |(o,t)::fl,f::fs,h,ps,hp,n,r,e=>by
  simp only[qH,amC,am7]at h;rw[List.mapM_cons]at hp;cases hi:P.info? f.type with
  |none=>simp[hi]at hp
  |some it=>
   cases hr:fs.mapM (λf=>(P.info? f.type).map λi=>(f.offset,i.size))with
   |none=>simp[hi,hr]at hp
   |some rest=>
    simp[hi,hr]at hp;subst hp;cases n with
    |zero=>
     simp only[La]at e;split at e
     ·rename_i i ht';have hk:=(ht t i ht').size;simp only[amT]at e;subst e;rw[<-h.1.2]at hk;simp[cQ,hi]at hk;simp[h.1.1,hk]
     ·simp at e
    |succ n=>simpa using tz ht fl h.2 hr n r (by simpa[La]using e)
def Ev.T3{S:Hp->Prop}{x y:Operand}{ts:Array TypeId}{k k':IntKind}{a c:Int}(ho:o.op= .call {callee:=.builtin .min,args:=#[x,y],argTypes:=ts})(hx:bH ge tm x= .int k a)(hy:bH ge tm y= .int k' c):Ev P ge o tm S (.int k (if c<a then c else a)):=by
 refine .still (λg w act _ _ r kk v=>?_);have h1:=v x (by simp[ho,Op.operands,Call.operands]);have h2:=v y (by simp[ho,Op.operands,Call.operands]);rw[hx]at h1;rw[hy]at h2;simp only[V]at h1 h2 |-;exact⟨_,by simp[execOp,ho,resolve,invoke,builtin,Builtin.min_,Builtin.min2,h1,h2],rfl⟩
def Ev.T9{S:Hp->Prop}{x y:Operand}{ts:Array TypeId}{k k':IntKind}{a c:Int}(ho:o.op= .call {callee:=.builtin .max,args:=#[x,y],argTypes:=ts})(hx:bH ge tm x= .int k a)(hy:bH ge tm y= .int k' c):Ev P ge o tm S (.int k (if a<c then c else a)):=by
 refine .still (λg w act _ _ r kk v=>?_);have h1:=v x (by simp[ho,Op.operands,Call.operands]);have h2:=v y (by simp[ho,Op.operands,Call.operands]);rw[hx]at h1;rw[hy]at h2;simp only[V]at h1 h2 |-;exact⟨_,by simp[execOp,ho,resolve,invoke,builtin,Builtin.max_,Builtin.max2,h1,h2],rfl⟩
def Ey.bN(ht:lr P ti){K:AV->amy Nm->Prop}(h:Ey ge ti tm l o K):T2 P ge tm l o K:=by
 unfold Ey at h;cases hop:o.op<;>simp only[hop]at h<;>try (exact h.elim)
 case move x=>exact .of (Ev.move hop) (fm h)
 case assign x=>exact .of (Ev.assign hop) (fm h)
 case pick c x y=>
  split at h
  ·rename_i t hc;have h:=fm h;rw[B2]at h;exact .of (Ev.pick hop hc) h
  ·exact h.elim
 case load t x=>
  split at h
  ·rename_i j off hx;split at h
   ·rename_i cs hj;obtain⟨ag,n,y,h1,h2,h3,h4⟩:=jj ht h;rw[<-cz]at hj;refine⟨_,y,some j,hx▸Ev.load hop,Up.load,?_,λhq hh=>?_,λj' e=>by simp at e;subst e;exact⟨by simp[hj],t,x,off,hop,hx,λhq h=>h⟩,h4⟩
    ·simp[eQ,hj,h1,h2,h3]
    ·simp[eQ,hh j rfl,hj,h1,h2,h3]
   ·rename_i sz xs hj;obtain⟨i,q,z,hm,hz,h⟩:=h;split at h
    ·rename_i hsc;obtain⟨ag,n,y,h1,h2,h3,h4⟩:=jj ht h;rw[<-cz]at hj;rw[dk]at hz;refine⟨λhq=>hq j=some (.br sz xs)\/eQ P hq t (bH ge tm x)=some y,y,some j,λg w a hq hs=>?_,λa b hab hs=>?_,.inl hj,λhq hh=>.inl ((hh j rfl).trans hj),λj' e=>?_,h4⟩
     ·rcases hs with hs|hs
      ·exact Ev.En hop hx hm h1 h2 hz hsc h3 g w a hq hs
      ·exact Ev.load hop g w a hq hs
     ·rcases hs with hs|hs
      ·exact .inl (hab _ _ hs)
      ·exact .inr (km hab hs)
     ·simp at e;subst e;exact⟨by simp[hj],t,x,off,hop,hx,λhq h=>.inr (by rw[hx];exact h)⟩
    ·exact h.elim
   ·exact h.elim
  ·rename_i c cs off hx;obtain⟨ag,n,y,h1,h2,h3,h4⟩:=jj ht h;refine⟨_,y,none,hx▸Ev.load hop,Up.load,?_,λhq hh=>?_,λ_ h=>by simp at h,h4⟩
   ·simp[eQ,h1,h2,h3]
   ·simp[eQ,h1,h2,h3]
  ·exact h.elim
 case fieldAddr s x f=>
  split at h
  ·rename_i i hi;split at h
   ·rename_i hu;split at h
    ·rename_i off t hf;split at h
     ·rename_i i2 hi2;split at h
      ·rename_i hb;have hs:=(ht t i2 hi2).size;obtain⟨n,hn⟩:∃n,i2.sz=n+1:=⟨i2.sz - 1,by have:=am4 hb;omega⟩;rw[hn]at hs;have hfo:=(ht s i hi).field hu hf;split at h
       ·rename_i j m hx;exact .of (Ev.fieldAddr hop hfo hs (by rw[hx];rfl)) h
       ·rename_i j m hx;exact .of (Ev.fieldAddr hop hfo hs (by rw[hx];rfl)) h
       ·exact h.elim
      ·exact h.elim
     ·exact h.elim
    ·exact h.elim
   ·exact h.elim
  ·exact h.elim
 case field s x f=>
  split at h
  ·rename_i i hi;split at h
   ·rename_i hu;split at h
    ·rename_i off t hf;split at h
     ·rename_i cs hx;obtain⟨ag,n,y,h1,h2,h3,h4⟩:=jj ht h;exact .of (Ev.field hop ((ht s i hi).field hu hf) h2 h1 hx h3) h4
     ·exact h.elim
    ·exact h.elim
   ·exact h.elim
  ·exact h.elim
 case extract x i=>
  split at h
  ·rename_i cs hx;obtain⟨y,h1,h2⟩:=mQ _ _ h;exact .of (Ev.extract hop hx h1) h2
  ·exact h.elim
 case makeFunc fn first acr=>exact .of (Ev.makeFunc hop) h
 case build t acp=>
  split at h
  ·rename_i i hi;split at h
   ·rename_i hu;obtain⟨cs,h1,h2⟩:=mS _ _ (eX _ h);refine .of (Ev.build hop ?_) h2;obtain⟨it,k1,k2,k3,z,k4,k5,k6⟩:=(ht t i hi).mJ;obtain⟨d,k7,k8,k9,k10⟩:=(ht t i hi).gT;rw[hu]at k9;obtain⟨fs,rfl⟩:∃fs,d= .struct fs:=by cases d<;>simp[ln]at k9;exact⟨_,rfl⟩
    have hfl:=(k10 fs rfl).1;obtain⟨ps,hps⟩:=aoI.1 (k10 fs rfl).2;simp only[ox,k1,k7,k4,hps];have key:∀(q:amx (Nat×AV))(c cs:amx AV),ic (La ti i.tf) c q=some cs->ic (ps.toArray[·]?) c q=some cs:=by
     intro q
     induction q with
     |nil=>intro c cs h;exact h
     |cons p q ih=>
      intro c cs h;obtain⟨n,v⟩:=p;simp only[ic]at h |-;split at h
      ·simp at h
      ·rename_i off size hp;have:=tz ht i.tf hfl hps n _ hp;have e2:ps.toArray[n]?=some (off,size):=by simpa using this
       simp only[e2];split at h
       ·rename_i hc;rw[amH hc];exact ih _ _ h
       ·simp at h
    rw[k5,key _ _ _ h1];rfl
   ·rename_i n e hu;split at h
    ·rename_i j hj;obtain⟨cs,h1,h2⟩:=mS _ _ (eX _ h);refine .of (Ev.build hop ?_) h2;obtain⟨it,k1,k2,k3,z,k4,k5,k6⟩:=(ht t i hi).mJ;have k7:=(ht t i hi).array hu;obtain⟨ie,m1,m2,_⟩:=(ht e j hj).mJ;simp only[ox,k1,k7,k4,m1,k5,m2,h1];rfl
    ·exact h.elim
   ·exact h.elim
  ·exact h.elim
 case buildSlice t len acp=>
  split at h
  ·rename_i i hi;split at h
   ·rename_i e hu;split at h
    ·rename_i j hj;split at h
     ·rename_i hc;simp only[amC]at hc;obtain⟨⟨⟨⟨h1,h2⟩,h3⟩,h3'⟩,h4⟩:=hc;have hs:cF P t=some (e,j.sz):=by simp[cF,(ht t i hi).slice hu,(ht e j hj).size]
      exact .of (Ev.buildSlice hop hs (ht e j hj).tg (amK h1) (amK h2) (am4 h3) (am4 h3') h4) (eX _ h)
     ·exact h.elim
    ·exact h.elim
   ·exact h.elim
  ·exact h.elim
 case indexAddr t x y=>
  split at h
  ·rename_i hs hx hy;split at h
   ·rename_i hb;obtain⟨xs',dW,z,hz,h⟩:=h;have e:=amK hb;subst e;obtain⟨e,he⟩:=gi ht hs;obtain⟨k0,k1⟩:=mM hz;split at h
    ·rename_i hsc;exact .of (Ev.indexAddr hop he hx dW hy k0 k1 hsc) (eX _ h)
    ·exact h.elim
   ·exact h.elim
  ·rename_i hs hx hy;split at h
   ·rename_i hb;obtain⟨h0,h1,m,rfl,h⟩:=h;have e:=amK hb;subst e;obtain⟨e,he⟩:=gi ht hs;exact .of (Ev.qv hop he hx hy h0 h1) h
   ·exact h.elim
  ·rename_i hs hx hy;split at h
   ·rename_i hb;obtain⟨h0,h1,m,rfl,h⟩:=h;have e:=amK hb;subst e;obtain⟨e,he⟩:=gi ht hs;exact .of (Ev.qJ hop he hx hy h0 h1) h
   ·exact h.elim
  ·rename_i hs hx hy;split at h
   ·rename_i len e hu;split at h
    ·rename_i te hte;obtain⟨h0,h1,h⟩:=h;obtain⟨i2,_,hiu,hk⟩:=bU ht hu (by simp);obtain⟨m,rfl,h⟩:=pZ _ _ h h0 (by simpa using h1);exact .of (Ev.tk hop (hk.array hiu) (ht e te hte).size hx hy h0 h1) h
    ·exact h.elim
   ·exact h.elim
  ·rename_i hs hx hy;split at h
   ·rename_i len e hu;split at h
    ·rename_i te hte;obtain⟨h0,h1,m,rfl,h⟩:=h;obtain⟨i2,_,hiu,hk⟩:=bU ht hu (by simp);exact .of (Ev.qx hop (hk.array hiu) (ht e te hte).size hx hy h0 h1) h
    ·exact h.elim
   ·exact h.elim
  ·exact h.elim
 case index t x y=>
  split at h
  ·rename_i hu hx hy;obtain⟨c,h0,h1,k⟩:=h;obtain⟨i,_,hiu,hk⟩:=bU ht hu (by simp);exact .of (Ev.BZ hop (hk.string hiu) hx hy h0 h1) k
  ·rename_i n e cs _ i hu hx hy;split at h
   ·rename_i j hj;obtain⟨h0,h1,z,h2,k⟩:=h;obtain⟨i2,_,hiu,hk⟩:=bU ht hu (by simp);exact .of (Ev.B0 hop (hk.array hiu) hx hy h0 h1 (ht e j hj).size (ht e j hj).OE h2) (fm k)
   ·exact h.elim
  ·exact h.elim
 case slice t x lo hi mx=>
  cases mx with
  |some mx=>
   cases lo<;>cases hi<;>simp only at h<;>try (exact h.elim)
   split at h
   ·rename_i sz N hs hx;split at h
    ·rename_i hb;have e:=amK hb;subst e;obtain⟨e,he⟩:=gi ht hs;split at h
     ·rename_i h1 h2 h3;obtain⟨k1,k2,k3,k4,k⟩:=h;exact .of (Ev.K9 hop he hx h1 h2 h3 k1 k2 k3 k4) k
     ·exact h.elim
    ·exact h.elim
   ·exact h.elim
  |none=>
   simp only at h;split at h
   ·rename_i hx hl hh;split at h
    ·rename_i hu;obtain⟨i,_,hiu,hk⟩:=bU ht hu (by simp);obtain⟨h0,h1,h2,k⟩:=h;exact .of (Ev.B1 hop (hk.string hiu) hx hl hh h0 h1 h2) k
    ·exact h.elim
   ·rename_i hx hl hh;split at h
    ·rename_i sz hs;split at h
     ·rename_i hb;have e:=amK hb;subst e;obtain⟨e,he⟩:=gi ht hs;obtain⟨xs',dW,h0,h1,h2,k⟩:=h;exact .of (Ev.slice hop he hx dW hl hh h0 h1 h2) k
     ·exact h.elim
    ·exact h.elim
   ·rename_i hx hl hh;split at h
    ·rename_i sz hs;split at h
     ·rename_i hb;have e:=amK hb;subst e;obtain⟨e,he⟩:=gi ht hs;obtain⟨h0,h1,h2,a,rfl,b,rfl,k⟩:=h;exact .of (Ev.Cc hop he hx hl hh h0 h1 h2) k
     ·exact h.elim
    ·exact h.elim
   ·rename_i hx hl hh;split at h
    ·rename_i sz hs;split at h
     ·rename_i hb;have e:=amK hb;subst e;obtain⟨e,he⟩:=gi ht hs;obtain⟨h0,h1,h2,a,rfl,b,rfl,k⟩:=h;exact .of (Ev.Cd hop he hx hl hh h0 h1 h2) k
     ·exact h.elim
    ·exact h.elim
   ·rename_i hx hl hh;split at h
    ·rename_i n e hu;obtain⟨i,_,hiu,hk⟩:=bU ht hu (by simp);split at h
     ·rename_i te hte;split at h
      ·rename_i hn;obtain⟨xs,h1,h2,h3,k⟩:=h;obtain rfl:lo=none:=tx hl;obtain rfl:hi=none:=tx hh;refine .of (Ev.B9 hop (hk.array hiu) (ht e te hte).size hx h1 h2 (am4 hn) λy hy=>?_) k;have:=amR.1 h3 y hy;simp only[amC]at this;exact⟨amK this.1,this.2⟩
      ·exact h.elim
     ·exact h.elim
    ·exact h.elim
   ·exact h.elim
 case typeAssert x s t ok=>
  cases ok<;>simp only at h
  ·split at h
   ·rename_i i hi;obtain⟨d,k1,_,k2,_⟩:=(ht t i hi).gT;split at h
    ·exact h.elim
    ·rename_i hne;obtain⟨v,hv,h⟩:=h;refine .of (Ev.Er hop k1 ?_ hv) h;cases d<;>first|rfl|skip
     cases hu:i.gT<;>rw[hu]at k2<;>simp[ln]at k2;exact absurd hu hne
   ·exact h.elim
 case makeInterface t x=>
  split at h
  ·rename_i i hi;obtain⟨d,k1,_,k2,_⟩:=(ht t i hi).gT;split at h
   ·exact h.elim
   ·rename_i hne;refine .of (Ev.makeInterface hop k1 ?_) h;cases d<;>first|rfl|skip
    cases hu:i.gT<;>rw[hu]at k2<;>simp[ln]at k2;exact absurd hu hne
  ·exact h.elim
 case binOp op t x y t'=>
  split at h
  ·rename_i hu;obtain⟨i,_,hiu,hk⟩:=bU ht hu (by simp);obtain⟨ms,hms⟩:=hk.iface hiu;split at h
   ·obtain⟨c,h1,h2⟩:=h;rcases h1 with⟨a,b,u,v,e1,e2,e3,rfl⟩|⟨a,u,v,i',e1,e2,rfl,e4,e5,e6⟩
    ·exact .of (Ev.Eo hop hms e1 e2 e3) h2
    ·obtain⟨it,k1,k2⟩:=(ht a i' e4).OD;exact .of (Ev.Ep hop hms e1 e2 k1 (k2.trans e6) ((ht a i' e4).bool e5)) h2
   ·exact h.elim
  ·rename_i hu;obtain⟨i,_,hiu,hk⟩:=bU ht hu (by simp);obtain⟨e,he⟩:=hk.pointer hiu;split at h
   ·rename_i c hx hy;split at h
    ·exact .of (Ev.Cf (neg:=false) hop he hx hy) (by rw[Bool.bne_false];exact h)
    ·exact .of (Ev.Cf (neg:=true) hop he hx hy) (by rw[Bool.bne_true];exact h)
    ·exact h.elim
   ·exact h.elim
  ·rename_i hu;obtain⟨i,_,hiu,hk⟩:=bU ht hu (by simp);obtain⟨ps,rs,vr,he⟩:=hk.func hiu;split at h
   ·rename_i c hx hy;split at h
    ·exact .of (Ev.Kb (neg:=false) hop he hx hy) (by rw[Bool.bne_false];exact h)
    ·exact .of (Ev.Kb (neg:=true) hop he hx hy) (by rw[Bool.bne_true];exact h)
    ·exact h.elim
   ·exact h.elim
  split at h
  ·rename_i k a k' c hx hy;split at h
   ·rename_i hsh;have:=Cm hsh;subst this;exact .of (Ev.KR hop hx hy h.1) h.2
   split at h
   ·rename_i hsh;have:=Co hsh;subst this;exact .of (Ev.KS hop hx hy h.1) h.2
   split at h
   ·rename_i hk;have hk:=anF hk;subst hk;split at h
    ·exact .of (Ev.quo hop hx hy h.1) h.2
    ·exact .of (Ev.rem hop hx hy h.1) h.2
    ·split at h
     ·rename_i z hz;exact .of (Ev.KO hop hx hy hz) h
     ·exact h.elim
   ·exact h.elim
  ·rename_i a c hx hy;split at h
   ·exact .of (Ev.KQ hop hx hy h.1) h.2
   ·split at h
    ·rename_i z hz;exact .of (Ev.KP hop hx hy hz) h
    ·exact h.elim
  ·rename_i a c hx hy;split at h
   ·rename_i hu;obtain⟨i,_,hiu,hk⟩:=bU ht hu (by simp);split at h
    ·exact .of (Ev.KY hop (hk.bool hiu) hx hy) h
    ·exact .of (Ev.KZ hop (hk.bool hiu) hx hy) h
    ·exact h.elim
   ·exact h.elim
  ·exact h.elim
 case unOp op t x=>
  split at h
  ·rename_i c hx;exact .of (Ev.Ou hop hx) h
  ·rename_i k n hx;exact .of (Ev.Ov hop hx) h
  ·exact h.elim
 case nilCheck x=>
  split at h
  ·rename_i hn;exact .of (Ev.nilCheck hop hn) (fm h)
  ·exact h.elim
 case convert s t x=>
  split at h
  ·rename_i i k' k n hs hu hx;obtain⟨i2,_,hiu,hk⟩:=bU ht hu (by simp);obtain⟨d,hd,_⟩:=(ht s i hs).gT;exact .of (Ev.Ei hop hd (hk.int hiu) hx) h
  ·exact h.elim
 case call c=>
  obtain⟨callee,args,argTypes⟩:=c;simp only at h;split at h
  ·split at h
   ·rename_i x t ae2 hty;have ha:args=#[x]:=by cases args;simp_all
    have hb:argTypes=#[t]:=by cases argTypes;simp_all
    subst ha hb;split at h
    ·rename_i e sz tok xs hu hx;obtain⟨i,_,hiu,hk⟩:=bU ht hu (by simp);obtain⟨xs',dW,h⟩:=h;exact .of (Ev.len hop (hk.slice hiu) hx dW) h
    ·rename_i hu hx;obtain⟨i,_,hiu,hk⟩:=bU ht hu (by simp);exact .of (Ev.K6 hop (hk.slice hiu) hx) h
    ·rename_i hu hx;obtain⟨i,_,hiu,hk⟩:=bU ht hu (by simp);exact .of (Ev.K8 hop (hk.slice hiu) hx) h
    ·rename_i s hu hx;obtain⟨i,_,hiu,hk⟩:=bU ht hu (by simp);exact .of (Ev.KU hop (hk.string hiu) hx) h
    ·exact h.elim
   ·exact h.elim
  ·split at h
   ·rename_i x y ae2;have ha:args=#[x,y]:=by cases args;simp_all
    subst ha;split at h
    ·rename_i hx hy;exact .of (Ev.T3 hop hx hy) h
    ·exact h.elim
   ·exact h.elim
  ·split at h
   ·rename_i x y ae2;have ha:args=#[x,y]:=by cases args;simp_all
    subst ha;split at h
    ·rename_i hx hy;exact .of (Ev.T9 hop hx hy) h
    ·exact h.elim
   ·exact h.elim
  ·exact h.elim
end
end Go.Ab

/- The logic of the walk. -/
import Derived.Test.YtlahelaeeahggaaGreatDoorA4
set_option linter.all false
open Go Go.RowKit
namespace Go.Ab
section
variable {P:Program}{ge:GE}{F:Nm->Prop}{S:Hp->Prop}{d N:Nat}{tm:Tm}{hp:Hp}{K:AV->Hp->Prop}{o:Oper}{Q:ff}
def bB.cond{c:Operand}{x y:Code}{b:amz}(hc:bH ge tm c= .bool b)(ht:b=true->bB P ge d N x Q tm hp)(hf:b=false->bB P ge d N y Q tm hp):bB P ge d N (.cond c x y) Q tm hp:=by
 intro g fr w a f r k v dd;have hv:=v.bH k c;rw[hc]at hv;simp only[V]at hv;exact wp_cond_split hv (λe=>ht e g fr w a f r k v dd) (λe=>hf e g fr w a f r k v dd)
def Ev.quo{t t':TypeId}{x y:Operand}{k:IntKind}{a b:Int}(ho:o.op= .binOp .quo t x y t')(hx:bH ge tm x= .int k a)(hy:bH ge tm y= .int k b)(hb:b≠0):
 Ev P ge o tm S (.int k (k.wrap (a.tdiv b))):=by
 refine .still (λg w act _ _ r kk v=>?_);have h1:=v x (by simp[ho,Op.operands]);have h2:=v y (by simp[ho,Op.operands]);rw[hx]at h1;rw[hy]at h2;simp only[V]at h1 h2 |-;exact⟨_,by simp[execOp,ho,h1,h2,eqGuard,binOp,Op.intDiv,hb],rfl⟩
def Ev.rem{t t':TypeId}{x y:Operand}{k:IntKind}{a b:Int}(ho:o.op= .binOp .rem t x y t')(hx:bH ge tm x= .int k a)(hy:bH ge tm y= .int k b)(hb:b≠0):
 Ev P ge o tm S (.int k (a.tmod b)):=by
 refine .still (λg w act _ _ r kk v=>?_);have h1:=v x (by simp[ho,Op.operands]);have h2:=v y (by simp[ho,Op.operands]);rw[hx]at h1;rw[hy]at h2;simp only[V]at h1 h2 |-;exact⟨_,by simp[execOp,ho,h1,h2,eqGuard,binOp,Op.intDiv,hb],rfl⟩
def run_equal_bool{t:TypeId}(ht:P.underlying t=some .bool)(a b:amz)(w:World):(Op.equal t (.bool a) (.bool b)).run P w= .ok (a==b) w:=by
 unfold Op.equal Op.maxDepth;rw[show(10000:Nat)=9999+1 from rfl];unfold Op.equalIn;simp only[amM,amI ht,amN];rfl
def Ev.KY{t t':TypeId}{x y:Operand}{a b:amz}(ho:o.op= .binOp .eql t x y t')(ht:P.underlying t=some .bool)(hx:bH ge tm x= .bool a)(hy:bH ge tm y= .bool b):
 Ev P ge o tm S (.bool (a==b)):=by
 refine .still (λg w act _ _ r kk v=>?_);have h1:=v x (by simp[ho,Op.operands]);have h2:=v y (by simp[ho,Op.operands]);rw[hx]at h1;rw[hy]at h2;simp only[V]at h1 h2 |-;exact⟨_,by simp[execOp,ho,h1,h2,eqGuard,binOp,run_equal_bool ht],rfl⟩
def Ev.KZ{t t':TypeId}{x y:Operand}{a b:amz}(ho:o.op= .binOp .neq t x y t')(ht:P.underlying t=some .bool)(hx:bH ge tm x= .bool a)(hy:bH ge tm y= .bool b):
 Ev P ge o tm S (.bool (!(a==b))):=by
 refine .still (λg w act _ _ r kk v=>?_);have h1:=v x (by simp[ho,Op.operands]);have h2:=v y (by simp[ho,Op.operands]);rw[hx]at h1;rw[hy]at h2;simp only[V]at h1 h2 |-;exact⟨_,by simp[execOp,ho,h1,h2,eqGuard,binOp,run_equal_bool ht],rfl⟩
def Ev.Ei{s t:TypeId}{x:Operand}{k k':IntKind}{n:Int}{u:TypeDesc}(ho:o.op= .convert s t x)(hs:P.underlying s=some u)(ht:P.underlying t=some (.int k'))(hx:bH ge tm x= .int k n):
 Ev P ge o tm S (.int k' (k'.wrap n)):=by
 refine .still (λg w act _ _ r kk v=>?_);have h1:=v x (by simp[ho,Op.operands]);rw[hx]at h1;simp only[V]at h1 |-;refine⟨.int k' (k'.wrap n),?_,rfl⟩;simp only[execOp,ho,convert,amM,amI hs,amI ht,amN,h1];cases u<;>simp[Conv.intToInt]
def qF:AV->amz
 |.ptr _ _|.aQ _ _|.bool _|.int _ _|.an _|.sl _ _ _|.ms _ _ _|.map _|.dq|.agg _|.bR _=>true
 |.fn (.func _) _ _=>true
 |_=>false
def Ev.nilCheck{x:Operand}(ho:o.op= .nilCheck x)(hx:qF (bH ge tm x)=true):Ev P ge o tm S (bH ge tm x):=by
 refine .still (λg w act _ _ r kk v=>?_);have h1:=v x (by simp[ho,Op.operands]);refine⟨act.eval x,?_,h1⟩;generalize bH ge tm x=y at*;unfold qF at hx;split at hx<;>first|(simp at hx;done)|simp only[V]at h1
 ·obtain⟨_,e⟩:=h1;simp[execOp,ho,e]
 ·obtain⟨_,_,_,e,_⟩:=h1;simp[execOp,ho,e]
 ·simp[execOp,ho,h1]
 ·simp[execOp,ho,h1]
 ·simp[execOp,ho,h1]
 ·obtain⟨_,_,e,_⟩:=h1;simp[execOp,ho,e]
 ·obtain⟨_,_,_,e,_⟩:=h1;simp[execOp,ho,e]
 ·obtain⟨_,e⟩:=h1;simp[execOp,ho,e]
 ·simp[execOp,ho,h1]
 ·obtain⟨_,e,_⟩:=h1;simp[execOp,ho,e]
 ·obtain⟨_,e,_⟩:=h1;simp[execOp,ho,e]
 ·obtain⟨_,_,e,_⟩:=h1;simp[execOp,ho,e]
def Ev.BZ{t:TypeId}{x y:Operand}{k:IntKind}{i:Int}{s:amw}{b:UInt8}(ho:o.op= .index t x y)(ht:P.underlying t=some .string)(hx:bH ge tm x= .an s)(hy:bH ge tm y= .int k i)
 (h0:0<=i) (hb:s[i.toNat]?=some b):Ev P ge o tm S (.int .u8 b.toNat):=by
 refine .still (λg w act _ _ r kk v=>?_);have h1:=v x (by simp[ho,Op.operands]);have h2:=v y (by simp[ho,Op.operands]);rw[hx]at h1;rw[hy]at h2;simp only[V]at h1 h2 |-;exact⟨_,by simp[execOp,ho,h1,h2,Instr.index,asIntOf,amI ht,h0,hb],rfl⟩
def Ev.B0{t e:TypeId}{x y:Operand}{k:IntKind}{i:Int}{len sz:Nat}{ag:amz}{cs:amx AV}{z:AV}(ho:o.op= .index t x y)(ht:P.underlying t=some (.array len e))(hx:bH ge tm x= .agg cs)
 (hy:bH ge tm y= .int k i) (h0:0<=i) (h1:i<len) (hn:cQ P e=some sz) (ha:fM P e=some ag) (hz:cut ag sz cs (i.toNat*sz)=some z):Ev P ge o tm S z:=by
 refine .still (λg w act _ _ r kk v=>?_);have hv:=v x (by simp[ho,Op.operands]);have h2:=v y (by simp[ho,Op.operands]);rw[hx]at hv;rw[hy]at h2;simp only[V]at hv h2;obtain⟨br,e1,hl⟩:=hv;have hag:=jh (P:=P) ha w;have hsz:=dt (P:=P) hn w;have hlen:=VL.length _ _ hl;have hr:0<=i/\i<(len:Int):=⟨h0,h1⟩;simp only[execOp,ho,Instr.index,h2,asIntOf,amM,am2,amN,amI ht,e1,hr,and_self,am0,hsz,part,hag];cases ag with
 |true=>
  simp only[cut,am0]at hz;split at hz
  ·simp at hz;subst hz;refine⟨.agg (br.extract (i.toNat*sz) (i.toNat*sz+sz)),?_,?_⟩
   ·simp[hsz]
   ·simp only[V];refine⟨_,rfl,?_⟩;have:(br.extract (i.toNat*sz) (i.toNat*sz+sz)).toList=(br.toList.drop (i.toNat*sz)).take sz:=by
     simp[Array.toList_extract]
    rw[this];exact VL.take sz _ _ (VL.drop _ _ _ hl)
  ·simp at hz
 |false=>
  simp only[cut,anY,anj]at hz;obtain⟨u,h5,h6⟩:=VL.get _ _ hl _ z hz;refine⟨u,?_,h6⟩;have h5':br[i.toNat*sz]?=some u:=by rw[<-h5];simp
  simp[h5']
def uN(ge:GE)(tm:Tm):amy Operand->amy (amy Int)
 |none=>some none
 |some x=>match bH ge tm x with
  |.int _ n=>some (some n)
  |_=>none
def gZ{g:G}{a:Act}{x:amy Operand}{n:amy Int}(h:uN ge tm x=some n)(hv:∀y,x=some y->V g (bH ge tm y) (a.eval y)):
 (n=none/\x.map a.eval=none)\/∃k m,n=some m/\x.map a.eval=some (.int k m):=by
 cases x with
 |none=>simp[uN]at h;exact .inl ⟨h.symm,rfl⟩
 |some y=>
  simp only[uN]at h;have:=hv y rfl;split at h
  ·rename_i k m e;simp at h;rw[e]at this;simp only[V]at this;exact .inr ⟨k,m,h.symm,by simp[this]⟩
  ·simp at h
def Ev.B1{t:TypeId}{x:Operand}{lo hi:amy Operand}{l h:amy Int}{s:amw}(ho:o.op= .slice t x lo hi none)(ht:P.underlying t=some .string)(hx:bH ge tm x= .an s)
 (hl:uN ge tm lo=some l) (hh:uN ge tm hi=some h) (h0:0<=l.getD 0) (h1:l.getD 0<=h.getD s.size) (h2:h.getD s.size<=s.size):
 Ev P ge o tm S (.an (s.extract (l.getD 0).toNat (h.getD s.size).toNat)):=by
 refine .still (λg w act _ _ r kk v=>?_);have hv:=v x (by simp[ho,Op.operands]);rw[hx]at hv;simp only[V]at hv |-;have b1:=gZ (g:=g) (a:=act) hl (λy e=>v y (by simp[ho,Op.operands,e]));have b2:=gZ (g:=g) (a:=act) hh (λy e=>v y (by simp[ho,Op.operands,e]));generalize hL:(l.getD 0).toNat=L at*;generalize hH:(h.getD (s.size:Int)).toNat=H at*;have hLH:L<=H:=by omega
 have hHx:H<=s.size:=by omega
 refine⟨_,?_,rfl⟩;have run:∀vl vh,vl=lo.map act.eval->vh=hi.map act.eval->(Instr.sliceBounds false s.size s.size vl vh none).run P w= .ok (L,H,s.size) w:=by
  intro vl vh evl evh;subst evl evh;rcases b1 with⟨rfl,e2⟩|⟨k1,m1,rfl,e2⟩<;>rcases b2 with⟨rfl,e3⟩|⟨k2,m2,rfl,e3⟩<;>simp only[aoY,anV]at h0 h1 h2 hL hH<;>
   simp only[e2,e3,Instr.sliceBounds,Instr.sliceBound,asIntOf,amM,am2,amN]
  ·simp at hL hH;simp[<-hH,<-hL]
  ·have e4:0<=m2/\m2<=(s.size:Int):=⟨by omega,by omega⟩;simp at hL;rw[amH e4];simp[hH,<-hL]
  ·have e4:0<=m1/\m1<=(s.size:Int):=⟨by omega,by omega⟩;simp at hH;rw[amH e4];simp[hL,<-hH]
  ·have e4:0<=m2/\m2<=(s.size:Int):=⟨by omega,by omega⟩;have e5:0<=m1/\m1<=(H:Int):=⟨by omega,by omega⟩;rw[amH e4];simp only[am2,amN,hH];rw[amH e5];simp[hL]
 simp[execOp,ho,Instr.sliceAt,amI ht,Instr.slice,hv,run _ _ rfl rfl]
def Ev.slice{t e:TypeId}{x:Operand}{lo hi:amy Operand}{l h:amy Int}{sz:Nat}{tok:iA}{xs0 xs:amx AV}(ho:o.op= .slice t x lo hi none)(ht:cF P t=some (e,sz))(hx:bH ge tm x= .sl sz tok xs0)(dW:bC xs0 xs)
 (hl:uN ge tm lo=some l) (hh:uN ge tm hi=some h) (h0:0<=l.getD 0) (h1:l.getD 0<=h.getD xs.length) (h2:h.getD xs.length<=xs.length):
 Ev P ge o tm S (.sl sz .no ((xs.drop (l.getD 0).toNat).take ((h.getD xs.length).toNat - (l.getD 0).toNat))):=by
 refine .still (λg w act _ _ r kk v=>?_);obtain⟨hu,hsz⟩:=da ht;have hv:=v x (by simp[ho,Op.operands]);rw[hx]at hv;have hv:=V.sub (Sub.sl dW (.inl rfl)) _ hv;simp only[V]at hv;obtain⟨a,cap,e1,hc,hn,adU,acv,_⟩:=hv;have b1:=gZ (g:=g) (a:=act) hl (λy e=>v y (by simp[ho,Op.operands,e]));have b2:=gZ (g:=g) (a:=act) hh (λy e=>v y (by simp[ho,Op.operands,e]));generalize hL:(l.getD 0).toNat=L at*;generalize hH:(h.getD (xs.length:Int)).toNat=H at*;have hLH:L<=H:=by omega
 have hHx:H<=xs.length:=by omega
 refine⟨.slice (if cap=L then a else a.map (·.add (L*sz))) (H - L) (cap - L),?_,?_⟩
 ·have adg:=dt (P:=P) hsz w;have run:∀vl vh,vl=lo.map act.eval->vh=hi.map act.eval->(Instr.sliceBounds true xs.length cap vl vh none).run P w= .ok (L,H,cap) w:=by
   intro vl vh evl evh;subst evl evh;rcases b1 with⟨rfl,e2⟩|⟨k1,m1,rfl,e2⟩<;>rcases b2 with⟨rfl,e3⟩|⟨k2,m2,rfl,e3⟩<;>simp only[aoY,anV]at h0 h1 h2 hL hH<;>
    simp only[e2,e3,Instr.sliceBounds,Instr.sliceBound,asIntOf,amM,am2,amN]
   ·simp at hL hH;simp[<-hH,<-hL]
   ·have e4:0<=m2/\m2<=(cap:Int):=⟨by omega,by omega⟩;simp at hL;rw[amH e4];simp[hH,<-hL]
   ·have e4:0<=m1/\m1<=(xs.length:Int):=⟨by omega,by omega⟩;simp at hH;rw[amH e4];simp[hL,<-hH]
   ·have e4:0<=m2/\m2<=(cap:Int):=⟨by omega,by omega⟩;have e5:0<=m1/\m1<=(H:Int):=⟨by omega,by omega⟩;rw[amH e4];simp only[am2,amN,hH];rw[amH e5];simp[hL]
  simp only[execOp,ho,Instr.sliceAt,amM,amI hu,amN,Instr.slice,e1,run _ _ rfl rfl,adg,am2,Option.map_none]
 ·simp only[V];have hlen:((xs.drop L).take (H - L)).length=H - L:=by simp;omega
  refine⟨_,cap - L,by rw[hlen],by rw[hlen];omega,?_,λhne=>?_,?_,trivial⟩
  ·intro e;split at e
   ·omega
   ·cases a with
    |none=>have:=hn rfl;omega
    |some a=>simp at e
  ·have hne':xs≠ []:=by intro e;subst e;simp at hne
   have hlt:L<H:=by
    apply anI;intro h';have:H - L=0:=by omega
    rw[this]at hne;simp at hne
   obtain⟨b,off,vals,rfl,hve,ac8⟩:=adU hne';refine⟨b,off+L*sz,(vals.drop (L*sz)).take ((H - L)*sz),?_,VE.take (H - L) _ _ (VE.drop L _ _ hve),?_⟩
   ·rw[amL (by omega)];simp[am8]
   ·rw[<-List.drop_drop];exact(List.take_prefix _ _).trans (ee ac8 _)
  ·intro y hy;split at hy
   ·exact acv y hy
   ·cases a with
    |none=>simp at hy
    |some a=>
     simp at hy;subst hy;have:=acv a rfl;unfold Addr.add;split<;>simp_all
def pu{t e:TypeId}(ht:P.underlying t=some (.slice e))(a:amy Addr)(n c m k:Nat)(w:World):(Op.equal t (.slice a n c) (.slice none m k)).run P w= .ok a.isNone w:=by
 unfold Op.equal Op.maxDepth;rw[show(10000:Nat)=9999+1 from rfl];unfold Op.equalIn;simp only[amM,amI ht,amN];cases a<;>rfl
def ep.OB{F:Nm->Prop}{hp:Hp}{K:AV->Hp->Prop}{t t' e:TypeId}{x:Operand}{sz m k:Nat}{tok:iA}{xs:amx AV}(ho:o.op= .binOp .eql t x (.const (.slice none m k)) t')(ht:P.underlying t=some (.slice e))(hx:bH ge tm x= .sl sz tok xs)
 (hk:∀c:amz,(c=true->xs=[])->K (.bool c) hp):ep P ge F o tm hp K:=
 ep.value λg fr w a hf r kk v=>by
  have h1:=v x (by simp[ho,Op.operands]);rw[hx]at h1;simp only[V]at h1;obtain⟨ad,cap,h1,hc,hz,hn,_,_⟩:=h1;refine⟨.bool ad.isNone,w,g,.bool ad.isNone,hp,?_,.refl _,r,rfl,hk _ λe=>?_⟩
  ·have h2:a.eval (.const (.slice none m k))= .slice none m k:=rfl;simp[execOp,ho,h1,h2,eqGuard,binOp,pu ht]
  ·by_cases hxs:xs=[]
   ·exact hxs
   ·obtain⟨b,off,vals,h,_⟩:=hn hxs;rw[h]at e;simp at e
end
section
variable {P:Program}{ge:GE}{F:Nm->Prop}{S:Hp->Prop}{d N:Nat}{tm:Tm}{hp:Hp}{K:AV->Hp->Prop}{o:Oper}{Q:ff}
def vX(t:amz):AV->AV->AV
 |.bool p,.bool q=>.bool (if t then p else q)
 |x,y=>if t then x else y
def B2(t:amz)(x y:AV):vX t x y=if t then x else y:=by
 unfold vX
 grind
def au{α:Type}(xs:amx α)(i:Int):amy α:=match i with
 |.ofNat n=>xs[n]?
 |.negSucc _=>none
def mM{α:Type}{xs:amx α}{i:Int}{z:α}(h:au xs i=some z):0<=i/\xs[i.toNat]?=some z:=by
 unfold au at h;split at h
 ·exact⟨amX _,h⟩
 ·simp at h
def tb{α β:Type}(f:α->β){xs:amx α}{i:Int}{z:α}(h:au xs i=some z):au (xs.map f) i=some (f z):=by
 unfold au at h |-;split at h
 ·simp[h]
 ·simp at h
def ZZ(P:Program)(ge:GE)(tm:Tm)(o:Oper):amy AV:=
 match o.op with
 |.move x=>some (bH ge tm x)
 |.assign x=>some (bH ge tm x)
 |.pick c x y=>match bH ge tm c with
  |.bool t=>some (vX t (bH ge tm x) (bH ge tm y))
  |_=>none
 |.fieldAddr s x f=>match iO P s f with
  |some (off,t)=>match cQ P t with
   |some (_+1)=>(bH ge tm x).mK off
   |_=>none
  |none=>none
 |.field s x f=>match iO P s f with
  |some (off,t)=>match cQ P t,fM P t,bH ge tm x with
   |some n,some ag,.agg cs=>cut ag n cs off
   |_,_,_=>none
  |none=>none
 |.extract x i=>match bH ge tm x with
  |.bR cs=>cs[i]?
  |_=>none
 |.makeFunc fn first acr=>some (.fn fn (first.toList.map (bH ge tm)) (acr.toList.map (bH ge tm)))
 |.build t acp=>ox P t (acp.toList.map λq=>(q.1,bH ge tm q.2))
 |.buildSlice t len acp=>match cF P t with
  |some (e,sz)=>match ia P e with
   |some zs=>if len=acp.size/\zs.length=sz/\len*sz<=16777216/\len<=16777216/\oy sz (acp.toList.map λq=>(q.1,bH ge tm q.2))=true then some (.sl sz .eD (acp.toList.map λq=>bH ge tm q.2))else none
   |none=>none
  |none=>none
 |.binOp op t x y _=>match bH ge tm x,bH ge tm y with
  |.int k a,.int k' b=>if k=k' then qr op k a b else none
  |.an a,.an b=>qu op a b
  |.bool a,.bool b=>match op,P.underlying t with
   |.eql,some .bool=>some (.bool (a==b))
   |.neq,some .bool=>some (.bool (!(a==b)))
   |_,_=>none
  |_,_=>none
 |.unOp op _ x=>match op,bH ge tm x with
  |.not,.bool b=>some (.bool (!b))
  |.neg,.int k n=>some (.int k (k.wrap (0 - n)))
  |_,_=>none
 |.nilCheck x=>if qF (bH ge tm x)=true then some (bH ge tm x)else none
 |.convert s t x=>match P.underlying s,P.underlying t,bH ge tm x with
  |some _,some (.int k'),.int _ n=>some (.int k' (k'.wrap n))
  |_,_,_=>none
 |.call c=>match c.callee,c.args.toList,c.argTypes.toList with
  |.builtin .len,[x],[t]=>match P.underlying t,bH ge tm x with
   |some (.slice _),.sl _ _ xs=>some (.int .i64 xs.length)
   |some .string,.an s=>some (.int .i64 s.size)
   |_,_=>none
  |_,_,_=>none
 |_=>none
def ev(P:Program)(ge:GE)(tm:Tm)(hp:Hp)(o:Oper):amy AV:=
 match o.op with
 |.load t x=>eQ P hp t (bH ge tm x)
 |_=>ZZ P ge tm o
def K3(P:Program)(ge:GE)(N:Nat)(hp:Hp):amx Oper->Tm->amy Tm
 | [],tm=>some tm
 |o::l,tm=>match o.guard with
  |none=>if gz N o.dst then(ev P ge tm hp o).bind λx=>K3 P ge N hp l (put tm o.dst x)else none
  |some _=>none
def nj(tm:Tm):Tm->Prop
 | []=>True
 |(i,x)::r=>Sub (get tm i) x/\nj tm r
end
section
variable {P:Program}{ge:GE}{F:Nm->Prop}{d N:Nat}{tm:Tm}{hp:Hp}{Q:ff}
def aP{σ ρ:Type}(step:σ->amy (σ⊕ρ)):Nat->σ->amy ρ
 |0,_=>none
 |n+1,s=>(step s).bind λ
  |.inl s=>aP step n s
  |.inr r=>some r
end
section
variable {P:Program}{ge:GE}{F:Nm->Prop}{d N:Nat}{tm:Tm}{hp:Hp}{o:Oper}{Q:ff}
def T1:Hp->Prop:=λ_=>True
abbrev KE:=AV->Hp->Prop
theorem ep.mono{K K':KE}(h:ep P ge F o tm hp K)(hk:∀x hp,K x hp->K' x hp):ep P ge F o tm hp K':=λg fr w a Q f r k v=>aop (λ_ _⟨u,g',x,hp',e,h1,h2,h3,h4⟩=>⟨u,g',x,hp',e,h1,h2,h3,hk _ _ h4⟩) (h g fr w a Q f r k v)
end
section
variable {P:Program}{ge:GE}{d N:Nat}{tm:Tm}{hp:Hp}{o:Oper}{Q:ff}{α σ ρ:Type}
def TV(tm tm':Tm):Prop:=∀t,Sub (get tm t) (get tm' t)
def has(a:Tm)(t:Nat):amz:=match a with
 | []=>false
 |p::a=>p.1==t||has a t
def nj.sY{acE:Tm}(k:nj tm acE):TV tm acE:=λt=>by
 induction acE with
 |nil=>exact .any _
 |cons p r ih=>
  grind [eV,k.1,k.2]
end
section
variable {P:Program}{ge:GE}
def iA.aX(σ:Nm->Nm):iA->iA
 |.tail j=>.tail (σ j)
 |t=>t
mutual
def AV.aX (σ:Nm->Nm):AV->AV
 |.ptr j off=>.ptr (σ j) off
 |.aQ cs off=>.aQ (AV.eE σ cs) off
 |.sl sz tok xs=>.sl sz (tok.aX σ) (AV.eE σ xs)
 |.ms j sz n=>.ms (σ j) sz n
 |.sub j sz lo n N=>.sub (σ j) sz lo n N
 |.map j=>.map (σ j)
 |.fn f a b=>.fn f (AV.eE σ a) (AV.eE σ b)
 |.iface t v=>.iface t (AV.aX σ v)
 |.agg cs=>.agg (AV.eE σ cs)
 |.bR cs=>.bR (AV.eE σ cs)
 |x=>x
def AV.eE (σ:Nm->Nm):amx AV->amx AV
 | []=>[]
 |x::xs=>AV.aX σ x::AV.eE σ xs
end
def kt(σ:Nm->Nm):(xs:amx AV)->(AV.eE σ xs).length=xs.length
 | []=>rfl
 |_::xs=>by simp[AV.eE,kt σ xs]
def B3(σ:Nm->Nm):(xs:amx AV)->AV.eE σ xs=[]↔xs=[]
 | []=>by simp[AV.eE]
 |_::xs=>by simp[AV.eE]
def G.aX(g:G)(σ:Nm->Nm):G:={g with dc:=λj=>g.dc (σ j),cg:=λj=>g.cg (σ j),tl:=λj=>g.tl (σ j)}
theorem dw.aX{g:G}{σ:Nm->Nm}{n:Nat}{a:amy Addr}{cap:Nat}{t:iA}:dw (g.aX σ) n a cap t↔dw g n a cap (t.aX σ):=by
 cases t<;>simp[dw,iA.aX,G.aX]
mutual
theorem V.aX (g:G) (σ:Nm->Nm):(x:AV)->(v:Value)->(V (g.aX σ) x v↔V g (x.aX σ) v)
 |.bool _,v=>by simp[V,AV.aX]
 |.int _ _,v=>by simp[V,AV.aX]
 |.an _,v=>by simp[V,AV.aX]
 |.dY,v=>by simp[V,AV.aX]
 |.ptr j off,v=>by simp[V,AV.aX,G.aX]
 |.aQ cs off,v=>by simp only[V,AV.aX,VL.aX g σ cs];rfl
 |.sl sz tok xs,v=>by
  simp only[V,AV.aX,VE.aX g σ sz xs,kt,dw.aX,ne_eq,B3];rfl
 |.ms j _ _,v=>by simp[V,AV.aX,G.aX,dw]
 |.sub j _ _ _ _,v=>by simp[V,AV.aX,G.aX]
 |.dq,v=>by simp[V,AV.aX]
 |.map j,v=>by simp[V,AV.aX,G.aX]
 |.fn f a b,v=>by simp only[V,AV.aX,VL.aX g σ a,VL.aX g σ b]
 |.cy,v=>by simp[V,AV.aX]
 |.iface t x,v=>by simp only[V,AV.aX,V.aX g σ x]
 |.nilIface,v=>by simp[V,AV.aX]
 |.agg cs,v=>by simp only[V,AV.aX,VL.aX g σ cs]
 |.bR cs,v=>by simp only[V,AV.aX,VL.aX g σ cs]
 |.any,v=>by simp[V,AV.aX]
theorem VL.aX (g:G) (σ:Nm->Nm):(xs:amx AV)->(vs:amx Value)->(VL (g.aX σ) xs vs↔VL g (AV.eE σ xs) vs)
 | [],vs=>by simp[VL,AV.eE]
 |x::xs,vs=>by simp only[VL,AV.eE,V.aX g σ x,VL.aX g σ xs]
theorem VE.aX (g:G) (σ:Nm->Nm) (sz:Nat):(xs:amx AV)->(vs:amx Value)->(VE (g.aX σ) sz xs vs↔VE g sz (AV.eE σ xs) vs)
 | [],vs=>by simp[VE,AV.eE]
 |x::xs,vs=>by simp only[VE,AV.eE,V.aX g σ x,VE.aX g σ sz xs]
end
def bk.aX(σ:Nm->Nm):bk->bk
 |.cells cs=>.cells (AV.eE σ cs)
 |.tail sz n=>.tail sz n
 |.map es=>.map (es.map λe=>(e.1.aX σ,e.2.aX σ))
 |.ot s pos=>.ot s pos
 |.sJ i=>.sJ (σ i)
 |.br sz xs=>.br sz (AV.eE σ xs)
theorem cv.aX{g:G}{σ:Nm->Nm}:(xs:amx (AV×AV))->(es:amx MapEntry)->(cv (g.aX σ) xs es↔cv g (xs.map λe=>(e.1.aX σ,e.2.aX σ)) es)
 | [],es=>by simp[cv]
 |x::xs,es=>by simp only[cv,amV,V.aX g σ,cv.aX xs]
theorem dH.aX{g:G}{σ:Nm->Nm}{w:World}{j:Nm}{o:bk}:dH (g.aX σ) w j o↔dH g w (σ j) (o.aX σ):=by
 cases o with
 |cells cs=>simp only[dH,bk.aX,VL.aX g σ];rfl
 |tail sz n=>simp only[dH,bk.aX];rfl
 |map es=>simp only[dH,bk.aX,cv.aX];rfl
 |ot s pos=>simp only[dH,bk.aX];rfl
 |sJ i=>simp only[dH,bk.aX];rfl
 |br sz xs=>
  simp only[dH,bk.aX,VE.aX g σ];cases xs<;>simp[AV.eE,G.aX,BR,kt]
def kF{g:G}{σ:Nm->Nm}{j:Nm}{o:bk}:cX (g.aX σ) j o=cX g (σ j) (o.aX σ):=by
 cases o with
 |br sz xs=>cases xs<;>rfl
 |_=>rfl
def Hp.aX(hp:Hp)(σ τ:Nm->Nm):Hp:=λj=>(hp (τ j)).map (bk.aX σ)
structure qG(σ τ:Nm->Nm):Prop where
 st:∀j,σ (τ j)=j
 ts:∀j,τ (σ j)=j
theorem de.aX{g:G}{σ τ:Nm->Nm}(b:qG σ τ){w:World}{hp:Hp}:de (g.aX σ) w hp↔de g w (hp.aX σ τ):=by
 have look:∀j,hp.aX σ τ (σ j)=(hp j).map (bk.aX σ):=λj=>by simp[Hp.aX,b.ts]
 constructor
 ·intro r;refine⟨λj=>?_,r.hU,r.size,r.fz,λj o h=>?_,λj o c h ho=>?_,λi j o p c hi hj ho hp'=>?_⟩
  ·have:=r.dc (τ j);simp only[G.aX,b.st]at this;rw[this];simp[Hp.aX]
  ·simp only[Hp.aX,aoD]at h;obtain⟨o',h,rfl⟩:=h;have:=dH.aX.1 (r.eP _ _ h)
   rwa [b.st]at this
  ·simp only[Hp.aX,aoD]at h;obtain⟨o',h,rfl⟩:=h;exact r.dI _ _ c h (by rw[kF,b.st];exact ho)
  ·simp only[Hp.aX,aoD]at hi hj;obtain⟨o',hi,rfl⟩:=hi;obtain⟨p',hj,rfl⟩:=hj;have:=r.hX _ _ _ _ c hi hj (by rw[kF,b.st];exact ho) (by rw[kF,b.st];exact hp');rw[<-b.st i,<-b.st j,this]
 ·intro r;refine⟨λj=>?_,r.hU,r.size,r.fz,λj o h=>?_,λj o c h ho=>?_,λi j o p c hi hj ho hp'=>?_⟩
  ·have:=r.dc (σ j);simp only[G.aX];rw[this,look];simp
  ·exact dH.aX.2 (r.eP (σ j) _ (by rw[look,h];rfl))
  ·exact r.dI (σ j) (o.aX σ) c (by rw[look,h];rfl) (by rw[<-kF];exact ho)
  ·have:=r.hX (σ i) (σ j) (o.aX σ) (p.aX σ) c (by rw[look,hi];rfl) (by rw[look,hj];rfl) (by rw[<-kF];exact ho) (by rw[<-kF];exact hp');rw[<-b.ts i,<-b.ts j,this]
mutual
theorem AV.eh {σ τ:Nm->Nm} (h:∀j,σ (τ j)=j):(x:AV)->(x.aX τ).aX σ=x
 |.bool _=>rfl
 |.int _ _=>rfl
 |.an _=>rfl
 |.dY=>rfl
 |.ptr j off=>by simp[AV.aX,h]
 |.aQ cs off=>by simp only[AV.aX,AV.fJ h cs]
 |.sl sz tok xs=>by simp only[AV.aX,AV.fJ h xs];cases tok<;>simp[iA.aX,h]
 |.ms j _ _=>by simp[AV.aX,h]
 |.sub j _ _ _ _=>by simp[AV.aX,h]
 |.dq=>rfl
 |.map j=>by simp[AV.aX,h]
 |.fn f a b=>by simp only[AV.aX,AV.fJ h a,AV.fJ h b]
 |.cy=>rfl
 |.iface t x=>by simp only[AV.aX,AV.eh h x]
 |.nilIface=>rfl
 |.agg cs=>by simp only[AV.aX,AV.fJ h cs]
 |.bR cs=>by simp only[AV.aX,AV.fJ h cs]
 |.any=>rfl
theorem AV.fJ {σ τ:Nm->Nm} (h:∀j,σ (τ j)=j):(xs:amx AV)->AV.eE σ (AV.eE τ xs)=xs
 | []=>rfl
 |x::xs=>by simp only[AV.eE,AV.eh h x,AV.fJ h xs]
end
def bk.eh{σ τ:Nm->Nm}(h:∀j,σ (τ j)=j)(o:bk):(o.aX τ).aX σ=o:=by
 cases o with
 |cells cs=>simp only[bk.aX,AV.fJ h]
 |tail sz n=>rfl
 |ot s pos=>rfl
 |sJ i=>simp only[bk.aX,h]
 |br sz xs=>simp only[bk.aX,AV.fJ h]
 |map es=>
  simp only[bk.aX,am9];congr 1;have:((λe:AV×AV=>(AV.aX σ e.1,AV.aX σ e.2))∘λe=>(AV.aX τ e.1,AV.aX τ e.2))=id:=by
   funext e;simp only[Function.comp,AV.eh h,id]
  rw[this,List.map_id]
def Hp.eh{σ τ:Nm->Nm}(b:qG σ τ)(hp:Hp):(hp.aX τ σ).aX σ τ=hp:=by
 funext j;simp only[Hp.aX,b.st,Option.map_map];cases hp j with
 |none=>rfl
 |some o=>simp[bk.eh b.st]
def Hp.ku(σ τ:Nm->Nm)(a b:Hp):(Ab.bz a b).aX σ τ=Ab.bz (a.aX σ τ) (b.aX σ τ):=by
 funext j
 grind [Hp.aX,Ab.bz]
def G.eh{σ τ:Nm->Nm}(h:∀j,σ (τ j)=j)(g:G):(g.aX σ).aX τ=g:=by
 simp[G.aX,h]
theorem G.Le.aX{g h:G}{σ τ:Nm->Nm}(b:qG σ τ)(l:G.Le (g.aX σ) h):G.Le g (h.aX τ)where
 cj:=l.cj
 w0:=l.w0
 fz:=l.fz
 dc j hj:=by have:=l.dc (τ j);simp only[G.aX,b.st]at this;exact this hj
 cg j hj:=by have:=l.cg (τ j);simp only[G.aX,b.st]at this;exact this hj
 tl j hj:=by have:=l.tl (τ j);simp only[G.aX,b.st]at this;exact this hj
theorem dx.aX{σ τ:Nm->Nm}(b:qG σ τ){d e:Nat}(hd:∀j,(σ j).1<e↔j.1<d){f:FuncId}{args:amx AV}{hp:Hp}{R:AV->Hp->Prop}(C:dx P ge d f args hp R):
 dx P ge e f (AV.eE σ args) (hp.aX σ τ) (λx h'=>∃x0 h0,x=x0.aX σ/\h'=h0.aX σ τ/\R x0 h0):=by
 intro g fr w vs fi r k v;have b':qG τ σ:=⟨b.ts,b.st⟩;refine(C (g.aX σ) (fr.aX τ σ) w vs (λj hj=>?_) ⟨?_,λj=>?_⟩ ?_ ((VL.aX g σ _ _).2 v)).mono λen w'⟨u,g',x,hp',e1,h1,h2,h3,h4⟩=>?_
 ·simp only[Hp.aX,Option.isSome_map]at hj;exact(hd j).1 (fi _ hj)
 ·rw[de.aX b,Hp.ku,Hp.eh b];exact r.rel
 ·have:=r.cw (σ j)
  grind [Hp.aX,b.ts,Option.map_eq_none_iff]
 ·exact lJ.ou (S:=λ_=>False) (g:=g) (h:=g.aX σ) ⟨rfl,rfl,λ_=>anf,λ_ h=>h.elim,λ_ h=>h.elim,λ_ h=>h.elim⟩ k
 ·refine⟨u,g'.aX τ,x.aX σ,hp'.aX σ τ,e1,h1.aX b,⟨?_,λj=>?_⟩,?_,x,hp',rfl,rfl,h4⟩
  ·have:=h2.rel;rw[<-G.eh b.ts g',de.aX b,Hp.ku,Hp.eh b]at this;exact this
  ·have:=h2.cw (τ j)
   grind [Hp.aX,b.st,Option.map_eq_none_iff]
  ·rw[<-V.aX,G.eh b.ts];exact h3
end
section
variable {P:Program}{ge:GE}
def B4:Nm->Nm
 |(0,n)=>(n % 2,n / 2)
 |(m+1,k)=>(m+2,k)
def Ej:Nm->Nm
 |(0,b)=>(0,2*b)
 |(1,b)=>(0,2*b+1)
 |(m+2,b)=>(m+1,b)
def OC:qG B4 Ej where
 st:=by
  rintro⟨a,b⟩
  match a with
  |0=>simp only[Ej,B4];congr 1<;>omega
  |1=>simp only[Ej,B4];congr 1<;>omega
  |m+2=>simp[Ej,B4]
 ts:=by
  rintro⟨a,n⟩
  match a with
  |0=>
   simp only[B4];rcases Nat.mod_two_eq_zero_or_one n with h|h
   ·rw[h];simp only[Ej];congr 1;omega
   ·rw[h];simp only[Ej];congr 1;omega
  |m+1=>simp[Ej,B4]
def vY:∀j,(B4 j).1<2↔j.1<1:=by
 rintro⟨a,n⟩
 match a with
 |0=>simp only[B4];omega
 |m+1=>simp only[B4];omega
def swap(a b:Nm):Nm->Nm:=λj=>if j=a then b else if j=b then a else j
def gm(a b j:Nm):swap a b (swap a b j)=j:=by
 grind [swap]
theorem qG.swap{σ τ:Nm->Nm}(h:qG σ τ)(a b:Nm):qG (λj=>Ab.swap a b (σ j)) (λj=>τ (Ab.swap a b j))where
 st j:=by simp[h.st,gm]
 ts j:=by simp[h.ts,gm]
def pW(a b:Nm):swap a b a=b:=by simp[swap]
def jJ{a b j:Nm}(h1:j≠a)(h2:j≠b):swap a b j=j:=by simp[swap,h1,h2]
def uO:(l:amx Nm)->l.Nodup->(∀j∈l,j.1<2)->∃σ τ,qG σ τ/\(∀j,(σ j).1<2↔j.1<1)/\∀(i:Nat)(ν:Nm),l[i]?=some ν->σ (0,i)=ν:=by
 suffices h:∀(n:Nat)(l:amx Nm),l.length=n->l.Nodup->(∀j∈l,j.1<2)->∃σ τ,qG σ τ/\(∀j,(σ j).1<2↔j.1<1)/\∀(i:Nat)(ν:Nm),l[i]?=some ν->σ (0,i)=ν from λl=>h l.length l rfl
 intro n
 induction n with
 |zero=>
  intro l hl _ _;have:l=[]:=by simpa using hl
  subst this;exact⟨B4,Ej,OC,vY,by simp⟩
 |succ n ih=>
  intro l0 hl0 hn hd;obtain⟨l,x,rfl⟩:∃l x,l0=l++[x]:=by
   have hne:l0≠ []:=by intro e;subst e;simp at hl0
   exact⟨l0.dropLast,l0.getLast hne,(List.dropLast_concat_getLast hne).symm⟩
  have hn':=aoa.1 hn;obtain⟨σ,τ,b,ho,hs⟩:=ih l (by simpa using hl0) hn'.1 (λj hj=>hd j (by simp[hj]));refine⟨_,_,b.swap (σ (0,l.length)) x,λj=>?_,λi ν hi=>?_⟩
  ·have hx:=hd x (by simp);have hl:=(ho (0,l.length)).2 (by simp);simp only[Ab.swap];split
   ·rename_i e;have:=b.ts j;rw[e,b.ts]at this;subst this;simp[hx]
   ·split
    ·rename_i e;have:(σ j).1<2:=by rw[e];exact hx
     exact⟨λ_=>(ho j).1 this,λ_=>hl⟩
    ·exact ho j
  ·rw[List.getElem?_append]at hi;split at hi
   ·rename_i hlt;have e:=hs i ν hi;rw[e];refine jJ ?_ ?_
    ·intro e2;rw[<-e]at e2;have:((0,i):Nm)=(0,l.length):=by rw[<-b.ts (0,i),e2,b.ts]
     simp at this;omega
    ·intro e2;subst e2;exact hn'.2.2 ν (anL hi) ν (by simp) rfl
   ·rename_i hge;have hi':i=l.length/\x=ν:=by
     cases hk:i - l.length with
     |zero=>rw[hk]at hi;simp at hi;exact⟨by omega,hi⟩
     |succ k=>rw[hk]at hi;simp at hi
    obtain⟨rfl,rfl⟩:=hi';exact pW _ _
mutual
theorem AV.oB {S:Nm->Prop} {σ ρ:Nm->Nm} (h:∀j,S j->σ j=ρ j):(x:AV)->x.under S->x.aX σ=x.aX ρ
 |.bool _,_=>rfl
 |.int _ _,_=>rfl
 |.an _,_=>rfl
 |.dY,_=>rfl
 |.ptr j off,e=>by simp only[AV.under]at e;simp[AV.aX,h j e]
 |.aQ cs off,e=>by simp only[AV.under]at e;simp only[AV.aX,AV.gU h cs e]
 |.sl sz tok xs,e=>by
  simp only[AV.under]at e;simp only[AV.aX,AV.gU h xs e.2];cases tok with
  |tail j=>simp only[iA.aX];rw[h j e.1]
  |_=>rfl
 |.ms j _ _,e=>by simp only[AV.under]at e;simp[AV.aX,h j e]
 |.sub j _ _ _ _,e=>by simp only[AV.under]at e;simp[AV.aX,h j e]
 |.dq,_=>rfl
 |.map j,e=>by simp only[AV.under]at e;simp[AV.aX,h j e]
 |.fn f a b,e=>by simp only[AV.under]at e;simp only[AV.aX,AV.gU h a e.1,AV.gU h b e.2]
 |.cy,_=>rfl
 |.iface t x,e=>by simp only[AV.under]at e;simp only[AV.aX,AV.oB h x e]
 |.nilIface,_=>rfl
 |.agg cs,e=>by simp only[AV.under]at e;simp only[AV.aX,AV.gU h cs e]
 |.bR cs,e=>by simp only[AV.under]at e;simp only[AV.aX,AV.gU h cs e]
 |.any,_=>rfl
theorem AV.gU {S:Nm->Prop} {σ ρ:Nm->Nm} (h:∀j,S j->σ j=ρ j):(xs:amx AV)->AV.bP S xs->AV.eE σ xs=AV.eE ρ xs
 | [],_=>rfl
 |x::xs,e=>by simp only[AV.bP]at e;simp only[AV.eE,AV.oB h x e.1,AV.gU h xs e.2]
end
mutual
theorem AV.oE:(x:AV)->x.aX id=x
 |.bool _=>rfl
 |.int _ _=>rfl
 |.an _=>rfl
 |.dY=>rfl
 |.ptr j off=>rfl
 |.aQ cs off=>by simp only[AV.aX,AV.gV cs]
 |.sl sz tok xs=>by simp only[AV.aX,AV.gV xs];cases tok<;>rfl
 |.ms j _ _=>rfl
 |.sub j _ _ _ _=>rfl
 |.dq=>rfl
 |.map j=>rfl
 |.fn f a b=>by simp only[AV.aX,AV.gV a,AV.gV b]
 |.cy=>rfl
 |.iface t x=>by simp only[AV.aX,AV.oE x]
 |.nilIface=>rfl
 |.agg cs=>by simp only[AV.aX,AV.gV cs]
 |.bR cs=>by simp only[AV.aX,AV.gV cs]
 |.any=>rfl
theorem AV.gV:(xs:amx AV)->AV.eE id xs=xs
 | []=>rfl
 |x::xs=>by simp only[AV.eE,AV.oE x,AV.gV xs]
end
def mN:Nm->Prop:=λ_=>False
def AV.kw{σ:Nm->Nm}{x:AV}(h:x.under mN):x.aX σ=x:=(AV.oB (λ_ h=>h.elim) x h).trans (AV.oE x)
theorem AV.ji{σ:Nm->Nm}{x:amx AV}(h:AV.bP mN x):AV.eE σ x=x:=(AV.gU (λ_ h=>h.elim) x h).trans (AV.gV x)
def dx.up{f:FuncId}{args:amx AV}{hp:Hp}{R:AV->Prop}(C:dx P ge 1 f args Hp.empty (λx h'=>h'=Hp.empty/\R x))(ha:AV.bP mN args)(hr:∀x,R x->x.under mN)(ho:Hp.out hp 2):
 dx P ge 2 f args hp (λx h'=>h'=hp/\R x):=by
 have h:=C.aX OC vY;rw[AV.ji ha]at h;have e:Hp.empty.aX B4 Ej=Hp.empty:=rfl;rw[e]at h;refine dx.TU (h.mono λx h'⟨x0,h0,e1,e2,e3,e4⟩=>?_) ho;subst e3;rw[AV.kw (hr _ e4)]at e1;subst e1;exact⟨e2,e4⟩
end
section
variable {P:Program}{ge:GE}{d N:Nat}{tm:Tm}{hp:Hp}{Q:ff}
abbrev HL:=amx (Nm×bk)
def aM:HL->Hp
 | []=>λ_=>none
 |(j,o)::l=>λi=>if i=j then some o else aM l i
def cR(j:Nm)(o:bk):HL->HL
 | []=>[(j,o)]
 |(i,p)::l=>if i=j then(j,o)::l else(i,p)::cR j o l
theorem Ek:aM []=Hp.empty:=rfl
theorem bm(j:Nm)(o:bk):(l:HL)->cE (aM l) j o=aM (cR j o l)
 | []=>rfl
 |(i,p)::l=>by
  have ih:=bm j o l;simp only[cR];split
  ·rename_i e;subst e;funext t;simp only[cE,aM];split<;>rfl
  ·rename_i e;funext t;have:=congrFun ih t;simp only[cE,aM]at this |-;by_cases h1:t=j
   ·subst h1;rw[amH rfl]at this |-;rw[amL (λh=>e h.symm)];exact this
   ·rw[amL h1]at this |-;by_cases h2:t=i
    ·rw[amH h2,amH h2]
    ·rw[amL h2,amL h2];exact this
def hu{hp:Hp}{l l':HL}{j:Nm}{o:bk}(h:hp=aM l)(e:cR j o l=l'):cE hp j o=aM l':=by
 grind [bm]
def El{l:HL}{e:Nat}(h:(l.all λp=>decide (p.1.1<e))=true):Hp.out (aM l) e:=by
 induction l with
 |nil=>intro j hj;simp[aM]at hj
 |cons p l ih=>
  obtain⟨i,o⟩:=p;simp only[List.all_cons,amC,amS]at h;intro j hj;simp only[aM]at hj;split at hj
  ·rename_i e;subst e;exact h.1
  ·exact ih h.2 j hj
end
section
variable {P:Program}{ge:GE}{d N:Nat}{tm:Tm}{hp:Hp}{Q:ff}
inductive iL:bk->bk->Prop
 |refl (o:bk):iL o o
 |cells {cs ds:List AV}:bC cs ds->iL (.cells cs) (.cells ds)
 |br {sz:Nat} {xs ys:List AV}:bC xs ys->iL (.br sz xs) (.br sz ys)
def iL.eP{g:G}{w:World}{j:Nm}{o p:bk}(h:iL o p)(r:dH g w j o):dH g w j p:=by
 cases h with
 |refl=>exact r
 |cells hs=>
  obtain⟨vs,rest,elem,h1,h2⟩:=r;exact⟨vs,rest,elem,VL.sub hs _ h1,h2⟩
 |br hs=>
  intro hne;obtain⟨vs,rest,elem,h1,h2⟩:=r (λe=>hne (by have:=hs.length;rw[e]at this;exact anu (by simpa using this.symm)));exact⟨vs,rest,elem,VE.sub hs _ _ h1,by rw[<-hs.length];exact h2⟩
def iL.cX{g:G}{j:Nm}{o p:bk}(h:iL o p):cX g j p=cX g j o:=by
 cases h with
 |refl=>rfl
 |cells=>rfl
 |br hs=>cases hs<;>rfl
def HSub(hp hq:Hp):Prop:=∀j,match hp j,hq j with
 |some o,some p=>iL o p
 |none,none=>True
 |_,_=>False
theorem HSub.refl(hp:Hp):HSub hp hp:=λj=>by cases hp j<;>simp[iL.refl]
def HSub.Em{hp hq:Hp}(h:HSub hp hq){j:Nm}{p:bk}(hj:hq j=some p):∃o,hp j=some o/\iL o p:=by
 have:=h j
 grind
def HSub.isSome{hp hq:Hp}(h:HSub hp hq)(j:Nm):(hp j).isSome=(hq j).isSome:=by
 have:=h j
 grind
def de.dW{g:G}{w:World}{hp hq:Hp}(h:HSub hp hq)(r:de g w hp):de g w hq where
 dc j:=by rw[r.dc j,h.isSome j]
 hU:=r.hU
 size:=r.size
 fz:=r.fz
 eP j p hj:=by obtain⟨o,h1,h2⟩:=h.Em hj;exact h2.eP (r.eP j o h1)
 dI j p b hj ho:=by obtain⟨o,h1,h2⟩:=h.Em hj;exact r.dI j o b h1 (by rw[<-h2.cX];exact ho)
 hX i j o p b hi hj ho hp':=by
  obtain⟨o',h1,h2⟩:=h.Em hi;obtain⟨p',h3,h4⟩:=h.Em hj;exact r.hX i j o' p' b h1 h3 (by rw[<-h2.cX];exact ho) (by rw[<-h4.cX];exact hp')
theorem HSub.bz{hp hq fr:Hp}(h:HSub hp hq):HSub (Ab.bz hp fr) (Ab.bz hq fr):=λj=>by
 have:=h j;cases e:hp j with
 |none=>
  cases e2:hq j with
  |none=>rw[bD e,bD e2];exact HSub.refl fr j
  |some p=>simp[e,e2]at this
 |some o=>
  grind [aH]
variable {α σ ρ:Type}
end
section
variable {tm:Tm}{hp:Hp}
def bC.td{ys:amx AV}(h:bC [] ys):ys=[]:=by cases h;rfl
def aS(p:Prop)[Decidable p]:amy Unit:=if p then some ()else none
def aW{p:Prop}[Decidable p]{u:Unit}(h:aS p=some u):p:=by
 grind [aS]
def sz{n m:Nat}{t:iA}{xs ys:amx AV}(h:bC xs ys):bC (.sl n t []::xs) (.sl m .no []::ys):=.cons (.nil (.inr rfl)) h
end
section
variable {P:Program}
inductive UK where
 |int (k:IntKind)
 |bool
 |string
 |slice (e:Nat)
 |array (n e:Nat)
 |struct
 |map (k v:Nat)
 |iface
 |pointer
 |func
 |B5
structure TE where
 sz:Nat
 bytes:Nat
 agg:Bool
 gT:UK
 tf:List (Nat×Nat)
 zero:List AV
 OD:Bool:=false
inductive Tr where
 |lf
 |nd (v:Option TE) (l r:Tr)
def Tr.find:Tr->Nat->amy TE
 |.lf,_=>none
 |.nd v l r,n=>cond (Nat.beq n 0) v (cond (Nat.beq (n % 2) 1) (l.find (n / 2)) (r.find (n / 2 - 1)))
def ey{α:Type}:amx α->Nat->amy α
 | [],_=>none
 |x::_,0=>some x
 |_::xs,n+1=>ey xs n
def dk{α:Type}:(xs:amx α)->(n:Nat)->ey xs n=xs[n]?
 | [],n=>by simp[ey]
 |x::xs,0=>rfl
 |x::xs,n+1=>by simp[ey,dk xs n]
def TW:AV->AV->amz
 |.bool a,.bool b=>a==b
 |.int k a,.int k' b=>k==k'&&a==b
 |.an a,.an b=>a.data.toList==b.data.toList
 |.dY,.dY=>true
 |.sl 0 .eD [],.sl 0 .eD []=>true
 |.dq,.dq=>true
 |.cy,.cy=>true
 |.nilIface,.nilIface=>true
 |_,_=>false
def K4{x y:AV}(h:TW x y=true):x=y:=by
 unfold TW at h;split at h<;>simp_all;rename_i a b;cases a;cases b;simp_all[Array.ext_iff]
def Av:amx AV->amx AV->amz
 | [],[]=>true
 |x::xs,y::ys=>TW x y&&Av xs ys
 |_,_=>false
def vZ:{xs ys:amx AV}->Av xs ys=true->xs=ys
 | [],[],_=>rfl
 |x::xs,y::ys,h=>by
  simp only[Av,amC]at h;rw[K4 h.1,vZ h.2]
 | [],_::_,h=>by simp[Av]at h
 |_::_,[],h=>by simp[Av]at h
def ln(d:TypeDesc):UK->amz
 |.int k=>match d with|.int k'=>k==k'|_=>false
 |.bool=>match d with|.bool=>true|_=>false
 |.string=>match d with|.string=>true|_=>false
 |.slice e=>match d with|.slice e'=>e==e'|_=>false
 |.array n e=>match d with|.array n' e'=>n==n'&&e==e'|_=>false
 |.struct=>match d with|.struct _=>true|_=>false
 |.map k v=>match d with|.map k' v'=>k==k'&&v==v'|_=>false
 |.iface=>match d with|.interface _=>true|_=>false
 |.pointer=>match d with|.pointer _=>true|_=>false
 |.func=>match d with|.func _ _ _=>true|_=>false
 |.B5=>match d with|.interface _=>false|_=>true
def qH(fs:amx Go.Field):amx (Nat×Nat)->amz
 | []=>fs.isEmpty
 |(o,t)::r=>match fs with
  |f::fs=>f.offset==o&&f.type==t&&qH fs r
  | []=>false
structure ka(P:Program)(t:Nat)(i:TE):Prop where
 mJ:∃it,P.info? t=some it/\it.size=i.sz/\it.bytes=i.bytes/\∃z,it.zero=some z/\z.cells.toList.map gg=i.zero/\z.cells.size=i.zero.length
 gT:∃d,P.underlying t=some d/\d.isRow=i.agg/\ln d i.gT=true/\(∀fs,d= .struct fs->qH fs.toList i.tf=true/\(fs.toList.mapM (λf=>(P.info? f.type).map λi=>(f.offset,i.size))).isSome=true)
 OD:∃it,P.info? t=some it/\it.comparable=i.OD
 SJ:i.agg=false->∃it z,P.info? t=some it/\it.zero=some z/\z.oneCell'=true/\z.cells.toList.map gg=i.zero
 TX:i.agg=true->∃it z,P.info? t=some it/\it.zero=some z/\ow z= .agg i.zero
def isAgg:Value->amz
 |.agg _=>true
 |_=>false
def TY(P:Program)(t:Nat)(i:TE):amz:=
 match P.info? t,P.underlying t with
 |some it,some d=>it.comparable==i.OD&&(it.size==i.sz&&it.bytes==i.bytes&&d.isRow==i.agg&&ln d i.gT&&(match d with|.struct fs=>qH fs.toList i.tf&&(fs.toList.mapM (λf=>(P.info? f.type).map λi=>(f.offset,i.size))).isSome|_=>true)&&
  (match it.zero with|some z=>Av (z.cells.toList.map gg) i.zero&&(cond i.agg (isAgg z) z.oneCell')|none=>false))
 |_,_=>false
def K5{t:Nat}{i:TE}(h:TY P t i=true):ka P t i:=by
 unfold TY at h;split at h
 ·rename_i it d hi hd;simp only[amC,am7]at h;obtain⟨h0,⟨⟨⟨⟨⟨h1,h2⟩,h3⟩,h4⟩,h5⟩,h6⟩⟩:=h;split at h6
  ·rename_i z hz;simp only[amC]at h6;have this:=vZ h6.1;refine⟨⟨it,hi,h1,h2,⟨z,hz,this,by rw[<-this];simp⟩⟩,⟨d,hd,h3,h4,?_⟩,⟨it,hi,h0⟩,λha=>⟨it,z,hi,hz,?_,this⟩,λha=>⟨it,z,hi,hz,?_⟩⟩
   ·intro fs e;subst e;simpa using h5
   ·have h:=h6.2;rw[ha]at h;exact h
   ·have h:=h6.2;rw[ha]at h;cases z<;>simp only[isAgg,ane,anY]at h;rw[<-this];rfl
  ·simp at h6
 ·simp at h
def Tr.BJ(P:Program):Tr->Nat->Nat->amz
 |.lf,_,_=>true
 |.nd v l r,m,a=>(match v with|some i=>TY P a i|none=>true)&&l.BJ P (2*m) (a+m)&&r.BJ P (2*m) (a+2*m)
def Tr.ok:(tr:Tr)->(m a:Nat)->tr.BJ P m a=true->∀n i,tr.find n=some i->ka P (a+m*n) i
 |.lf,m,a,h,n,i,e=>by simp[Tr.find]at e
 |.nd v l r,m,a,h,n,i,e=>by
  simp only[Tr.BJ,amC]at h;simp only[Tr.find]at e;cases h0:Nat.beq n 0 with
  |true=>
   rw[h0]at e;have:n=0:=amK h0;subst this;simp only[ane]at e;subst e;simpa using K5 h.1.1
  |false=>
   rw[h0]at e;have hn:n≠0:=λh=>by subst h;simp at h0
   simp only[ana]at e;cases h1:Nat.beq (n % 2) 1 with
   |true=>
    rw[h1]at e;have h2:n % 2=1:=amK h1;have:=Tr.ok l _ _ h.1.2 _ i e;have e3:a+m+2*m*(n / 2)=a+m*n:=by
     have:n=2*(n / 2)+1:=by omega
     conv=>rhs;rw[this]
     rw[Nat.mul_add,<-Nat.mul_assoc,Nat.mul_comm 2 m];omega
    rw[e3]at this;exact this
   |false=>
    rw[h1]at e;have h2:n % 2=0:=by
     have:¬n % 2=1:=λh=>by rw[h]at h1;simp at h1
     omega
    have:=Tr.ok r _ _ h.2 _ i e;have e3:a+2*m+2*m*(n / 2 - 1)=a+m*n:=by
     have:n=2*(n / 2 - 1)+2:=by omega
     conv=>rhs;rw[this]
     rw[Nat.mul_add,<-Nat.mul_assoc,Nat.mul_comm 2 m];omega
    rw[e3]at this;exact this
def lr(P:Program)(ti:Nat->amy TE):Prop:=∀t i,ti t=some i->ka P t i
def Tr.tt{tr:Tr}(h:tr.BJ P 1 0=true):lr P tr.find:=λt i e=>by
 have:=Tr.ok tr 1 0 h t i e
 grind
section
variable {t:Nat}{i:TE}(h:ka P t i)
include h
theorem ka.size:cQ P t=some i.sz:=by
 grind [h.mJ,cQ]
theorem ka.OE:fM P t=some i.agg:=by
 grind [h.gT,fM]
def ka.tg:ia P t=some i.zero:=by
 grind [h.mJ,ia]
def ka.field{f off:Nat}{ft:Nat}(hu:i.gT= .struct)(hf:ey i.tf f=some (off,ft)):iO P t f=some (off,ft):=by
 obtain⟨d,h1,_,h3,h4⟩:=h.gT;rw[hu]at h3;obtain⟨fs,rfl⟩:∃fs,d= .struct fs:=by cases d<;>simp[ln]at h3;exact⟨_,rfl⟩
 simp only[iO,h1];have h5:=(h4 fs rfl).1;rw[<-aoF];have key:∀(l:amx (Nat×Nat))(fs:amx Go.Field)(f:Nat),qH fs l=true->ey l f=some (off,ft)->(fs[f]?).map (λx=>(x.offset,x.type))=some (off,ft):=by
  intro l
  induction l with
  |nil=>intro fs f _ h;simp[ey]at h
  |cons p l ih=>
   intro fs f h h';obtain⟨o,ty⟩:=p;cases fs with
   |nil=>simp[qH]at h
   |cons x fs=>
    simp only[qH,amC,am7]at h;cases f with
    |zero=>simp[ey]at h';simp[h.1.1,h.1.2,h']
    |succ f=>simpa using ih fs f h.2 (by simpa[ey]using h')
 exact key _ _ _ h5 hf
def ka.slice{e:Nat}(hu:i.gT= .slice e):P.underlying t=some (.slice e):=by
 obtain⟨d,h1,_,h3,_⟩:=h.gT;rw[hu]at h3;cases d<;>simp[ln]at h3
 grind
def ka.int{k:IntKind}(hu:i.gT= .int k):P.underlying t=some (.int k):=by
 obtain⟨d,h1,_,h3,_⟩:=h.gT;rw[hu]at h3;cases d<;>simp[ln]at h3
 grind
def ka.bool(hu:i.gT= .bool):P.underlying t=some .bool:=by
 grind [h.gT,ln]
def ka.string(hu:i.gT= .string):P.underlying t=some .string:=by
 grind [h.gT,ln]
def ka.iface(hu:i.gT= .iface):∃ms,P.underlying t=some (.interface ms):=by
 obtain⟨d,h1,_,h3,_⟩:=h.gT;rw[hu]at h3;cases d<;>simp[ln]at h3
 grind
def ka.pointer(hu:i.gT= .pointer):∃e,P.underlying t=some (.pointer e):=by
 obtain⟨d,h1,_,h3,_⟩:=h.gT;rw[hu]at h3;cases d<;>simp[ln]at h3
 grind
def ka.func(hu:i.gT= .func):∃ps rs vr,P.underlying t=some (.func ps rs vr):=by
 obtain⟨d,h1,_,h3,_⟩:=h.gT;rw[hu]at h3;cases d<;>simp[ln]at h3
 grind
def ka.map{k v:Nat}(hu:i.gT= .map k v):P.underlying t=some (.map k v):=by
 obtain⟨d,h1,_,h3,_⟩:=h.gT;rw[hu]at h3;cases d<;>simp[ln]at h3
 grind
def ka.array{n e:Nat}(hu:i.gT= .array n e):P.underlying t=some (.array n e):=by
 grind [h.gT,ln]
end
end
end Go.Ab

/- The logic of the walk. -/
import Derived.Below
import Derived.Deep.MidRow
import Derived.Laws.AppendOwn
import Derived.Laws.CopyRow
import Derived.Laws.Sem
import Derived.Laws.Strings
import Derived.Laws.Tables
import Derived.Tactics
set_option linter.all false
open Go Go.RowKit
namespace Go.Ab
abbrev Z:=ByteArray
abbrev U:=List
abbrev T:=Option
abbrev At:=Bool
def B0:=@List.length_cons
def B1:=@List.length_nil
def B2:=@Option.bind_some
def B7:=@List.length_map
def BR:=@Bool.and_eq_true
def BV:=@List.mem_cons
def BX:=@if_pos
def BW:=@IntKind.wrap_i64
def BY:=@if_neg
def FG:=@run_underlying
def FU:=@Nat.eq_of_beq_eq_true
def G5:=@Sum.elim_inl
def FO:=@Sem.run_bind
def FM:=@cond_false
def G4:=@Result.andThen_ok
def G1:=@cond_true
def FW:=@decide_eq_true_eq
def G6:=@List.take_add_one
def G7:=@List.length_append
def G9:=@List.not_mem_nil
def G8:=@or_false
def GU:=@Bool.not_true
def Gq:=@List.take_length
def GZ:=@Option.some.inj
def GY:=@bne_self_eq_false
def H0:=@List.all_eq_true
def HO:=@List.map_append
def H9:=@Bool.not_false
def HV:=@beq_iff_eq
def Hr:=@List.mem_map
def Hn:=@beq_self_eq_true
def HY:=@ByteArray.size_append
def HX:=@Sum.elim_inr
def Hq:=@Nat.le_refl
def Hy:=@List.mem_append
def Hx:=@List.map_cons
def Hs:=@Option.some.injEq
def Ic:=@decide_eq_false_iff_not
def J0:=@if_true
def Iu:=@Sem.run_pure
def It:=@List.any_eq_true
def Ir:=@Int.natCast_nonneg
def JC:=@Nat.add_mul
def JB:=@List.length_take
def JA:=@Array.getD_eq_getD_getElem?
def J1:=@Nat.le_of_ble_eq_true
def JE:=@Addr.add_mid
def JD:=@List.map_map
def JU:=@if_false
def JR:=@beq_eq_false_iff_ne
def JW:=@Nat.mul_le_mul_right
def JV:=@congrArg
def Jm:=@Option.map_some
def JX:=@Int.toNat_natCast
def K4:=@List.prefix_rfl
def K3:=@List.mem_of_getElem?
def Jq:=@List.ne_nil_of_length_pos
def K5:=@Bool.or_eq_true
def KV:=@Nat.le_trans
def KS:=@List.length_pos_iff
def KP:=@List.length_drop
def KE:=@List.eq_nil_of_length_eq_zero
def K9:=@List.getElem?_map
def K8:=@Nat.zero_le
def K7:=@Prod.mk.injEq
def K6:=@List.getElem?_eq_getElem
def L3:=@Classical.byContradiction
def L1:=@List.getElem?_drop
def Ko:=@Bool.not_eq_true'
def Kj:=@Option.getD_some
def L7:=@mem_ready
def Kh:=@List.mem_append_left
def Kf:=@getD_set_ne
def Ke:=@List.pairwise_append
def KZ:=@bne_iff_ne
def KY:=@List.mem_range
def KW:=@List.any_append
def L6:=@List.take_of_length_le
def L5:=@Nat.add_zero
def LI:=@List.getElem?_eq_some_iff
def LG:=@List.getD_eq_getElem?_getD
def LD:=@Array.getElem?_eq_some_iff
def LB:=@Nat.zero_add
def LA:=@List.mem_of_mem_take
def Du:=@of_decide_eq_true
def L8:=@List.filter_append
def LL:=@Nat.add_comm
def LJ:=@Array.length_toList
def LM:=@Ne.symm
def LX:=@List.cons_append
def LW:=@List.nil_append
def LV:=@List.nil_prefix
def LU:=@Option.map_eq_some_iff
def LS:=@wp_mono
def agG:=@List.getElem?_cons_zero
def Lj:=@List.pairwise_cons
def LP:=@List.mem_of_mem_drop
def Li:=@Nat.add_assoc
def anz:=@Bool.false_eq_true
def Lg:=@Option.bind_eq_some_iff
def Lf:=@List.ext_getElem?
def Ld:=@List.getElem?_append_left
def Lc:=@List.nodup_append
def Lb:=@List.map_nil
def La:=@Int.tmod_nonneg
def LZ:=@Int.tmod_lt_of_pos
def LY:=@List.length_filter_le
def ML:=@List.drop_append
def MK:=@List.prefix_append
def Lo:=@List.drop_of_length_le
def Ln:=@Below.heap_alloc
def Lm:=@List.append_nil
def Ll:=@List.getElem?_eq_none
def Lk:=@List.mem_filter
def Lt:=@List.mem_map_of_mem
def Ls:=@Obj.cells.injEq
def aw2:=@List.append_inj
def ahb:=@List.getElem?_cons_succ
def Lq:=@Nat.succ_mul
def Lp:=@List.range_succ
def MP:=@run_storeCells_at
def MO:=@setRow_other
def MN:=@setRow_heap
def MM:=@List.drop_append_of_le_length
def MJ:=@run_firstCells_some
def MI:=@List.append_assoc
def MH:=@Nat.lt_irrefl
def MG:=@Oper.wp_mono
def MF:=@List.nodup_cons
def ME:=@Array.all_eq_true_iff_forall_mem
def MC:=@List.map_take
def MA:=@MapKept.run_getObj_map
def M9:=@Array.toList_inj
def M8:=@Bool.eq_iff_iff
def M7:=@List.getElem?_set_self
def NR:=@List.set_set
def M6:=@List.mem_singleton
def M5:=@List.exists_cons_of_ne_nil
def ajG:=@List.take_succ_cons
def NO:=@List.take_append_of_le_length
def NN:=@Array.getElem?_setIfInBounds_self_of_lt
def NM:=@Array.getElem?_setIfInBounds_ne
def NL:=@List.drop_drop
def NK:=@Array.getElem?_eq_getElem
def NJ:=@Array.mem_of_getElem?
def NI:=@Option.map_none
def axw:=@Option.map_eq_none_iff
def NH:=@List.map_drop
def anK:=@Array.getElem?_toList
def NF:=@List.length_set
def NY:=@List.take_append_drop
def NX:=@Option.isSome_iff_exists
def NW:=@List.drop_eq_getElem_cons
def axD:=@List.map_set
def NV:=@List.set_eq_of_length_le
def NU:=@List.eq_nil_iff_forall_not_mem
def NT:=@Bool.and_assoc
def agH:=@List.set_cons_zero
def PX:=@Array.size_eq_length_toList
def P9:=@Nat.le_of_not_lt
def P8:=@List.flatMap_cons
def P7:=@List.replicate_succ
def ahf:=@Array.getElem?_replicate
def P5:=@List.getElem?_append_right
def P3:=@List.filter_cons_of_neg
def P0:=@List.filter_cons_of_pos
def Oz:=@List.filter_eq_self
def Oy:=@Option.getD_none
def Ow:=@Array.getElem?_setIfInBounds
def Ov:=@List.drop_length
def Ou:=@List.map_congr_left
def Ot:=@List.getElem_mem
def aaK:=@Option.toList_some
def Oo:=@Int.tdiv_le_self
def On:=@List.sum_append_nat
def B9{p:Prop}(x:p:=by omega):=x
def VQ{p:Prop}(x:p:=by decide):=x
def Ar{p:Prop}(x:p:=by simp;omega):=x
def NP{p:Prop}(x:p:=by simp):=x
def Um{p:Prop}(x:p:=by simp[z,Op.operands]):=x
def ZF{p:Prop}(x:p:=by kernel_rfl):=x
def Dn{p:Prop}(x:p:=by simp[z,Op.operands,Call.operands]):=x
def Ah{p:Prop}(x:p:=by dsimp only;omega):=x
def DA{p:Prop}(x:p:=by simp[d,Op.operands]):=x
def Uz{p:Prop}(x:p:=by rfl):=x
def DC{p:Prop}(x:p:=by simpa using c):=x
def CE{p:Prop}(x:p:=by rw[c];rfl):=x
def Fc{p:Prop}(x:p:=by simp[b,Op.operands,Call.operands]):=x
def CD{p:Prop}(x:p:=by simp[e]):=x
def EF{p:Prop}(x:p:=by simp[y,Op.operands]):=x
def Do{p:Prop}(x:p:=by simpa using h):=x
def Fb{p:Prop}(x:p:=by show _<=_;dsimp only;omega):=x
def Jp{p:Prop}(x:p:=by simp[l,Op.operands,Call.operands]):=x
def Ei{p:Prop}(x:p:=by simp[c,Op.operands]):=x
def E3{p:Prop}(x:p:=by decide+kernel):=x
def E2{p:Prop}(x:p:=by simp[yN,pO,h]):=x
def Ez{p:Prop}(x:p:=by simp only[gn,CU,B7];omega):=x
def JF{p:Prop}(x:p:=by simp only[HY,Az,B0,B1];omega):=x
def DS{p:Prop}(x:p:=by simp[hq]):=x
def OQ{p:Prop}(x:p:=by have:=(I.sO u hu).2.2.1;simp[ol];omega):=x
def EB{p:Prop}(x:p:=by simpa using z):=x
def Dk{p:Prop}(x:p:=by simp[nX]):=x
def E0{p:Prop}(x:p:=by rw[e];rfl):=x
def Ee{p:Prop}(x:p:=by simpa using y):=x
def akn{p:Prop}(x:p:=by simp[ho,Op.operands];exact⟨q.1,by simpa using hq⟩):=x
def OP{p:Prop}(x:p:=by show(_:Nat)<=_;dsimp only;omega):=x
def Iz{p:Prop}(x:p:=by simp[b,Op.operands,e]):=x
def akr{p:Prop}(x:p:=by have:v.1.size<=MB:=x;dsimp only at z |-;omega):=x
def IU{p:Prop}(x:p:=by simp[l,Op.operands]):=x
def II{p:Prop}(x:p:=by simp[e,Op.operands]):=x
def OO{p:Prop}(x:p:=by rw[<-bq z,aZ _ _ y];exact c):=x
def ON{p:Prop}(x:p:=by rw[<-bq z,aZ _ _ y];exact d):=x
def akw{p:Prop}(x:p:=by unfold fF;exact eT (by simp;omega) (bb rfl)):=x
def akx{p:Prop}(x:p:=by unfold fG;exact eT (by simp;omega) (bb rfl)):=x
def OM{p:Prop}(x:p:=by simp only[G7,B0,B1];omega):=x
def Jl{p:Prop}(x:p:=by simp[dq,AV.push]):=x
def Eh{p:Prop}(x:p:=by rw[b];rfl):=x
def OX{p:Prop}(x:p:=by simp only[B0,B1];omega):=x
def Jj{p:Prop}(x:p:=by simpa using hp):=x
def OW{p:Prop}(x:p:=by simp[f,Op.operands]):=x
def OV{p:Prop}(x:p:=by simp[b,Op.operands]):=x
def OU{p:Prop}(x:p:=by simp[j,Op.operands]):=x
def OT{p:Prop}(x:p:=by simp[a,Op.operands]):=x
def OS{p:Prop}(x:p:=by simp only[B7];omega):=x
def JY{p:Prop}(x:p:=by simp[y];omega):=x
end Go.Ab
@[reducible]def Option.b{x X:Type}(o:Option x)(f:x->Option X):Option X:=o.bind f
@[reducible]def Option.j{x X:Type}(o:Option (x⊕X))(f:x->Option X):Option X:=o.bind (Sum.elim f some)
namespace Go.Ab
abbrev Nm:=Nat×Nat
inductive jV where
 |no
 |tail (j:Nm)
 |fu
 deriving Inhabited,DecidableEq
inductive G where
 |bool (b:Bool)
 |int (k:IntKind) (n:Int)
 |str (s:ByteArray)
 |eM
 |eU (j:Nm) (off:Nat)
 |aS (cs:List G) (off:Nat)
 |sl (sz:Nat) (tok:jV) (xs:List G)
 |ms (j:Nm) (sz n:Nat)
 |sub (j:Nm) (sz lo n fu:Nat)
 |dP
 |map (j:Nm)
 |fn (f:Fn) (first aiQ:List G)
 |bX
 |iface (t:TypeId) (v:G)
 |nilIface
 |agg (cs:List G)
 |bZ (vs:List G)
 |any
 |mR (l:List (List Value))
 deriving Inhabited
structure TI where
 a:Option Addr
 n:Nat
 cap:Nat
structure AV where
 bV:Nat
 w0:World
 fz:Nat->List Value
 dC:Nm->Prop
 cC:Nm->Nat
 tl:Nm->TI
def dV(g:AV)(n:Nat)(a:T Addr)(cap:Nat):jV->Prop
 |.no=>True
 |.fu=>cap=n
 |.tail j=>g.dC j/\n<=(g.tl j).n/\((g.tl j).n=n->a=(g.tl j).a/\cap=(g.tl j).cap)
def jV.aM(S:Nm->Prop):jV->Prop
 |.tail j=>S j
 |_=>True
def nZ(fz:Nat->U Value):U (U Value)->Value->Prop
 | [],v=>v= .pointer none
 |cs::l,v=>∃b o u,v= .pointer (some ⟨b,o,none⟩)/\(u::cs)<+:(fz b).drop o/\nZ fz l u
mutual
def ac (g:AV):G->Value->Prop
 |.bool b,v=>v= .bool b
 |.int k n,v=>v= .int k n
 |.str s,v=>v= .string s
 |.eM,v=>v= .pointer none
 |.eU j off,v=>g.dC j/\v= .pointer (some ⟨g.cC j,off,none⟩)
 |.aS cs off,v=>∃b o vals,v= .pointer (some ⟨b,o+off,none⟩)/\VL g cs vals/\vals<+:(g.fz b).drop o
 |.sl sz tok xs,v=>∃a cap,v= .slice a xs.length cap/\(xs.length<=cap/\xs.length<=4611686018427387904)/\(a=none->cap=0)/\
  (xs≠ []->∃b off vals,a=some ⟨b,off,none⟩/\VE g sz xs vals/\vals<+:(g.fz b).drop off)/\
  (∀x∈a,x.spot=none)/\
  dV g xs.length a cap tok
 |.ms j _ n,v=>g.dC j/\∃a cap,v= .slice a n cap/\(n<=cap/\n<=4611686018427387904)/\(a=none->cap=0)/\(0<n->a=some ⟨g.cC j,0,none⟩)/\(∀x∈a,x.spot=none)/\dV g n a cap (.tail j)
 |.sub j sz lo n N,v=>g.dC j/\lo+n<=N/\N<=(g.tl j).n/\∃a cap,v= .slice a n cap/\(n<=cap/\N<=4611686018427387904)/\(a=none->cap=0)/\(0<n->a=some ⟨g.cC j,lo*sz,none⟩)/\(∀x∈a,x.spot=none)/\(lo=0->N<=cap/\(0<N->a=some ⟨g.cC j,0,none⟩))/\((g.tl j).n=N->lo=0->a=(g.tl j).a/\cap=(g.tl j).cap)
 |.dP,v=>v= .map none
 |.map j,v=>g.dC j/\v= .map (some (g.cC j))
 |.fn f first aiQ,v=>∃a b,v= .func f a b/\VL g first a.toList/\VL g aiQ b.toList
 |.bX,v=>v= .nilFunc
 |.iface t x,v=>∃y,v= .iface t y/\ac g x y
 |.nilIface,v=>v= .nilIface
 |.agg cs,v=>∃a,v= .agg a/\VL g cs a.toList
 |.bZ cs,v=>∃a,v= .tuple a/\VL g cs a.toList
 |.any,_=>True
 |.mR l,v=>nZ g.fz l v
def VL (g:AV):U G->U Value->Prop
 | [],vs=>vs=[]
 |x::xs,vs=>∃v rest,vs=v::rest/\ac g x v/\VL g xs rest
def VE (g:AV) (sz:Nat):U G->U Value->Prop
 | [],vs=>vs=[]
 |x::xs,vs=>∃v rest,vs=v.cells.toList++rest/\(v.cells.size=sz/\∀u∈v.cells.toList,u.oneCell'=true)/\ac g x v/\VE g sz xs rest
end
mutual
def G.aM (S:Nm->Prop):G->Prop
 |.eU j _=>S j
 |.ms j _ _=>S j
 |.sub j _ _ _ _=>S j
 |.map j=>S j
 |.aS cs _=>hH S cs
 |.sl _ tok xs=>tok.aM S/\hH S xs
 |.fn _ first aiQ=>hH S first/\hH S aiQ
 |.iface _ v=>G.aM S v
 |.agg cs=>hH S cs
 |.bZ cs=>hH S cs
 |_=>True
def hH (S:Nm->Prop):U G->Prop
 | []=>True
 |x::xs=>G.aM S x/\hH S xs
end
structure AV.Le(g h:AV):Prop where
 bV:h.bV=g.bV
 w0:h.w0=g.w0
 fz:∀b,g.fz b<+:h.fz b
 dC:∀j,g.dC j->h.dC j
 cC:∀j,g.dC j->h.cC j=g.cC j
 tl:∀j,g.dC j->h.tl j=g.tl j\/(g.tl j).n<(h.tl j).n
theorem AV.Le.refl g:AV.Le g g:=⟨rfl,rfl,λ_=>K4,λ_ h=>h,λ_ _=>rfl,λ_ _=>.inl rfl⟩
theorem AV.Le.trans{a b c:AV}(h:AV.Le a b)(k:AV.Le b c):AV.Le a c where
 bV:=k.bV.trans h.bV
 w0:=k.w0.trans h.w0
 fz x:=(h.fz x).trans (k.fz x)
 dC j hj:=k.dC j (h.dC j hj)
 cC j hj:=(k.cC j (h.dC j hj)).trans (h.cC j hj)
 tl j hj:=by
  rcases h.tl j hj with e|e<;>rcases k.tl j (h.dC j hj)with f|f
  .exact .inl (f.trans e)
  .exact .inr (by rw[e]at f;exact f)
  .exact .inr (by rw[f];exact e)
  grind
def eF{x}{xs ys:U x}(h:xs<+:ys)n:xs.drop n<+:ys.drop n:=by
 obtain⟨t,rfl⟩:=h
 grind [List.drop_append,List.prefix_append]
theorem nZ.mono{fz x}(h:∀b,fz b<+:x b):∀l v,nZ fz l v->nZ x l v
 | [],_,e=>e
 |_::l,_,⟨b,o,u,e,p,k⟩=>⟨b,o,u,e,p.trans (eF (h b) o),nZ.mono h l u k⟩
theorem dV.mono{g h}(l:AV.Le g h){n a cap tok}(e:dV g n a cap tok):dV h n a cap tok:=by
 cases tok with
 |no=>trivial
 |fu=>exact e
 |tail j=>
  obtain⟨p,q,r⟩:=e;refine⟨l.dC j p,?_,?_⟩
  .rcases l.tl j p with e|e
   .rw[e];exact q
   .omega
  .rcases l.tl j p with e|e
   .rw[e];exact r
   omega
mutual
theorem ac.mono {g h:AV} (l:AV.Le g h):(x:G)->(v:Value)->ac g x v->ac h x v
 |.bool b,v,e=>e
 |.int k n,v,e=>e
 |.str s,v,e=>e
 |.eM,v,e=>e
 |.eU j off,v,e=>by
  simp only[ac]at e |-;exact⟨l.dC j e.1,by rw[l.cC j e.1];exact e.2⟩
 |.aS cs off,v,e=>by
  simp only[ac]at e |-;obtain⟨b,o,vals,rfl,hv,hp⟩:=e;exact⟨b,o,vals,rfl,VL.mono l cs vals hv,hp.trans (eF (l.fz b) o)⟩
 |.sl sz tok xs,v,e=>by
  simp only[ac]at e |-;obtain⟨a,cap,rfl,h1,h0,h2,h3,h4⟩:=e;refine⟨a,cap,rfl,h1,h0,λhx=>?_,h3,h4.mono l⟩;obtain⟨b,off,vals,rfl,hv,hp⟩:=h2 hx;exact⟨b,off,vals,rfl,VE.mono l sz xs vals hv,hp.trans (eF (l.fz b) off)⟩
 |.ms j sz n,v,e=>by
  simp only[ac]at e |-;obtain⟨e0,a,cap,e1,e2,e3,e4,e5,e6⟩:=e;exact⟨l.dC j e0,a,cap,e1,e2,e3,by rw[l.cC j e0];exact e4,e5,e6.mono l⟩
 |.sub j sz lo n N,v,e=>by
  simp only[ac]at e |-;obtain⟨e0,e1,e2,a,cap,e3,e4,e5,e6,e7,e9,e8⟩:=e;refine⟨l.dC j e0,e1,?_,a,cap,e3,e4,e5,by rw[l.cC j e0];exact e6,e7,by rw[l.cC j e0];exact e9,?_⟩
  .rcases l.tl j e0 with q|q
   .rw[q];exact e2
   .omega
  .rcases l.tl j e0 with q|q
   .rw[q];exact e8
   .intro h;omega
 |.dP,v,e=>e
 |.map j,v,e=>by
  simp only[ac]at e |-;exact⟨l.dC j e.1,by rw[l.cC j e.1];exact e.2⟩
 |.fn f first aiQ,v,e=>by
  simp only[ac]at e |-;obtain⟨a,b,rfl,h1,h2⟩:=e;exact⟨a,b,rfl,VL.mono l first _ h1,VL.mono l aiQ _ h2⟩
 |.bX,v,e=>e
 |.iface t x,v,e=>by
  simp only[ac]at e |-;obtain⟨y,rfl,h1⟩:=e;exact⟨y,rfl,ac.mono l x y h1⟩
 |.nilIface,v,e=>e
 |.agg cs,v,e=>by
  simp only[ac]at e |-;obtain⟨a,rfl,h1⟩:=e;exact⟨a,rfl,VL.mono l cs _ h1⟩
 |.bZ cs,v,e=>by
  simp only[ac]at e |-;obtain⟨a,rfl,h1⟩:=e;exact⟨a,rfl,VL.mono l cs _ h1⟩
 |.any,v,e=>trivial
 |.mR l',v,e=>by simp only[ac]at e |-;exact nZ.mono (λb=>l.fz b) l' v e
theorem VL.mono {g h:AV} (l:AV.Le g h):(xs:U G)->(vs:U Value)->VL g xs vs->VL h xs vs
 | [],vs,e=>e
 |x::xs,vs,e=>by
  simp only[VL]at e |-;obtain⟨v,rest,rfl,h1,h2⟩:=e;exact⟨v,rest,rfl,ac.mono l x v h1,VL.mono l xs rest h2⟩
theorem VE.mono {g h:AV} (l:AV.Le g h) (sz:Nat):(xs:U G)->(vs:U Value)->VE g sz xs vs->VE h sz xs vs
 | [],vs,e=>e
 |x::xs,vs,e=>by
  simp only[VE]at e |-;obtain⟨v,rest,rfl,h0,h1,h2⟩:=e;exact⟨v,rest,rfl,h0,ac.mono l x v h1,VE.mono l sz xs rest h2⟩
end
mutual
theorem ac.aM {g:AV}:(x:G)->(v:Value)->ac g x v->x.aM g.dC
 |.bool b,v,e=>trivial
 |.int k n,v,e=>trivial
 |.str s,v,e=>trivial
 |.eM,v,e=>trivial
 |.eU j off,v,e=>by simp only[ac]at e;simp only[G.aM];exact e.1
 |.aS cs off,v,e=>by
  simp only[ac]at e;simp only[G.aM];obtain⟨b,o,vals,rfl,hv,hp⟩:=e;exact VL.aM cs vals hv
 |.sl sz tok xs,v,e=>by
  simp only[ac]at e;simp only[G.aM];obtain⟨a,cap,rfl,h1,h0,h2,h3,h4⟩:=e;refine⟨by cases tok<;>first|trivial|exact h4.1,?_⟩;cases xs with
  |nil=>simp only[hH]
  |cons y ys=>
   obtain⟨b,off,vals,rfl,hv,hp⟩:=h2 NP;exact VE.aM sz _ vals hv
 |.ms j sz n,v,e=>by simp only[ac]at e;simp only[G.aM];exact e.1
 |.sub j sz lo n N,v,e=>by simp only[ac]at e;simp only[G.aM];exact e.1
 |.dP,v,e=>trivial
 |.map j,v,e=>by simp only[ac]at e;simp only[G.aM];exact e.1
 |.fn f first aiQ,v,e=>by
  simp only[ac]at e;simp only[G.aM];obtain⟨a,b,rfl,h1,h2⟩:=e;exact⟨VL.aM first _ h1,VL.aM aiQ _ h2⟩
 |.bX,v,e=>trivial
 |.iface t x,v,e=>by
  simp only[ac]at e;simp only[G.aM];obtain⟨y,rfl,h1⟩:=e;exact ac.aM x y h1
 |.nilIface,v,e=>trivial
 |.agg cs,v,e=>by
  simp only[ac]at e;simp only[G.aM];obtain⟨a,rfl,h1⟩:=e;exact VL.aM cs _ h1
 |.bZ cs,v,e=>by
  simp only[ac]at e;simp only[G.aM];obtain⟨a,rfl,h1⟩:=e;exact VL.aM cs _ h1
 |.any,v,e=>trivial
 |.mR l,v,e=>trivial
theorem VL.aM {g:AV}:(xs:U G)->(vs:U Value)->VL g xs vs->hH g.dC xs
 | [],vs,e=>trivial
 |x::xs,vs,e=>by
  simp only[VL]at e;simp only[hH];obtain⟨v,rest,rfl,h1,h2⟩:=e;exact⟨ac.aM x v h1,VL.aM xs rest h2⟩
theorem VE.aM {g:AV} (sz:Nat):(xs:U G)->(vs:U Value)->VE g sz xs vs->hH g.dC xs
 | [],vs,e=>trivial
 |x::xs,vs,e=>by
  simp only[VE]at e;simp only[hH];obtain⟨v,rest,rfl,h0,h1,h2⟩:=e;exact⟨ac.aM x v h1,VE.aM sz xs rest h2⟩
end
def AV.cut(g:AV)(S:Nm->Prop):AV:={g with dC:=S}
mutual
theorem ac.cut {g:AV} {m:Nm->Prop}:(x:G)->(v:Value)->ac g x v->x.aM m->ac (g.cut m) x v
 |.bool b,v,e,u=>e
 |.int k n,v,e,u=>e
 |.str s,v,e,u=>e
 |.eM,v,e,u=>e
 |.eU j off,v,e,u=>by simp only[ac,G.aM]at e u |-;exact⟨u,e.2⟩
 |.aS cs off,v,e,u=>by
  simp only[ac,G.aM]at e u |-;obtain⟨b,o,vals,rfl,hv,hp⟩:=e;exact⟨b,o,vals,rfl,VL.cut cs vals hv u,hp⟩
 |.sl sz tok xs,v,e,u=>by
  simp only[ac,G.aM]at e u |-;obtain⟨a,cap,rfl,h1,h0,h2,h3,h4⟩:=e;refine⟨a,cap,rfl,h1,h0,λhx=>?_,h3,by cases tok<;>first|exact h4|exact⟨u.1,h4.2⟩⟩;obtain⟨b,off,vals,rfl,hv,hp⟩:=h2 hx;exact⟨b,off,vals,rfl,VE.cut sz xs vals hv u.2,hp⟩
 |.ms j sz n,v,e,u=>by
  simp only[ac,G.aM]at e u |-;obtain⟨e0,a,cap,e1,e2,e3,e4,e5,e6⟩:=e;exact⟨u,a,cap,e1,e2,e3,e4,e5,u,e6.2⟩
 |.sub j sz lo n N,v,e,u=>by simp only[ac,G.aM]at e u |-;exact⟨u,e.2⟩
 |.dP,v,e,u=>e
 |.map j,v,e,u=>by simp only[ac,G.aM]at e u |-;exact⟨u,e.2⟩
 |.fn f first aiQ,v,e,u=>by
  simp only[ac,G.aM]at e u |-;obtain⟨a,b,rfl,h1,h2⟩:=e;exact⟨a,b,rfl,VL.cut first _ h1 u.1,VL.cut aiQ _ h2 u.2⟩
 |.bX,v,e,u=>e
 |.iface t x,v,e,u=>by
  simp only[ac,G.aM]at e u |-;obtain⟨y,rfl,h1⟩:=e;exact⟨y,rfl,ac.cut x y h1 u⟩
 |.nilIface,v,e,u=>e
 |.agg cs,v,e,u=>by
  simp only[ac,G.aM]at e u |-;obtain⟨a,rfl,h1⟩:=e;exact⟨a,rfl,VL.cut cs _ h1 u⟩
 |.bZ cs,v,e,u=>by
  simp only[ac,G.aM]at e u |-;obtain⟨a,rfl,h1⟩:=e;exact⟨a,rfl,VL.cut cs _ h1 u⟩
 |.any,v,e,u=>trivial
 |.mR l,v,e,u=>by simp only[ac]at e |-;exact e
theorem VL.cut {g:AV} {m:Nm->Prop}:(xs:U G)->(vs:U Value)->VL g xs vs->hH m xs->VL (g.cut m) xs vs
 | [],vs,e,u=>e
 |x::xs,vs,e,u=>by
  simp only[VL,hH]at e u |-;obtain⟨v,rest,rfl,h1,h2⟩:=e;exact⟨v,rest,rfl,ac.cut x v h1 u.1,VL.cut xs rest h2 u.2⟩
theorem VE.cut {g:AV} {m:Nm->Prop} (sz:Nat):(xs:U G)->(vs:U Value)->VE g sz xs vs->hH m xs->VE (g.cut m) sz xs vs
 | [],vs,e,u=>e
 |x::xs,vs,e,u=>by
  simp only[VE,hH]at e u |-;obtain⟨v,rest,rfl,h0,h1,h2⟩:=e;exact⟨v,rest,rfl,h0,ac.cut x v h1 u.1,VE.cut sz xs rest h2 u.2⟩
end
theorem VL.length{g}:∀xs vs,VL g xs vs->vs.length=xs.length
 | [],vs,e=>by simp[VL]at e;simp[e]
 |x::xs,vs,e=>by
  obtain⟨v,rest,rfl,z,y⟩:=e;simp[VL.length xs rest y]
theorem VE.length{g sz}:∀xs vs,VE g sz xs vs->vs.length=xs.length*sz
 | [],vs,e=>by simp[VE]at e;simp[e]
 |x::xs,vs,e=>by
  obtain⟨v,rest,rfl,z,a,y⟩:=e;have:=VE.length xs rest y
  grind
def VL.get{g}:∀xs vs,VL g xs vs->∀(i:Nat)x,xs[i]?=some x->∃v,vs[i]?=some v/\ac g x v
 | [],vs,e,i,x,h=>by simp at h
 |y::xs,vs,e,i,x,h=>by
  obtain⟨v,rest,rfl,z,a⟩:=e;cases i with
  |zero=>simp at h;subst h;exact⟨v,rfl,z⟩
  |succ i=>simpa using VL.get xs rest a i x Do
def VL.set{g}:∀xs vs,VL g xs vs->∀i x v,ac g x v->VL g (xs.set i x) (vs.set i v)
 | [],vs,e,i,x,v,h=>by simp[VL]at e;simp[e,VL]
 |y::xs,vs,e,i,x,v,h=>by
  obtain⟨u,rest,rfl,a,z⟩:=e;cases i with
  |zero=>simp;exact⟨v,rest,rfl,h,z⟩
  |succ i=>simp;exact⟨u,_,rfl,a,VL.set xs rest z i x v h⟩
def VL.append{g}:∀xs vs,VL g xs vs->∀ys us,VL g ys us->VL g (xs++ys) (vs++us)
 | [],vs,e,ys,us,h=>by simp[VL]at e;simpa[e]using h
 |x::xs,vs,e,ys,us,h=>by
  obtain⟨u,rest,rfl,y,z⟩:=e;exact⟨u,_,rfl,y,VL.append xs rest z ys us h⟩
def VL.drop{g}:∀n xs vs,VL g xs vs->VL g (xs.drop n) (vs.drop n)
 |0,xs,vs,e=>by simpa using e
 |n+1,[],vs,e=>by simp[VL]at e;simp[e,VL]
 |n+1,x::xs,vs,e=>by
  obtain⟨u,rest,rfl,z,y⟩:=e;simpa using VL.drop n xs rest y
def VL.take{g}:∀n xs vs,VL g xs vs->VL g (xs.take n) (vs.take n)
 |0,xs,vs,e=>by simp[VL]
 |n+1,[],vs,e=>by simp[VL]at e;simp[e,VL]
 |n+1,x::xs,vs,e=>by
  obtain⟨u,rest,rfl,y,z⟩:=e;exact⟨u,_,rfl,y,VL.take n xs rest z⟩
def VE.append{g sz}:∀xs vs,VE g sz xs vs->∀ys us,VE g sz ys us->VE g sz (xs++ys) (vs++us)
 | [],vs,e,ys,us,h=>by simp[VE]at e;simpa[e]using h
 |x::xs,vs,e,ys,us,h=>by
  obtain⟨u,rest,rfl,y,z,a⟩:=e;exact⟨u,rest++us,by simp,y,z,VE.append xs rest a ys us h⟩
def VE.eV{g sz}:∀xs vs,VE g sz xs vs->∀v∈vs,v.oneCell'=true
 | [],vs,e=>by simp[VE]at e;simp[e]
 |x::xs,vs,e=>by
  obtain⟨u,rest,rfl,y,a,z⟩:=e;intro v hv;rcases Hy.1 hv with hv|hv
  .exact y.2 v hv
  .exact VE.eV xs rest z v hv
def VE.drop{g sz}:∀n xs vs,VE g sz xs vs->VE g sz (xs.drop n) (vs.drop (n*sz))
 |0,xs,vs,e=>by simpa using e
 |n+1,[],vs,e=>by simp[VE]at e;simp[e,VE]
 |n+1,x::xs,vs,e=>by
  obtain⟨u,rest,rfl,y,a,z⟩:=e;have y:=y.1;simp only[PX]at y;have:(n+1)*sz=u.cells.toList.length+n*sz:=by rw[y];simp[JC,LL]
  have e:(u.cells.toList++rest).drop (u.cells.toList.length+n*sz)=rest.drop (n*sz):=by
   rw[ML,Nat.add_sub_cancel_left,Lo B9,LW]
  rw[this,e];simpa using VE.drop n xs rest z
def VE.take{g sz}:∀n xs vs,VE g sz xs vs->VE g sz (xs.take n) (vs.take (n*sz))
 |0,xs,vs,e=>by simp[VE]
 |n+1,[],vs,e=>by simp[VE]at e;simp[e,VE]
 |n+1,x::xs,vs,e=>by
  obtain⟨u,rest,rfl,y,a,b⟩:=e;have z:=y;have y:=y.1;simp only[PX]at y;have:(n+1)*sz=u.cells.toList.length+n*sz:=by rw[y];simp[JC,LL]
  rw[List.take_append];refine⟨u,rest.take _,?_,z,a,VE.take n xs rest b⟩;rw[L6 B9];congr 2;omega
structure AV.nk(S:Nm->Prop)(g h:AV):Prop where
 bV:h.bV=g.bV
 w0:h.w0=g.w0
 fz:∀b,g.fz b<+:h.fz b
 dC:∀j,S j->g.dC j->h.dC j
 cC:∀j,S j->g.dC j->h.cC j=g.cC j
 tl:∀j,S j->g.dC j->h.tl j=g.tl j\/(g.tl j).n<(h.tl j).n
theorem AV.Le.some{g h}(l:AV.Le g h)S:AV.nk S g h:=⟨l.bV,l.w0,l.fz,λj _=>l.dC j,λj _=>l.cC j,λj _=>l.tl j⟩
def AV.nk.all{S g h}(l:AV.nk S g h)(hs:∀j,g.dC j->S j):AV.Le g h:=⟨l.bV,l.w0,l.fz,λj x=>l.dC j (hs j x) x,λj x=>l.cC j (hs j x) x,λj x=>l.tl j (hs j x) x⟩
theorem AV.nk.refl S g:AV.nk S g g:=(AV.Le.refl g).some S
theorem AV.nk.trans{S:Nm->Prop}{a b c:AV}(h:AV.nk S a b)(k:AV.nk S b c):AV.nk S a c where
 bV:=k.bV.trans h.bV
 w0:=k.w0.trans h.w0
 fz x:=(h.fz x).trans (k.fz x)
 dC j hs hj:=k.dC j hs (h.dC j hs hj)
 cC j hs hj:=(k.cC j hs (h.dC j hs hj)).trans (h.cC j hs hj)
 tl j hs hj:=by
  rcases h.tl j hs hj with e|e<;>rcases k.tl j hs (h.dC j hs hj)with f|f
  .exact .inl (f.trans e)
  .exact .inr (by rw[e]at f;exact f)
  .exact .inr (by rw[f];exact e)
  grind
def VL.oU{g h}(l:AV.nk (λ_=>False) g h){xs vs}(e:VL g xs vs)(u:hH (λ_=>False) xs):VL h xs vs:=by
 have x:=VL.cut _ _ e u;have y:AV.Le (g.cut λ_=>False) h:=⟨l.bV,l.w0,l.fz,λ_ h=>h.elim,λ_ h=>h.elim,λ_ h=>h.elim⟩
 grind [VL.mono]
inductive bB where
 |cells (cs:List G)
 |tail (sz n:Nat)
 |map (es:List (G×G))
 |sG (s:ByteArray) (pos:Nat)
 |yB (i:Nm)
 |bD (sz:Nat) (xs:List G)
 deriving Inhabited
abbrev Hp:=Nm->T bB
def cW(hp:Hp)(j:Nm)(o:bB):Hp:=λi=>if i=j then some o else hp i
theorem bp hp j o:cW hp j o j=some o:=by simp[cW]
theorem aZ hp{i j}o(h:i≠j):cW hp j o i=hp i:=by simp[cW,h]
def cu(g:AV):U (G×G)->U MapEntry->Prop
 | [],y=>y=[]
 |x::xs,y=>∃e rest,y=e::rest/\ac g x.1 e.key/\ac g x.2 e.val/\cu g xs rest
theorem cu.mono{g h}(l:AV.Le g h):∀xs z,cu g xs z->cu h xs z
 | [],z,e=>e
 |x::xs,z,e=>by
  obtain⟨y,rest,rfl,a,b,c⟩:=e;exact⟨y,rest,rfl,ac.mono l _ _ a,ac.mono l _ _ b,cu.mono l xs rest c⟩
def dq(g:AV)(j:Nm):bB->T Nat
 |.cells _=>some (g.cC j)
 |.map _=>some (g.cC j)
 |.sG _ _=>some (g.cC j)
 |.yB _=>some (g.cC j)
 |.bD _ xs=>match xs with
  | []=>none
  |_::_=>some (g.cC j)
 |.tail _ _=>if(g.tl j).n<(g.tl j).cap then(g.tl j).a.map (·.block)else none
def Hk(g:AV)(j:Nm)(sz n m:Nat):Prop:=(g.tl j).n=n/\n<=(g.tl j).cap/\(g.tl j).a=some ⟨g.cC j,0,none⟩/\(g.tl j).cap*sz<=m
def ey(g:AV)(w:World)(j:Nm):bB->Prop
 |.cells cs=>∃vs rest elem,VL g cs vs/\w.heap[g.cC j]?=some (.cells (vs++rest).toArray elem (0,0))/\g.fz (g.cC j)=[]
 |.tail sz n=>(g.tl j).n=n/\n<=(g.tl j).cap/\
  (n<(g.tl j).cap->∃b off,(g.tl j).a=some ⟨b,off,none⟩/\(g.fz b).length=off+n*sz/\
   ∃c elem,w.heap[b]?=some (.cells c elem (0,0))/\off+(g.tl j).cap*sz<=c.size)
 |.map d=>∃x y,cu g d x.toList/\w.heap[g.cC j]?=some (.map x y)/\g.fz (g.cC j)=[]
 |.sG s pos=>w.heap[g.cC j]?=some (.stringIter s pos)/\g.fz (g.cC j)=[]
 |.yB i=>g.dC i/\∃z last,w.heap[g.cC j]?=some (.mapIter (some (g.cC i)) z #[] last)/\g.fz (g.cC j)=[]
 |.bD sz xs=>xs≠ []->∃vals rest elem,VE g sz xs vals/\w.heap[g.cC j]?=some (.cells (vals++rest).toArray elem (0,0))/\g.fz (g.cC j)=[]/\Hk g j sz xs.length (vals.length+rest.length)
structure dy(g:AV)(w:World)(hp:Hp):Prop where
 dC:∀j,g.dC j↔(hp j).isSome=true
 jI:Below g.bV g.w0 w
 size:g.bV<=w.heap.size
 fz:∀b,g.fz b≠ []->∃c e fr,w.heap[b]?=some (.cells c e fr)/\g.fz b<+:c.toList
 fR:∀j o,hp j=some o->ey g w j o
 el:∀j o b,hp j=some o->dq g j o=some b->g.bV<=b/\b<w.heap.size
 jH:∀i j o p b,hp i=some o->hp j=some p->dq g i o=some b->dq g j p=some b->i=j
def dy.dl{g w hp}(r:dy g w hp){j o}(h:hp j=some o):g.dC j:=(r.dC j).2 (by simp[h])
def ey.lU{g h w w' j o}(l:AV.Le g h)(x:g.dC j)(e:h.tl j=g.tl j)(f:∀b,dq g j o=some b->w'.heap[b]?=w.heap[b]?/\h.fz b=g.fz b)(r:ey g w j o):ey h w' j o:=by
 cases o with
 |cells cs=>
  obtain⟨vs,rest,elem,a,y,z⟩:=r;obtain⟨e1,e2⟩:=f _ rfl;refine⟨vs,rest,elem,VL.mono l _ _ a,?_,?_⟩
  .rw[l.cC j x,e1];exact y
  .rw[l.cC j x,e2];exact z
 |tail sz n=>
  obtain⟨a,y,z⟩:=r;refine⟨by rw[e];exact a,by rw[e];exact y,λd=>?_⟩;rw[e]at d;obtain⟨b,off,k1,u,c,elem,v,k4⟩:=z d;obtain⟨e1,e2⟩:=f b (by simp only[dq];rw[BX (by rw[a];exact d),k1];rfl);exact⟨b,off,by rw[e];exact k1,by rw[e2];exact u,c,elem,by rw[e1];exact v,by rw[e];exact k4⟩
 |map C=>
  obtain⟨m,p,a,y,z⟩:=r;obtain⟨e1,e2⟩:=f _ rfl;refine⟨m,p,cu.mono l _ _ a,?_,?_⟩
  .rw[l.cC j x,e1];exact y
  .rw[l.cC j x,e2];exact z
 |sG s pos=>
  obtain⟨y,z⟩:=r;obtain⟨e1,e2⟩:=f _ rfl;constructor
  .rw[l.cC j x,e1];exact y
  .rw[l.cC j x,e2];exact z
 |yB i=>
  obtain⟨t,q,last,y,z⟩:=r;obtain⟨e1,e2⟩:=f _ rfl;refine⟨l.dC i t,q,last,?_,?_⟩
  .rw[l.cC j x,e1,l.cC i t];exact y
  .rw[l.cC j x,e2];exact z
 |bD sz xs=>
  intro k;obtain⟨vals,rest,elem,a,y,z,A⟩:=r k;obtain⟨e1,e2⟩:=f _ (by cases xs with|nil=>exact absurd rfl k|cons=>rfl);refine⟨vals,rest,elem,VE.mono l _ _ _ a,?_,?_,?_⟩
  .rw[l.cC j x,e1];exact y
  .rw[l.cC j x,e2];exact z
  .unfold Hk;rw[e,l.cC j x];exact A
def gC{g h j}o(l:AV.Le g h)(x:g.dC j)(y:h.tl j=g.tl j):dq h j o=dq g j o:=by
 cases o<;>simp[dq,l.cC j x,y]
def dy.gm{g w hp}(r:dy g w hp){b}(x:g.fz b≠ []):b<w.heap.size:=by
 grind [r.fz,grind]
def gD{y}{l:U y}{i x}(h:l[i]?=some x):i<l.length:=(LI.1 h).1
def dy.drew{g:AV}{w:World}{hp:Hp}(r:dy g w hp)(n:Nat):dy g {w with drawn:=n} hp where
 dC:=r.dC
 jI:=⟨r.jI.os,r.jI.tape,r.jI.output,r.jI.size,r.jI.block⟩
 size:=r.size
 fz:=r.fz
 fR j o h:=by
  have:=r.fR j o h;cases o<;>exact this
 el:=r.el
 jH:=r.jH
def AV.push(g:AV)(j:Nm)(b:Nat):AV:={g with dC:=λi=>i=j\/g.dC i,cC:=λi=>if i=j then b else g.cC i}
def lu(g:AV){j:Nm}(b:Nat)(x:¬g.dC j):AV.Le g (g.push j b)where
 bV:=rfl
 w0:=rfl
 fz _:=K4
 dC i hi:=.inr hi
 cC i hi:=by simp only[AV.push];rw[BY (λe=>x (by rw[<-e];exact hi))]
 tl _ _:=.inl rfl
def hX(w:World)o:(w.alloc o).heap[w.heap.size]?=some o:=by
 show(w.heap.push o)[w.heap.size]?=_
 simp
def dy.cT{g w hp}(r:dy g w hp){j}(h:hp j=none):¬g.dC j:=λe=>by
 grind [r.dC]
def dy.alloc{g w hp}(r:dy g w hp){j}(t:hp j=none)o f(d:dq (g.push j w.heap.size) j f=some w.heap.size)
 (u:ey (g.push j w.heap.size) (w.alloc o) j f):dy (g.push j w.heap.size) (w.alloc o) (cW hp j f):=by
 have l:=lu g w.heap.size (r.cT t);have key:∀i p,cW hp j f i=some p->(i=j/\p=f)\/(i≠j/\hp i=some p):=by
  intro i p h;by_cases e:i=j
  .subst e;rw[bp]at h;simp at h;exact .inl ⟨rfl,h.symm⟩
  .rw[aZ _ _ e]at h;exact .inr ⟨e,h⟩
 have x:∀i p,hp i=some p->dq _ i p=dq g i p:=λi p h=>gC p l (r.dl h) rfl
 refine⟨λi=>?_,r.jI.alloc r.size o,KV r.size NP,?_,?_,?_,?_⟩
 .by_cases e:i=j
  .subst e;simp[AV.push,cW]
  .simp[AV.push,aZ _ _ e,e,false_or];exact r.dC i
 .intro b a;obtain⟨c,e,fr,h,hp⟩:=r.fz b a;exact⟨c,e,fr,by rw[Ln _ _ _ (r.gm a)];exact h,hp⟩
 .intro i p h;rcases key i p h with⟨rfl,rfl⟩|⟨m,h⟩
  .exact u
  .exact(r.fR i p h).lU l (r.dl h) rfl λb a=>⟨Ln _ _ _ (r.el i p b h a).2,rfl⟩
 .intro i p b h a;rcases key i p h with⟨rfl,rfl⟩|⟨m,h⟩
  .rw[d]at a;cases a;exact⟨r.size,by simp⟩
  .rw[x i p h]at a;obtain⟨v,D⟩:=r.el i p b h a;exact⟨v,by simp;omega⟩
 .intro i k p q b A C y z;rcases key i p A with⟨rfl,rfl⟩|⟨m,h⟩<;>rcases key k q C with⟨rfl,rfl⟩|⟨s,n⟩
  .rfl
  .rw[d]at y;cases y;rw[x k q n]at z;have:=(r.el k q _ n z).2;omega
  .rw[d]at z;cases z;rw[x i p h]at y;have:=(r.el i p _ h y).2;omega
  .rw[x i p h]at y;rw[x k q n]at z;exact r.jH i k p q b h n y z
def dy.oh{g w hp}(r:dy g w hp){j}(x:hp j=none)cs vs elem(y:VL g cs vs.toList)
 (z:g.fz w.heap.size=[]):dy (g.push j w.heap.size) (w.alloc (.cells vs elem)) (cW hp j (.cells cs)):=by
 refine r.alloc x _ _ Jl ⟨vs.toList,[],elem,VL.mono (lu g _ (r.cT x)) _ _ y,?_,?_⟩
 .simp only[AV.push,J0,Lm];rw[hX]
 .simpa[AV.push]using z
def dy.jJ{g w hp}(r:dy g w hp):g.fz w.heap.size=[]:=by
 apply L3;intro h;have:=r.gm h;omega
def AV.cO(g:AV)(b:Nat)(vs:U Value):AV:={g with fz:=λx=>if x=b then vs else g.fz x}
def K1{g:AV}{b:Nat}{vs:U Value}(h:g.fz b<+:vs):AV.Le g (g.cO b vs)where
 bV:=rfl
 w0:=rfl
 fz x:=by
  grind [AV.cO]
 dC _ h:=h
 cC _ _:=rfl
 tl _ _:=.inl rfl
def dy.qE{g:AV}{w:World}{hp:Hp}(r:dy g w hp)(vs:Array Value)(elem:TypeId):
 dy (g.cO w.heap.size vs.toList) (w.alloc (.cells vs elem)) hp where
 dC:=r.dC
 jI:=r.jI.alloc r.size _
 size:=KV r.size NP
 fz b hb:=by
  by_cases e:b=w.heap.size
  .subst e;exact⟨vs,elem,(0,0),hX _ _,by simp[AV.cO]⟩
  .have x:g.fz b≠ []:=by simpa[AV.cO,e]using hb
   obtain⟨c,a,fr,h,hp⟩:=r.fz b x;exact⟨c,a,fr,by rw[Ln _ _ _ (r.gm x)];exact h,by simpa[AV.cO,e]using hp⟩
 fR j p h:=by
  refine(r.fR j p h).lU (K1 (by rw[r.jJ];exact LV)) (r.dl h) rfl λb hb=>?_
  have y:=(r.el j p b h hb).2;exact⟨Ln _ _ _ y,by simp[AV.cO];omega⟩
 el j p b h hb:=by
  have x:dq g j p=some b:=by rw[<-hb];cases p<;>rfl
  obtain⟨d,l⟩:=r.el j p b h x;exact⟨d,by simp;omega⟩
 jH i j p q b f k z hbj:=by
  have e1:dq g i p=some b:=by rw[<-z];cases p<;>rfl
  have e2:dq g j q=some b:=by rw[<-hbj];cases q<;>rfl
  exact r.jH i j p q b f k e1 e2
section
variable {P:Program}
def du(P:Program)(t:TypeId):T Nat:=(P.info? t).map (·.size)
def gV(P:Program)(t:TypeId):T At:=(P.underlying t).map (·.isRow)
def ly{t b}(h:gV P t=some b)w:(isAgg t).run P w= .ok b w:=by
 unfold gV at h;cases hu:P.underlying t with
 |none=>simp[hu]at h
 |some d=>
  simp[hu]at h;unfold isAgg;rw[FO,FG hu w];subst h;cases d<;>rfl
def dH{t n}(h:du P t=some n)w:(sizeOf t).run P w= .ok n w:=by
 unfold du at h;cases hu:P.info? t with
 |none=>simp[hu]at h
 |some d=>simp[hu]at h;simp[sizeOf,typeInfo,hu,h]
def cut(agg:At)(n:Nat)(cs:U G)(off:Nat):T G:=if agg then(if off+n<=cs.length then some (.agg ((cs.drop off).take n))else none)else cs[off]?
def iw{y xs ys}(h:xs<+:ys){i:Nat}{x:y}(hx:xs[i]?=some x):ys[i]?=some x:=by
 obtain⟨t,rfl⟩:=h
 grind
def kx{g w t agg n}(z:gV P t=some agg)(e:du P t=some n){b o off c elem fr}(k:w.heap[b]?=some (.cells c elem fr)){cs vs}(a:VL g cs vs)(hp:vs<+:c.toList.drop o){x}(hx:cut agg n cs off=some x):
 ∃v,(loadVar t ⟨b,o+off,none⟩).run P w= .ok v w/\ac g x v:=by
 have y:∀i v,vs[i]?=some v->w.cell? ⟨b,o+i,none⟩=some v:=by
  intro i v h;have:=iw hp h;simp[World.cell?,k];simpa using this
 unfold cut at hx;cases agg with
 |true=>
  simp only[J0]at hx;split at hx
  .cases hx;have f:=VL.length _ _ a;refine⟨.agg ((vs.drop off).take n).toArray,?_,?_⟩
   .unfold gV at z;cases hu:P.underlying t with
    |none=>simp[hu]at z
    |some d=>
     simp[hu]at z;refine run_loadVar_mid w b _ t _ d (λj v h=>?_) hu z ?_
     .have m:j<n:=by
       have:=gD h;simp at this;omega
      rw[List.getElem?_take_of_lt m,L1]at h;have:=y _ _ h;rw[<-Li]at this;exact this
     .unfold du at e;rw[e];simp;omega
   .exact⟨_,rfl,by simpa using VL.take n _ _ (VL.drop off _ _ a)⟩
  .simp at hx
 |false=>
  obtain⟨v,p,q⟩:=VL.get _ _ a off x hx;refine⟨v,?_,q⟩;simp[loadVar,FO,ly z];simp[Sem.run,y off v p]
def dy.yQ{g w hp}(r:dy g w hp){t agg n}(y:gV P t=some agg)(z:du P t=some n){j off cs}(a:hp j=some (.cells cs)){x}(hx:cut agg n cs off=some x):
 ∃v,(loadVar t ⟨g.cC j,off,none⟩).run P w= .ok v w/\ac g x v:=by
 obtain⟨vs,rest,elem,b,c,_⟩:=r.fR j _ a;have:=kx (o:=0) y z c b NP hx;simpa using this
def dy.qF{g w hp}(r:dy g w hp){t agg n}(j:gV P t=some agg)(k:du P t=some n){cs off p}(hp:ac g (.aS cs off) p){x}(hx:cut agg n cs off=some x)(l:cs≠ []):
 ∃a v,p= .pointer (some a)/\(loadVar t a).run P w= .ok v w/\ac g x v:=by
 obtain⟨b,o,vals,rfl,f,y⟩:=hp;have i:vals≠ []:=by
  intro h;have:=VL.length _ _ f
  grind
 have z:g.fz b≠ []:=by
  grind
 obtain⟨c,e,fr,m,d⟩:=r.fz b z;obtain⟨v,q,s⟩:=kx j k m f (y.trans (eF d o)) hx;exact⟨_,v,rfl,q,s⟩
def G.cells:G->U G
 |.agg cs=>cs
 |x=>[x]
def G.eV:G->At
 |.agg _|.bZ _|.any=>false
 |_=>true
def ac.eV{g x v}(h:ac g x v)(hs:x.eV=true):v.oneCell'=true:=by
 cases x<;>simp[G.eV]at hs<;>simp only[ac]at h
 case bool=>subst h;rfl
 case int=>subst h;rfl
 case str=>subst h;rfl
 case eM=>subst h;rfl
 case eU=>obtain⟨_,rfl⟩:=h;rfl
 case aS=>obtain⟨_,_,_,rfl,_⟩:=h;rfl
 case sl=>obtain⟨_,_,rfl,_⟩:=h;rfl
 case ms=>obtain⟨_,_,_,rfl,_⟩:=h;rfl
 case sub=>obtain⟨_,_,_,_,_,rfl,_⟩:=h;rfl
 case dP=>subst h;rfl
 case map=>obtain⟨_,rfl⟩:=h;rfl
 case fn=>obtain⟨_,_,rfl,_⟩:=h;rfl
 case bX=>subst h;rfl
 case iface=>obtain⟨_,rfl,_⟩:=h;rfl
 case nilIface=>subst h;rfl
 case mR l=>cases l<;>first|(subst h;rfl)|(obtain⟨_,_,_,rfl,_⟩:=h;rfl)
def VL.eV{g}:∀xs vs,VL g xs vs->xs.all G.eV=true->∀v∈vs,v.oneCell'=true
 | [],vs,e,_=>by simp[VL]at e;simp[e]
 |x::xs,vs,e,hs=>by
  obtain⟨v,rest,rfl,y,z⟩:=e;simp only[List.all_cons,BR]at hs;intro u hu;rcases BV.1 hu with rfl|hu
  .exact y.eV hs.1
  .exact VL.eV xs rest z hs.2 u hu
def ac.cells{g x v}(h:ac g x v)(hs:x.cells.all G.eV=true):VL g x.cells v.cells.toList:=by
 cases x
 case agg cs=>simp[ac]at h;obtain⟨a,rfl,h⟩:=h;exact h
 all_goals
  have y:=h.eV (by simpa[G.cells]using hs);have:v.cells.toList=[v]:=by cases v<;>simp_all[Value.cells,Value.oneCell']
  rw[this];exact⟨v,[],rfl,h,rfl⟩
def fH(cs:U G)(off:Nat)(xs:U G):U G:=cs.take off++xs++cs.drop (off+xs.length)
def dy.set{g w w' hp}(r:dy g w hp){j o o'}(a:hp j=some o)(f:dq g j o'=dq g j o)(l:∀k,dq g j o≠some k->w'.heap[k]?=w.heap[k]?)(hs:w'.heap.size=w.heap.size)(K:w'.tape=w.tape)(m:w'.os=w.os)(n:w'.output=w.output)(s:∀b,dq g j o=some b->g.fz b≠ []->∃c e fr,w'.heap[b]?=some (.cells c e fr)/\g.fz b<+:c.toList)(L:ey g w' j o'):dy g w' (cW hp j o'):=by
 have key:∀i p,cW hp j o' i=some p->(i=j/\p=o')\/(i≠j/\hp i=some p):=by
  intro i p h;by_cases e:i=j
  .subst e;rw[bp]at h;simp at h;exact .inl ⟨rfl,h.symm⟩
  .rw[aZ _ _ e]at h;exact .inr ⟨e,h⟩
 refine⟨λi=>?_,⟨m.trans r.jI.os,K.trans r.jI.tape,n.trans r.jI.output,by rw[hs];exact r.jI.size,λk t=>?_⟩,by rw[hs];exact r.size,?_,?_,?_,?_⟩
 .by_cases e:i=j
  .subst e;rw[bp];simp[r.dl a]
  .rw[aZ _ _ e];exact r.dC i
 .rw[l k ?_];exact r.jI.block k t;intro h;have:=(r.el j o k a h).1;omega
 .intro b x;by_cases h:dq g j o=some b
  .exact s b h x
  .obtain⟨c,e,fr,u,v⟩:=r.fz b x;exact⟨c,e,fr,by rw[l b h];exact u,v⟩
 .intro i p h;rcases key i p h with⟨rfl,rfl⟩|⟨y,h⟩
  .exact L
  .refine(r.fR i p h).lU (AV.Le.refl g) (r.dl h) rfl λb x=>⟨?_,rfl⟩
   exact l b λA=>y (r.jH i j p o b h a x A)
 .intro i p b h x;rw[hs];rcases key i p h with⟨rfl,rfl⟩|⟨y,h⟩
  .rw[f]at x;exact r.el _ o b a x
  .exact r.el i p b h x
 .intro i k p q b N t C D;have z:∀i p,cW hp j o' i=some p->dq g i p=some b->∃d,hp i=some d/\dq g i d=some b:=by
   grind
  obtain⟨d,u,v⟩:=z i p N C;obtain⟨P,Q,X⟩:=z k q t D;exact r.jH i k d P b u Q v X
def dy.FF{g w hp}(r:dy g w hp){t n}(A:du P t=some n){j off cs}(p:hp j=some (.cells cs)){x v}(hx:ac g x v)(hs:x.cells.all G.eV=true)(q:x.cells.length=n)(c:off+n<=cs.length):
 ∃w',(storeVar t ⟨g.cC j,off,none⟩ v).run P w= .ok () w'/\dy g w' (cW hp j (.cells (fH cs off x.cells))):=by
 obtain⟨vs,rest,elem,d,s,u⟩:=r.fR j _ p;have z:=hx.cells hs;have y:=VL.length _ _ z;have f:=VL.length _ _ d;have i:=MP (P:=P) _ off elem v.cells.toList 0 _ w s (by simp at y |-;omega) (VL.eV _ _ z hs);have l:(storeVar t ⟨g.cC j,off,none⟩ v).run P w=(storeCells ⟨g.cC j,off,none⟩ v.cells.toList).run P w:=by
  simp only[storeVar,FO,dH A,G4];rw[BY (by simp at y |-;omega)]
 refine⟨_,l.trans i,?_⟩
 .refine r.set p rfl (λk C=>MO _ _ _ _ (λe=>C (by simp[dq,e]))) NP rfl rfl rfl ?_ ?_
  .intro b a m;cases a;exact absurd u m
  .have o:v.cells.toList.length=n:=by rw[y,q]
   have D:off+n<=vs.length:=by rw[f];exact c
   refine⟨vs.take off++v.cells.toList++vs.drop (off+x.cells.length),rest,elem,?_,?_,u⟩
   .exact VL.append _ _ (VL.append _ _ (VL.take off _ _ d) _ _ z) _ _ (VL.drop _ _ _ d)
   .rw[MN w _ _ _ elem _ s];have e1:(vs++rest).take off=vs.take off:=NO B9;have e2:(vs++rest).drop (off+v.cells.toList.length)=vs.drop (off+x.cells.length)++rest:=by
     rw[o,q,MM B9]
    simp only[L5,e1,e2];simp
def dy.yR{g w hp}(r:dy g w hp){sz tok xs v}(h:ac g (.sl sz tok xs) v)(y:xs≠ []):
 ∃b off cap vals,v= .slice (some ⟨b,off,none⟩) xs.length cap/\VE g sz xs vals/\vals<+:(g.fz b).drop off/\∀j u,vals[j]?=some u->w.cell? ((⟨b,off,none⟩:Addr).add j)=some u:=by
 simp only[ac]at h;obtain⟨a,cap,rfl,l,m,f,n,o⟩:=h;obtain⟨b,off,vals,rfl,i,hp⟩:=f y;refine⟨b,off,cap,vals,rfl,i,hp,λj u hu=>?_⟩;have x:vals≠ []:=by intro e;subst e;simp at hu
 have z:g.fz b≠ []:=by intro e;rw[e]at hp;simp at hp;exact x hp
 obtain⟨c,e,fr,k,d⟩:=r.fz b z;have:=iw (hp.trans (eF d off)) hu;rw[JE];simp[World.cell?,k];simpa using this
def gF{g w hp}(r:dy g w hp){sz tok xs v}(h:ac g (.sl sz tok xs) v):
 ∃vals,VE g sz xs vals/\∀w',w'.heap=w.heap->(Builtin.firstCells sz xs.length v).run P w'= .ok vals.toArray w':=by
 by_cases x:xs=[]
 .subst x;refine⟨[],by simp[VE],λw' _=>?_⟩;simp only[ac]at h;obtain⟨a,cap,rfl,_⟩:=h;cases a<;>simp[Builtin.firstCells,loadCells,loadCellsFrom]
 .obtain⟨b,off,cap,vals,rfl,y,hp,z⟩:=r.yR h x;refine⟨vals,y,λw' c=>?_⟩;refine MJ (P:=P) w' sz _ _ _ _ vals (VE.length _ _ y) λj u hu=>?_
  have:=z j u hu;simpa[World.cell?,c]using this
def AV.tail(g:AV)(j:Nm)(t:TI):AV:={g with tl:=λi=>if i=j then t else g.tl i}
def NZ{g:AV}{j:Nm}{t:TI}(h:t=g.tl j\/(g.tl j).n<t.n):AV.Le g (g.tail j t)where
 bV:=rfl
 w0:=rfl
 fz _:=K4
 dC _ h:=h
 cC _ _:=rfl
 tl i _:=by
  grind [AV.tail]
def RS{x}{a b:U x}(h:a<+:b):a=b.take a.length:=by
 obtain⟨t,rfl⟩:=h;simp
structure oV(P:Program)(t e:TypeId)(sz bytes:Nat):Prop where
 aM:P.underlying t=some (.slice e)
 p5:∃i z,P.info? e=some i/\i.zero=some z/\i.size=sz/\i.bytes=bytes/\z.cells.size=sz
 pos:0<sz
def dy.append{g w hp}(r:dy g w hp){t ty e sz bytes}(h:oV P t e sz bytes){j n}(hj:hp j=some (.tail sz n)){xs ys tok s x}(hs:ac g (.sl sz (.tail j) xs) s)(hn:xs.length=n)(hx:ac g (.sl sz tok ys) x)(hb:(xs.length+ys.length)*bytes<=140737488355328)(hm:xs.length+ys.length<=4611686018427387904):
 ∃v w' g',(Builtin.append_ #[t,t] ty #[s,x]).run P w= .ok v w'/\AV.Le g g'/\dy g' w' (cW hp j (.tail sz (n+ys.length)))/\ac g' (.sl sz (.tail j) (xs++ys)) v:=by
 obtain⟨i,z,hi,hz,akL,hib,hzs⟩:=h.p5;subst hn akL hib;obtain⟨vals,N,ajd⟩:=gF (P:=P) r hx;obtain⟨K,ajs,ajA⟩:=gF (P:=P) r hs;have hvl:=VE.length _ _ N;have hol:=VE.length _ _ ajs;have hs0:=hs;have hx0:=hx;simp only[ac]at hs hx;obtain⟨a,cap,rfl,hcap,ajn,akh,aiT,ak6⟩:=hs;obtain⟨xa,ak7,rfl,amv,_,_,_,_⟩:=hx;obtain⟨hjn,_,htl⟩:=ak6;obtain⟨o1,o2,o4⟩:=r.fR j _ hj;obtain⟨ha,hc⟩:=htl o1;by_cases Q:xs.length+ys.length<=cap
 .by_cases hye:ys=[]
  .subst hye;refine⟨_,w,g,?_,AV.Le.refl g,?_,by simpa using hs0⟩
   .have hf:=ajd w rfl;simp only[VE]at N;subst N;cases a<;>simp[Builtin.append_,FG h.aM,sizeOf,typeInfo,hi,Builtin.lenOf,hcap]at hf ⊢<;>simp[hf,storeCells]
   .have:cW hp j (.tail i.size (xs.length+([]:U G).length))=hp:=by
     funext k;by_cases e:k=j
     .subst e;rw[bp,hj];simp
     .rw[aZ _ _ e]
    rw[this];exact r
  .have amw:0<ys.length:=KS.2 hye;obtain⟨b,off,k1,k2,c,elem,k3,k4⟩:=o4 B9;rw[k1]at ha;subst ha;have hst:=MP P b (off+xs.length*i.size) elem vals 0 c w k3 (by
    have:(xs.length+ys.length)*i.size<=cap*i.size:=JW _ Q;rw[JC]at this;rw[<-hc]at k4;omega) (VE.eV _ _ N)
   simp only[L5]at hst;have ajf:(Builtin.append_ #[t,t] ty #[.slice (some ⟨b,off,none⟩) xs.length cap,.slice xa ys.length ak7]).run P w=
    .ok (.slice (some ⟨b,off,none⟩) (xs.length+ys.length) cap) (w.setRow b (c.toList.take (off+xs.length*i.size)++vals++c.toList.drop (off+xs.length*i.size+vals.length)).toArray):=by
    have hf:=ajd w rfl;simp[Builtin.append_,FG h.aM,sizeOf,typeInfo,hi,Builtin.lenOf,Q,hf,JE,hst]
   have apn:g.fz b=c.toList.take (off+xs.length*i.size):=by
    by_cases y:g.fz b=[]
    .rw[y]at k2 |-;simp at k2;simp[<-k2]
    .obtain⟨c',e',fr',o,X⟩:=r.fz b y;rw[k3]at o;simp at o;obtain⟨rfl,_,_⟩:=o;rw[RS X,k2]
   let g':AV:=(g.cO b (g.fz b++vals)).tail j ⟨some ⟨b,off,none⟩,xs.length+ys.length,cap⟩
   have A:AV.Le g g':=by
    refine(K1 (MK _ _)).trans (NZ ?_);right
    show(g.tl j).n<xs.length+ys.length
    omega
   have aiR:∀p,dq g j p=dq g j p:=λ_=>rfl
   have hbj:dq g j (.tail i.size xs.length)=some b:=by simp only[dq];rw[BX B9,k1];rfl
   have aki:=r.el j _ b hj hbj;refine⟨_,_,g',ajf,A,?_,?_⟩
   .have aly:(w.setRow b (c.toList.take (off+xs.length*i.size)++vals++c.toList.drop (off+xs.length*i.size+vals.length)).toArray).heap[b]?=some (.cells (c.toList.take (off+xs.length*i.size)++vals++c.toList.drop (off+xs.length*i.size+vals.length)).toArray elem (0,0)):=MN w b c _ elem _ k3;have ajX:∀k,k≠b->(w.setRow b (c.toList.take (off+xs.length*i.size)++vals++c.toList.drop (off+xs.length*i.size+vals.length)).toArray).heap[k]?=w.heap[k]?:=λk f=>MO w b k _ f
    generalize hW:w.setRow b (c.toList.take (off+xs.length*i.size)++vals++c.toList.drop (off+xs.length*i.size+vals.length)).toArray=W at*;have hsz:W.heap.size=w.heap.size:=by rw[<-hW];simp[World.setRow]
    have hos:W.os=w.os:=by rw[<-hW];rfl
    have anN:W.tape=w.tape:=by rw[<-hW];rfl
    have amL:W.output=w.output:=by rw[<-hW];rfl
    have ajY:∀k,k≠b->g'.fz k=g.fz k:=λk f=>by simp[g',AV.tail,AV.cO,f]
    have C:g'.fz b=g.fz b++vals:=by simp[g',AV.tail,AV.cO]
    have alz:∀k,k≠j->g'.tl k=g.tl k:=λk f=>by simp[g',AV.tail,AV.cO,f]
    have m:g'.tl j=⟨some ⟨b,off,none⟩,xs.length+ys.length,cap⟩:=by simp[g',AV.tail]
    have L:∀k p d,cW hp j (.tail i.size (xs.length+ys.length)) k=some p->dq g' k p=some d->∃p',hp k=some p'/\dq g k p'=some d:=by
     intro k p d f hd;by_cases y:k=j
     .subst y;rw[bp]at f
      .simp at f;subst f;refine⟨_,hj,?_⟩;simp only[dq,m]at hd;split at hd
       .simp at hd;subst hd;exact hbj
       .simp at hd
     .rw[aZ _ _ y]at f;refine⟨p,f,?_⟩;rw[<-hd];cases p<;>simp[dq,alz k y]<;>rfl
    refine⟨λk=>?_,?_,by rw[hsz];exact r.size,?_,?_,?_,?_⟩
    .show g.dC k↔_
     by_cases y:k=j
     .subst y;rw[bp];simp[hjn]
     .rw[aZ _ _ y];exact r.dC k
    .exact⟨hos.trans r.jI.os,anN.trans r.jI.tape,amL.trans r.jI.output,by rw[hsz];exact r.jI.size,λk f=>by
      rw[ajX k (λe=>by subst e;have:=aki.1;exact absurd f (Nat.not_lt.2 this))];exact r.jI.block k f⟩
    .intro k f;by_cases e:k=b
     .subst e;refine⟨_,_,_,aly,?_⟩;rw[C,apn];simp only[MI];exact List.prefix_append_right_inj _ |>.2 (MK _ _)
     .rw[ajY k e]at f |-;obtain⟨c',e',fr',o,X⟩:=r.fz k f;exact⟨c',e',fr',by rw[ajX k e];exact o,X⟩
    .intro k p f;by_cases y:k=j
     .subst y;rw[bp]at f
      .simp at f;subst f;refine⟨by rw[m],by rw[m];exact Q,λ_=>⟨b,off,by rw[m],?_,_,_,aly,?_⟩⟩
       .rw[C];rw[G7,k2,hvl,JC];omega
       .rw[m];rw[<-hc]at k4;have:(xs.length+ys.length)*i.size<=cap*i.size:=JW _ Q;rw[JC]at this;simp only[List.size_toArray,G7,JB,KP,LJ];omega
     .rw[aZ _ _ y]at f;refine(r.fR k p f).lU A (r.dl f) (alz k y) λd hd=>?_
      have hdb:d≠b:=by
       intro e;subst e;exact y (r.jH k j p _ d f hj hd hbj)
      exact⟨ajX d hdb,ajY d hdb⟩
    .intro k p d f hd;obtain⟨p',o,X⟩:=L k p d f hd;rw[hsz];exact r.el k p' d o X
    .intro k l p q d f hl hdk hdl;obtain⟨p',o,X⟩:=L k p d f hdk;obtain⟨q',h3,h4⟩:=L l q d hl hdl;exact r.jH k l p' q' d o h3 X h4
   .simp only[ac];refine⟨some ⟨b,off,none⟩,cap,by simp,by simp only[G7];exact⟨Q,hm⟩,by simp,λy=>?_,by simp,?_⟩
    .refine⟨b,off,K++vals,rfl,VE.append _ _ (VE.mono A _ _ _ ajs) _ _ (VE.mono A _ _ _ N),?_⟩;have C:g'.fz b=g.fz b++vals:=by simp[g',AV.tail,AV.cO]
     rw[C];by_cases hxe:xs=[]
     .subst hxe;simp only[VE]at ajs;subst ajs;simp only[B1,Nat.zero_mul,L5]at k2;rw[MM B9,Lo B9];exact K4
     .obtain⟨b',ar4,alA,hbb,hve,D⟩:=akh hxe;simp at hbb;obtain⟨rfl,rfl⟩:=hbb;have e1:alA=(g.fz b).drop off:=by
       rw[RS D,VE.length _ _ hve];rw[L6];simp;omega
      have e2:K=alA:=by
       have hf0:=ajA w rfl;have:=MJ (P:=P) w i.size xs.length ⟨b,off,none⟩ xs.length cap alA (VE.length _ _ hve) (λq u hu=>by
        obtain⟨c',e',fr',o,X⟩:=r.fz b (by intro e;rw[e]at D;simp at D;subst D;simp at hu);have:=iw (D.trans (eF X off)) hu;rw[JE];simp[World.cell?,o];simpa using this)
       rw[this]at hf0;simp at hf0;exact hf0.symm
      rw[e2,e1];rw[MM B9];exact K4
    .refine⟨?_,?_,λ_=>?_⟩
     .show g.dC j;exact hjn
     .simp[g',AV.tail]
     .simp[g',AV.tail]
 ·
  have aky:cap<xs.length+ys.length:=by omega
  have amM:=growslice_fits aky hb;have alB:¬(9223372036854775807<((xs.length:Int)+(ys.length:Int))):=by omega
  have alC:¬(281474976710656<Builtin.nextslicecap (xs.length+ys.length) cap*i.bytes):=by omega
  let nc:=grownCap w (xs.length+ys.length) cap e
  let np:Array Value:=K.toArray++vals.toArray++Builtin.zeroCells z.cells (nc-(xs.length+ys.length))
  have ajf:(Builtin.append_ #[t,t] ty #[.slice a xs.length cap,.slice xa ys.length ak7]).run P w=
   .ok (.slice (some ⟨w.heap.size,0,none⟩) (xs.length+ys.length) nc) (w.drew.alloc (.cells np e)):=by
   have hf:=ajd w.drew rfl;have hfo:=ajA w.drew rfl;simp[Builtin.append_,FG h.aM,sizeOf,typeInfo,zeroValue,hi,hz,Builtin.lenOf,Q,alB,alC,Question.forced,hf,hfo,newRow,grownCap,nc,np]
  have hnc:xs.length+ys.length<=nc:=grownCap_ge w _ _ _;have hrow:np.toList=(K++vals)++(Builtin.zeroCells z.cells (nc-(xs.length+ys.length))).toList:=by simp[np]
  have amO:np.size=nc*i.size:=by
   have o:=JV List.length hrow;rw[LJ]at o;rw[o];simp only[G7,LJ,size_zeroCells,hzs,hol,hvl,<-JC];congr 1;omega
  have r1:=(r.drew (w.drawn+1)).qE np e;have hz0:g.fz w.heap.size=[]:=r.jJ
  let g':AV:=(g.cO w.heap.size (K++vals)).tail j ⟨some ⟨w.heap.size,0,none⟩,xs.length+ys.length,nc⟩
  have amw:0<ys.length:=by omega
  have A:AV.Le g g':=by
   refine(K1 (by rw[hz0];exact LV)).trans (NZ (.inr ?_))
   show(g.tl j).n<xs.length+ys.length
   omega
  have ajY:∀k,k≠w.heap.size->g'.fz k=g.fz k:=λk f=>by simp[g',AV.tail,AV.cO,f]
  have C:g'.fz w.heap.size=K++vals:=by simp[g',AV.tail,AV.cO]
  have alz:∀k,k≠j->g'.tl k=g.tl k:=λk f=>by simp[g',AV.tail,AV.cO,f]
  have m:g'.tl j=⟨some ⟨w.heap.size,0,none⟩,xs.length+ys.length,nc⟩:=by simp[g',AV.tail]
  have aiR:∀k p,cW hp j (.tail i.size (xs.length+ys.length)) k=some p->∀d,dq g' k p=some d->(k=j/\d=w.heap.size)\/(hp k=some p/\k≠j/\dq g k p=some d):=by
   intro k p f d hd;by_cases y:k=j
   .subst y;rw[bp]at f
    .simp at f;subst f;simp only[dq,m]at hd;split at hd
     .simp at hd;exact .inl ⟨rfl,hd.symm⟩
     .simp at hd
   .rw[aZ _ _ y]at f;refine .inr ⟨f,y,?_⟩;rw[<-hd];cases p<;>simp[dq,alz k y]<;>rfl
  refine⟨_,_,g',ajf,A,⟨λk=>?_,r1.jI,r1.size,?_,?_,?_,?_⟩,?_⟩
  .show g.dC k↔_
   by_cases y:k=j
   .subst y;rw[bp];simp[hjn]
   .rw[aZ _ _ y];exact r.dC k
  .intro k f;by_cases e1:k=w.heap.size
   .subst e1;refine⟨np,e,(0,0),hX w.drew _,?_⟩;rw[C,hrow];exact MK _ _
   .rw[ajY k e1]at f |-;obtain⟨c',e',fr',o,X⟩:=r.fz k f;refine⟨c',e',fr',?_,X⟩;rw[Ln w.drew _ _ (r.gm f)];exact o
  .intro k p f;by_cases y:k=j
   .subst y;rw[bp]at f
    .simp at f;subst f;refine⟨by rw[m],by rw[m];exact hnc,λ_=>⟨w.heap.size,0,by rw[m],?_,np,e,hX w.drew _,?_⟩⟩
     .rw[C,G7,hol,hvl,JC];omega
     .rw[m];simp only[amO];omega
   .rw[aZ _ _ y]at f;refine(r.fR k p f).lU A (r.dl f) (alz k y) λd hd=>?_
    have hlt:=(r.el k p d f hd).2;exact⟨Ln w.drew _ _ hlt,ajY d B9⟩
  .intro k p d f hd;have hsz:(w.drew.alloc (.cells np e)).heap.size=w.heap.size+1:=by simp
   rw[hsz];rcases aiR k p f d hd with⟨_,rfl⟩|⟨o,_,h3⟩
   .exact⟨r.size,by omega⟩
   .have:=r.el k p d o h3;exact⟨this.1,by omega⟩
  .intro k l p q d f hl hdk hdl;rcases aiR k p f d hdk with⟨e1,e2⟩|⟨o,X,h3⟩<;>rcases aiR l q hl d hdl with⟨e3,e4⟩|⟨h4,h5,h6⟩
   .rw[e1,e3]
   .have:=(r.el l q d h4 h6).2;omega
   .have:=(r.el k p d o h3).2;omega
   .exact r.jH k l p q d o h4 h3 h6
  .simp only[ac];refine⟨some ⟨w.heap.size,0,none⟩,nc,by simp,by simp only[G7];exact⟨hnc,hm⟩,by simp,λy=>?_,by simp,?_⟩
   .refine⟨_,0,K++vals,rfl,VE.append _ _ (VE.mono A _ _ _ ajs) _ _ (VE.mono A _ _ _ N),?_⟩;rw[C];simp
   .refine⟨?_,?_,λ_=>?_⟩
    .show g.dC j;exact hjn
    .simp[m]
    .simp[m]
def AV.dS(g:AV)(j:Nm)(t:TI):AV:={g with dC:=λi=>i=j\/g.dC i,tl:=λi=>if i=j then t else g.tl i}
def agf(g:AV){j:Nm}(t:TI)(x:¬g.dC j):AV.Le g (g.dS j t)where
 bV:=rfl
 w0:=rfl
 fz _:=K4
 dC _ h:=.inr h
 cC _ _:=rfl
 tl i hi:=by left;simp only[AV.dS];rw[BY (λe=>x (by rw[<-e];exact hi))]
def dy.Hl{g w hp}(r:dy g w hp){j}(K:hp j=none){sz}t(L:t.n<=t.cap)
 (N:t.n<t.cap->∃b off,t.a=some ⟨b,off,none⟩/\(g.fz b).length=off+t.n*sz/\∃c elem,w.heap[b]?=some (.cells c elem (0,0))/\off+t.cap*sz<=c.size)
 (hs:∀b,t.n<t.cap->t.a.map (·.block)=some b->(g.bV<=b/\b<w.heap.size)/\∀k p,hp k=some p->dq g k p≠some b):
 AV.Le g (g.dS j t)/\dy (g.dS j t) w (cW hp j (.tail sz t.n)):=by
 have A:=agf g t (r.cT K);have u:(g.dS j t).tl j=t:=by simp[AV.dS]
 have y:∀k p,cW hp j (.tail sz t.n) k=some p->(k≠j/\hp k=some p)\/(k=j/\p= .tail sz t.n):=by
  intro k p y;by_cases e:k=j
  .subst e;rw[bp]at y;simp at y;exact .inr ⟨rfl,y.symm⟩
  .rw[aZ _ _ e]at y;exact .inl ⟨e,y⟩
 have C:∀k,k≠j->(g.dS j t).tl k=g.tl k:=by
  intro k y;simp only[AV.dS];rw[BY y]
 have v:∀k p,hp k=some p->k≠j->dq _ k p=dq g k p:=λk p y z=>gC p A (r.dl y) (C k z)
 have f:∀b,dq (g.dS j t) j (.tail sz t.n)=some b->t.n<t.cap/\t.a.map (·.block)=some b:=λb d=>by
  simp only[dq,u]at d;split at d
  .exact⟨by assumption,d⟩
  .simp at d
 refine⟨A,λk=>?_,r.jI,r.size,r.fz,λk p m=>?_,λk p b m d=>?_,λk l p q b m D d i=>?_⟩
 .by_cases e:k=j
  .subst e;simp[AV.dS,cW]
  .simp[AV.dS,aZ _ _ e,e,false_or];exact r.dC k
 .rcases y k p m with⟨z,x⟩|⟨rfl,rfl⟩
  .exact(r.fR k p x).lU A (r.dl x) (C k z) λb _=>⟨rfl,rfl⟩
  .exact⟨by rw[u],by rw[u];exact L,by rw[u];exact N⟩
 .rcases y k p m with⟨z,x⟩|⟨rfl,rfl⟩
  .rw[v k p x z]at d;exact r.el k p b x d
  .exact(hs b (f b d).1 (f b d).2).1
 .rcases y k p m with⟨z,x⟩|⟨rfl,rfl⟩
  .rw[v k p x z]at d;rcases y l q D with⟨o,s⟩|⟨rfl,rfl⟩
   .rw[v l q s o]at i;exact r.jH k l p q b x s d i
   .exact absurd d ((hs b (f b i).1 (f b i).2).2 k p x)
  .rcases y l q D with⟨o,s⟩|⟨rfl,rfl⟩
   .rw[v l q s o]at i;exact absurd i ((hs b (f b d).1 (f b d).2).2 l q s)
   .rfl
def dy.jW{g w hp}(r:dy g w hp){j}(b:hp j=none){sz xs v}(h:ac g (.sl sz .fu xs) v):
 ∃g',AV.Le g g'/\dy g' w (cW hp j (.tail sz xs.length))/\ac g' (.sl sz (.tail j) xs) v:=by
 have c:=h;obtain⟨a,cap,rfl,l,m,n,o,d⟩:=h;have x:=d;subst x;obtain⟨y,f⟩:=r.Hl b ⟨a,xs.length,xs.length⟩ (Hq _) (λh=>absurd h (MH _)) (λ_ h=>absurd h (MH _));refine⟨_,y,f,?_⟩;have:=ac.mono y _ _ c;obtain⟨p,z,e,k1,k0,i,k,_⟩:=this;cases e;exact⟨a,xs.length,rfl,k1,k0,i,k,by simp[AV.dS],by simp[AV.dS],λ_=>by simp[AV.dS]⟩
def dy.yT{g w hp}(r:dy g w hp){j sz n m}(b:hp j=some (.tail sz n)):dy g w (cW hp j (.bD m [])):=by
 have key:∀i p,cW hp j (.bD m []) i=some p->(i=j/\p= .bD m [])\/(i≠j/\hp i=some p):=by
  intro i p h;by_cases e:i=j
  .subst e;rw[bp]at h;simp at h;exact .inl ⟨rfl,h.symm⟩
  .rw[aZ _ _ e]at h;exact .inr ⟨e,h⟩
 refine⟨λi=>?_,r.jI,r.size,r.fz,λi p x=>?_,λi p d x hd=>?_,λi k p q d x a y z=>?_⟩
 .by_cases e:i=j
  .subst e;rw[bp,r.dC i,b];simp
  .rw[aZ _ _ e];exact r.dC i
 .rcases key i p x with⟨rfl,rfl⟩|⟨_,x⟩
  .exact λh=>absurd rfl h
  .exact r.fR i p x
 .rcases key i p x with⟨rfl,rfl⟩|⟨_,x⟩
  .simp[dq]at hd
  .exact r.el i p d x hd
 .rcases key i p x with⟨rfl,rfl⟩|⟨_,x⟩
  .simp[dq]at y
  .rcases key k q a with⟨rfl,rfl⟩|⟨_,a⟩
   .simp[dq]at z
   .exact r.jH i k p q d x a y z
def dy.JQ{g w hp}(r:dy g w hp){i j}(s:hp i=none){sz n L cap}(z:hp j=some (.tail sz n)){xs}(u:xs.length=n){a}(hL:L<=n)(h:ac g (.sl sz (.tail j) xs) (.slice a n cap))(D:ac g (.sl sz .no (xs.drop L)) (.slice (if cap=L then a else a.map (·.add (L*sz))) (n-L) (cap-L))):
 ∃g',AV.Le g g'/\dy g' w (cW (cW hp j (.bD 0 [])) i (.tail sz (n-L)))/\ac g' (.sl sz (.tail i) (xs.drop L)) (.slice (if cap=L then a else a.map (·.add (L*sz))) (n-L) (cap-L)):=by
 obtain⟨o1,o2,o3⟩:=r.fR j _ z;obtain⟨a0,K,e,⟨d,_⟩,_,_,_,_,_,N⟩:=h;simp at e;obtain⟨rfl,e1,rfl⟩:=e;obtain⟨t1,t2⟩:=N (by rw[o1,u]);rw[<-t1,<-t2]at o3;have v:cW hp j (.bD 0 []) i=none:=by rw[aZ _ _ (λe=>by subst e;rw[z]at s;simp at s)];exact s
 have x:n-L<cap-L->n<cap:=by omega
 obtain⟨t,y⟩:∃t:TI,t=⟨if cap=L then a else a.map (·.add (L*sz)),n-L,cap-L⟩:=⟨_,rfl⟩;have P:t.n<t.cap->∃b off,t.a=some ⟨b,off,none⟩/\(g.fz b).length=off+t.n*sz/\∃c elem,w.heap[b]?=some (.cells c elem (0,0))/\off+t.cap*sz<=c.size:=λh=>by
  subst y;obtain⟨b,off,e1,e2,c,elem,e3,e4⟩:=o3 (x h);have k1:off+L*sz+(n-L)*sz=off+n*sz:=by rw[Li,<-JC];congr 2;omega
  have A:off+L*sz+(cap-L)*sz=off+cap*sz:=by rw[Li,<-JC];congr 2;omega
  exact⟨b,off+L*sz,by simp only[e1];rw[BY (by have:=x h;omega)];simp[JE],by rw[k1];exact e2,c,elem,e3,by rw[A];exact e4⟩
 have hs:∀b,t.n<t.cap->t.a.map (·.block)=some b->(g.bV<=b/\b<w.heap.size)/\∀k p,cW hp j (.bD 0 []) k=some p->dq g k p≠some b:=λb h C=>by
  subst y;obtain⟨b',off,e1,_⟩:=o3 (x h);have f:dq g j (.tail sz n)=some b:=by
   simp only[e1]at C;rw[BY (by have:=x h;omega)]at C;simp only[dq];rw[BX (by rw[o1,<-t2];exact x h),<-t1,e1];simpa[JE]using C
  refine⟨r.el j _ b z f,λk p l m=>?_⟩;by_cases e:k=j
  .subst e;rw[bp]at l;cases l;simp[dq]at m
  .rw[aZ _ _ e]at l;exact e (r.jH k j p _ b l z m f)
 obtain⟨o,Q⟩:=(r.yT z).Hl v t (by subst y;dsimp only;omega) P hs;refine⟨_,o,by subst y;exact Q,?_⟩;have:=ac.mono o _ _ D;obtain⟨X,q,e,k1,k0,A,k3,_⟩:=this;subst y;simp at e;exact⟨X,q,by simp[e.1,e.2.2,u],k1,k0,A,k3,by simp[AV.dS],by simp[AV.dS];omega,λ_=>by simp[AV.dS,e.1,e.2.2]⟩
def bB.aM(S:Nm->Prop):bB->Prop
 |.cells cs=>hH S cs
 |.map y=>∀x∈y,x.1.aM S/\x.2.aM S
 |.sG _ _=>True
 |.yB i=>S i
 |.bD _ xs=>hH S xs
 |.tail _ _=>True
def cu.cut{g m}:∀xs a,cu g xs a->(∀x∈xs,x.1.aM m/\x.2.aM m)->cu (g.cut m) xs a
 | [],a,e,_=>e
 |x::xs,a,e,u=>by
  obtain⟨y,rest,rfl,b,c,d⟩:=e;have:=u x NP;exact⟨y,rest,rfl,ac.cut _ _ b this.1,ac.cut _ _ c this.2,cu.cut xs rest d (λz f=>u z (by simp[f]))⟩
def cu.aM{g}:∀xs a,cu g xs a->∀x∈xs,x.1.aM g.dC/\x.2.aM g.dC
 | [],a,e=>by simp
 |x::xs,a,e=>by
  obtain⟨y,rest,rfl,b,c,d⟩:=e;intro z hz;rcases BV.1 hz with rfl|hz
  .exact⟨ac.aM _ _ b,ac.aM _ _ c⟩
  .exact cu.aM xs rest d z hz
def ey.aM{g w j o}(h:ey g w j o):o.aM g.dC:=by
 cases o with
 |cells cs=>obtain⟨vs,_,_,y,_⟩:=h;exact VL.aM _ _ y
 |map b=>obtain⟨z,_,a,_⟩:=h;exact cu.aM _ _ a
 |tail=>trivial
 |sG=>trivial
 |yB i=>exact h.1
 |bD sz xs=>
  cases xs with
  |nil=>simp[bB.aM,hH]
  |cons x xs=>obtain⟨vs,_,_,y,_⟩:=h NP;exact VE.aM _ _ _ y
def AD(x hp:Hp):Prop:=∀j o,x j=some o->hp j=some o
def dy.cut{g w hp hp'}(r:dy g w hp)(hs:AD hp' hp)(hu:∀j o,hp' j=some o->o.aM (λi=>(hp' i).isSome=true)):
 dy (g.cut (λi=>(hp' i).isSome=true)) w hp':=by
 have z:∀k p,dq (g.cut (λi=>(hp' i).isSome=true)) k p=dq g k p:=λk p=>by cases p<;>rfl
 refine⟨λj=>Iff.rfl,r.jI,r.size,r.fz,?_,?_,?_⟩
 .intro k p h;have y:=r.fR k p (hs k p h);have x:=hu k p h;cases p with
  |cells cs=>
   obtain⟨vs,rest,elem,e1,e2,e3⟩:=y;exact⟨vs,rest,elem,VL.cut _ _ e1 x,e2,e3⟩
  |map t=>
   obtain⟨d,e,e1,e2,e3⟩:=y;exact⟨d,e,cu.cut _ _ e1 x,e2,e3⟩
  |tail sz n=>exact y
  |sG s pos=>exact y
  |yB i=>exact⟨x,y.2⟩
  |bD sz xs=>
   intro f;obtain⟨vs,rest,elem,e1,e2,e3⟩:=y f;exact⟨vs,rest,elem,VE.cut _ _ _ e1 x,e2,e3⟩
 .exact λk p b h a=>r.el k p b (hs k p h) a
 .exact λk l p q b h m a c=>r.jH k l p q b (hs k p h) (hs l q m) a c
def AV.Le.cut{g h:AV}(l:AV.Le g h){S:Nm->Prop}(x:∀j,g.dC j->S j):AV.Le g (h.cut S)where
 bV:=l.bV
 w0:=l.w0
 fz:=l.fz
 dC:=x
 cC:=l.cC
 tl:=l.tl
def G.Rj:G->T Value
 |.bool b=>some (.bool b)
 |.int k n=>some (.int k n)
 |.str s=>some (.string s)
 |_=>none
def yU:U G->T (U Value)
 | []=>some []
 |x::xs=>x.Rj.bind λv=>(yU xs).map (v:: ·)
mutual
inductive Sub:G->G->Prop
 |refl (x:G):Sub x x
 |any (x:G):Sub x .any
 |sl {sz:Nat} {tok ajZ:jV} {xs ys:List G}:bF xs ys->(tok=ajZ\/ajZ= .no)->Sub (.sl sz tok xs) (.sl sz ajZ ys)
 |nil {sz sz':Nat} {tok ajZ:jV}:(tok=ajZ\/ajZ= .no)->Sub (.sl sz tok []) (.sl sz' ajZ [])
 |agg {cs ds:List G}:bF cs ds->Sub (.agg cs) (.agg ds)
 |bZ {cs ds:List G}:bF cs ds->Sub (.bZ cs) (.bZ ds)
 |aS {cs ds:List G} {off:Nat}:bF cs ds->Sub (.aS cs off) (.aS ds off)
 |mR:Sub .eM (.mR [])
 |AE {c:G} {cs:List G} {l:List (List Value)} {vs:List Value}:Sub c (.mR l)->yU cs=some vs->Sub (.aS (c::cs) 0) (.mR (vs::l))
inductive bF:List G->List G->Prop
 |refl (xs:List G):bF xs xs
 |cons {x y:G} {xs ys:List G}:Sub x y->bF xs ys->bF (x::xs) (y::ys)
end
def dV.yW{g n a cap tok ajZ}(h:dV g n a cap tok)(e:tok=ajZ\/ajZ= .no):dV g n a cap ajZ:=by
 rcases e with rfl|rfl
 .exact h
 .trivial
def bF.drop:∀{xs ys}k,bF xs ys->bF (xs.drop k) (ys.drop k)
 |_,_,0,h=>h
 |_,_,_+1,.refl _=>.refl _
 |_,_,k+1,.cons _ hs=>bF.drop k hs
theorem bF.length{xs ys}(h:bF xs ys):xs.length=ys.length:=by
 induction xs generalizing ys with
 |nil=>cases h;rfl
 |cons x xs y=>cases h with
  |refl=>rfl
  |cons _ h=>simp[y h]
def uW{g}:∀cs{vs y},yU cs=some vs->VL g cs y->y=vs
 | [],_,_,h,e=>by simp[VL]at e;simp[yU]at h;simp[e,h]
 |x::xs,_,_,h,e=>by
  obtain⟨v,rest,rfl,z,a⟩:=e;simp[yU,Lg]at h;obtain⟨u,hu,us,b,rfl⟩:=h;rw[uW xs b a];cases x<;>simp[G.Rj]at hu<;>simp[ac]at z<;>simp[z,hu]
mutual
theorem ac.sub {g:AV}:{x y:G}->Sub x y->(v:Value)->ac g x v->ac g y v
 |_,_,.refl _,v,h=>h
 |_,_,.any _,v,h=>by simp only[ac]
 |_,_,.sl s t,v,h=>by
  simp only[ac]at h |-;obtain⟨a,cap,rfl,h1,h0,h2,h3,h4⟩:=h;have hl:=s.length;refine⟨a,cap,by rw[hl],by rw[<-hl];exact h1,h0,λhne=>?_,h3,by rw[<-hl];exact h4.yW t⟩;obtain⟨b,off,vals,rfl,hv,hp⟩:=h2 (by intro e;rw[e]at hl;simp at hl;exact hne (KE hl.symm));exact⟨b,off,vals,rfl,VE.sub s _ _ hv,hp⟩
 |_,_,.nil t,v,h=>by
  simp only[ac]at h |-;obtain⟨a,cap,rfl,h1,h0,h2,h3,h4⟩:=h;exact⟨a,cap,rfl,h1,h0,λhne=>absurd rfl hne,h3,h4.yW t⟩
 |_,_,.agg s,v,h=>by
  simp only[ac]at h |-;obtain⟨a,rfl,h1⟩:=h;exact⟨a,rfl,VL.sub s _ h1⟩
 |_,_,.bZ s,v,h=>by
  simp only[ac]at h |-;obtain⟨a,rfl,h1⟩:=h;exact⟨a,rfl,VL.sub s _ h1⟩
 |_,_,.aS s,v,h=>by
  simp only[ac]at h |-;obtain⟨b,o,vals,rfl,hv,hp⟩:=h;exact⟨b,o,vals,rfl,VL.sub s _ hv,hp⟩
 |_,_,.mR,v,h=>by simp only[ac,nZ]at h |-;exact h
 |_,_,.AE (cs:=cs) s e,v,h=>by
  simp only[ac,VL]at h;obtain⟨b,o,vals,rfl,⟨u,rest,rfl,h1,h2⟩,hp⟩:=h;have h3:=ac.sub s u h1;simp only[ac]at h3 |-;rw[uW cs e h2]at hp;exact⟨b,o,u,rfl,hp,h3⟩
theorem VL.sub {g:AV}:{xs ys:U G}->bF xs ys->(vs:U Value)->VL g xs vs->VL g ys vs
 |_,_,.refl _,vs,h=>h
 |_,_,.cons s t,vs,h=>by
  simp only[VL]at h |-;obtain⟨v,rest,rfl,h1,h2⟩:=h;exact⟨v,rest,rfl,ac.sub s v h1,VL.sub t rest h2⟩
theorem VE.sub {g:AV}:{xs ys:U G}->bF xs ys->(sz:Nat)->(vs:U Value)->VE g sz xs vs->VE g sz ys vs
 |_,_,.refl _,sz,vs,h=>h
 |_,_,.cons s t,sz,vs,h=>by
  simp only[VE]at h |-;obtain⟨v,rest,rfl,h0,h1,h2⟩:=h;exact⟨v,rest,rfl,h0,ac.sub s v h1,VE.sub t sz rest h2⟩
end
def bG(a b:Hp):Hp:=λj=>match a j with
 |some o=>some o
 |none=>b j
def gp(a b:Hp):Prop:=∀j,a j=none\/b j=none
theorem aK{a b j o}(h:a j=some o):bG a b j=some o:=by simp[bG,h]
theorem bM{a b j}(h:a j=none):bG a b j=b j:=by simp[bG,h]
def bz{a b j o}:cW (bG a b) j o=bG (cW a j o) b:=by
 funext i;by_cases e:i=j
 .subst e;rw[bp,aK (bp _ _ _)]
 grind [aZ,bG]
theorem gp.cW{a b:Hp}(h:gp a b){j:Nm}{o:bB}(x:b j=none):gp (cW a j o) b:=λi=>by
 by_cases e:i=j
 .subst e;exact .inr x
 .rw[aZ _ _ e];exact h i
def gp.fW{a b}(h:gp a b){j o p}(x:a j=some p):gp (Ab.cW a j o) b:=h.cW (by
 rcases h j with e|e
 .rw[x]at e;simp at e
 .exact e)
def gp.none{a b}(h:gp a b){j p}(x:a j=some p):b j= .none:=by
 rcases h j with e|e
 .rw[x]at e;simp at e
 .exact e
def cm{a b j}(h:a j=none)(k:b j=none):bG a b j=none:=by simp[bG,h,k]
def lV{a b c}:bG (bG a b) c=bG a (bG b c):=by
 grind [bG]
theorem AD.bG{a b:Hp}(c:Hp)(h:AD a b)(hd:gp b c):AD (bG a c) (bG b c):=λj o x=>by
 cases y:a j with
 |some p=>rw[aK y]at x;rw[<-x];exact aK (h j p y)
 |none=>
  rw[bM y]at x;cases z:b j with
  |some q=>rcases hd j with e|e<;>simp_all
  |none=>rw[bM z];exact x
end
section
variable {P:Program}
abbrev Tm:=U (Nat×G)
abbrev GE:=Nat->T (U G)
def oO(g:AV)(ge:GE):Prop:=∀k cs,ge k=some cs->hH (λ_=>False) cs/\∃vals,VL g cs vals/\vals<+:g.fz k
def oO.sH{S g h ge}(l:AV.nk S g h)(e:oO g ge):oO h ge:=λk cs x=>by
 obtain⟨u,vals,y,z⟩:=e k cs x;exact⟨u,vals,VL.oU ⟨l.bV,l.w0,l.fz,λ_ h=>h.elim,λ_ h=>h.elim,λ_ h=>h.elim⟩ y u,z.trans (l.fz k)⟩
theorem oO.mono{g h ge}(l:AV.Le g h)(e:oO g ge):oO h ge:=e.sH (l.some λ_=>False)
def ol(d:Nat):Nm->Prop:=λj=>j.1<d
def get:Tm->Nat->G
 | [],_=>.any
 |(i,x)::r,t=>cond (Nat.beq i t) x (get r t)
theorem ff i x r t:get ((i,x)::r) t=if i=t then x else get r t:=by
 simp only[get];simp_all
def VT(g:AV)(N:Nat)(tm:Tm)(tmps:Array Value):Prop:=tmps.size=N/\∀t,ac g (get tm t) (tmps.getD t undef)
theorem VT.mono{g h N tm tmps}(l:AV.Le g h)(e:VT g N tm tmps):VT h N tm tmps:=⟨e.1,λt=>ac.mono l _ _ (e.2 t)⟩
abbrev fX:=Exit->Tm->Hp->Prop
def oC(hp:Hp)(F:Nm->Prop):Prop:=∀j,(hp j).isSome=true->F j
structure AF(d:Nat)(fr:Hp):Prop where
 ay:oC fr (ol d)
 jt:∀j o,fr j=some o->o.aM (ol d)
structure gh(g:AV)(w:World)(hp fr:Hp):Prop where
 rel:dy g w (bG hp fr)
 cM:gp hp fr
def ut(d:Nat)(g:AV)(fr:Hp)(N:Nat)(Q:fX):Exit->Act->World->Prop:=λe a w=>
 ∃g' tm hp,AV.nk (ol d) g g'/\gh g' w hp fr/\VT g' N tm a.tmps/\a.defers=[]/\Q e tm hp
def br(P:Program)(ge:GE)(d N:Nat)(c:Code)(Q:fX)(tm:Tm)(hp:Hp):Prop:=∀g fr w a,AF d fr->gh g w hp fr->oO g ge->VT g N tm a.tmps->a.defers=[]->c.wp P (ut d g fr N Q) a w
def ut.le{d g h fr N Q}(l:AV.nk (ol d) g h){e a w}(x:ut d h fr N Q e a w):ut d g fr N Q e a w:=by
 obtain⟨g',tm,hp,y,z⟩:=x;exact⟨g',tm,hp,l.trans y,z⟩
section anR
variable {ge:GE}{d N:Nat}{Q:fX}{tm:Tm}{hp:Hp}
theorem br.mono{c x}(h:br P ge d N c Q tm hp)(hq:∀e tm hp,Q e tm hp->x e tm hp):br P ge d N c x tm hp:=λg fr w a f r k v y=>LS (h g fr w a f r k v y) λ_ _ _⟨g',tm,hp,z,b,i,j,l⟩=>⟨g',tm,hp,z,b,i,j,hq _ _ _ l⟩
def br.skip(h:Q .normal tm hp):br P ge d N .skip Q tm hp:=λg _ _ _ _ r _ v x=>wp_skip ⟨g,tm,hp,AV.nk.refl _ g,r,v,x,h⟩
def br.label{l}(h:Q .normal tm hp):br P ge d N (.label l) Q tm hp:=λg _ _ _ _ r _ v x=>wp_label ⟨g,tm,hp,AV.nk.refl _ g,r,v,x,h⟩
def br.exit{id}(h:Q (.exit id) tm hp):br P ge d N (.exit id) Q tm hp:=λg _ _ _ _ r _ v x=>wp_exit ⟨g,tm,hp,AV.nk.refl _ g,r,v,x,h⟩
def br.ret(h:Q .ret tm hp):br P ge d N .ret Q tm hp:=λg _ _ _ _ r _ v x=>wp_ret ⟨g,tm,hp,AV.nk.refl _ g,r,v,x,h⟩
def ahp(P:Program)(ge:GE)(d N:Nat)(y:Code)(Q:fX):fX:=λe tm hp=>match e with
 |.normal=>br P ge d N y Q tm hp
 |e=>Q e tm hp
def br.seq{x y}(h:br P ge d N x (ahp P ge d N y Q) tm hp):br P ge d N (.seq x y) Q tm hp:=λg fr w a f r k v n=>by
 refine wp_seq (LS (h g fr w a f r k v n) λe o w'⟨g',z,b,c,i,j,l,m⟩=>?_);cases e with
 |normal=>exact LS (m g' fr w' o f i (k.sH c) j l) λ_ _ _ x=>x.le c
 |_=>exact⟨g',z,b,c,i,j,l,m⟩
def ky(id:Nat)(Q:fX):fX:=λe tm hp=>match e with
 |.exit x=>if x=id then Q .normal tm hp else Q (.exit x) tm hp
 |e=>Q e tm hp
def br.block{id c}(h:br P ge d N c (ky id Q) tm hp):br P ge d N (.block id c) Q tm hp:=λg fr w a f r k v m=>by
 refine wp_block (LS (h g fr w a f r k v m) λe o w'⟨g',x,y,b,i,j,l,z⟩=>?_);cases e with
 |exit n=>
  simp[Exit.inBlock];simp[ky]at z;split
  .rename_i e;rw[BX e]at z;exact⟨g',x,y,b,i,j,l,z⟩
  .rename_i e;rw[BY e]at z;exact⟨g',x,y,b,i,j,l,z⟩
 |_=>exact⟨g',x,y,b,i,j,l,z⟩
def uX(I:Nat->Tm->Hp->Prop)(n:Nat)(Q:fX):fX:=λe tm hp=>match e with
 |.normal=>∃m,m<n/\I m tm hp
 |e=>Q e tm hp
def br.loop{c}I n(h0:I n tm hp)
 (round:∀n tm hp,I n tm hp->br P ge d N c (uX I n Q) tm hp):br P ge d N (.loop c) Q tm hp:=by
 intro g fr w a f r k v dd
 let Inv:Nat->Act->World->Prop:=λn a w=>∃g' tm hp,AV.nk (ol d) g g'/\gh g' w hp fr/\VT g' N tm a.tmps/\a.defers=[]/\I n tm hp
 have dec:=λp=>Classical.propDecidable p
 let l:Act->World->Nat:=λa w=>if h:∃n,Inv n a w then Classical.choose (p:=λn=>Inv n a w/\∀m,Inv m a w->n<=m) (by
  have:∀n,Inv n a w->∃n,Inv n a w/\∀m,Inv m a w->n<=m:=by
   intro n
   induction n using Nat.strongRecOn with
   |_ n ih=>
    intro o;by_cases z:∃m,m<n/\Inv m a w
    .obtain⟨m,x,z⟩:=z;exact ih m x z
    .exact⟨n,o,λm q=>P9 λx=>z ⟨m,x,q⟩⟩
  obtain⟨n,o⟩:=h;exact this n o)else 0
 have b:∀a w,(∃n,Inv n a w)->Inv (l a w) a w/\∀m,Inv m a w->l a w<=m:=by
  intro a w h;simp[l,dif_pos h];exact Classical.choose_spec (p:=λn=>Inv n a w/\∀m,Inv m a w->n<=m) _
 refine wp_loop (λa w=>∃n,Inv n a w) l ⟨n,g,tm,hp,AV.nk.refl _ g,r,v,dd,h0⟩ ?_;intro a w hI;obtain⟨⟨g',s,t,u,h2,h3,h4,h5⟩,_⟩:=b a w hI;refine LS (round _ s t h5 g' fr w a f h2 (k.sH u) h3 h4) λe C w'⟨D,i,j,k1,K,L,k4,X⟩=>?_
 cases e with
 |normal=>
  obtain⟨m,z,A⟩:=X;have y:Inv m C w':=⟨D,i,j,u.trans k1,K,L,k4,A⟩;exact⟨⟨m,y⟩,Nat.lt_of_le_of_lt ((b C w' ⟨m,y⟩).2 m y) z⟩
 |_=>exact⟨D,i,j,u.trans k1,K,L,k4,X⟩
def u4{c y z}(h:br P ge d N c Q y z)(e:∀g fr w tmps,AF d fr->gh g w hp fr->VT g N tm tmps->∃g',AV.nk (ol d) g g'/\gh g' w z fr/\VT g' N y tmps):br P ge d N c Q tm hp:=λg fr w a f r k v i=>by
 obtain⟨g',b,j,l⟩:=e g fr w a.tmps f r v;exact LS (h g' fr w a f j (k.sH b) l i) λ_ _ _ x=>x.le b
end anR
def dW(P:Program)(ge:GE)(d:Nat)(f:FuncId)(args:U G)(hp:Hp)(D:G->Hp->Prop):Prop:=
 ∀g fr w vs,oC fr (ol d)->gh g w hp fr->oO g ge->VL g args vs.toList->
  Calls P f vs w λe w'=>∃v g' x y,e= .returned v/\AV.Le g g'/\gh g' w' y fr/\ac g' x v/\D x y
end
section
variable {P:Program}
def put(tm:Tm)(d:T Tmp)(x:G):Tm:=
 match d with
 |none=>tm
 |some d=>(d,x)::tm
def iA:Value->G
 |.bool b=>.bool b
 |.int k n=>.int k n
 |.string s=>.str s
 |.pointer none=>.eM
 |.slice none 0 0=>.sl 0 .fu []
 |.map none=>.dP
 |.nilFunc=>.bX
 |.nilIface=>.nilIface
 |_=>.any
def sK:Value->G
 |.agg cs=>.agg (cs.toList.map iA)
 |.tuple cs=>if cs.size=0 then .bZ []else .any
 |v=>iA v
def bP(ge:GE)(tm:Tm):Operand->G
 |.tmp t=>get tm t
 |.const v=>sK v
 |.global k=>match ge k with
  |some cs=>.aS cs 0
  |none=>.any
 |.func f=>.fn (.func f) [] []
def yX g v:ac g (iA v) v:=by
 unfold iA;split<;>simp only[ac];exact⟨none,0,rfl,by simp,by simp,by simp,by simp,rfl⟩
def jh g:∀vs,VL g (vs.map iA) vs
 | []=>by simp[VL]
 |v::vs=>by simp only[Hx,VL];exact⟨v,vs,rfl,yX g v,jh g vs⟩
def rq g v:ac g (sK v) v:=by
 unfold sK;split
 .simp only[ac];exact⟨_,rfl,jh g _⟩
 .rename_i cs;split
  .rename_i h;simp only[ac];have:cs=#[]:=by simpa using h
   exact⟨cs,rfl,by simp[this,VL]⟩
  .simp only[ac]
 .exact yX g v
def VT.get{g:AV}{N:Nat}{tm:Tm}{tmps:Array Value}(h:VT g N tm tmps)(t:Nat):ac g (get tm t) (tmps.getD t undef):=h.2 t
def VT.bP{g:AV}{N:Nat}{tm:Tm}{a:Act}{ge:GE}(h:VT g N tm a.tmps)(k:oO g ge)(x:Operand):ac g (bP ge tm x) (a.eval x):=by
 cases x with
 |tmp t=>exact h.get t
 |const v=>exact rq g v
 |global n=>
  simp only[Ab.bP];split
  .rename_i cs y;obtain⟨_,vals,z,b⟩:=k n cs y;simp only[ac,Act.eval];exact⟨n,0,vals,rfl,z,by simpa using b⟩
  .simp only[ac]
 |func f=>simp only[Ab.bP,ac,Act.eval];exact⟨#[],#[],rfl,by simp[VL],by simp[VL]⟩
theorem VT.put{g:AV}{N:Nat}{tm:Tm}{a:Act}{d:T Tmp}{x:G}{v:Value}(h:VT g N tm a.tmps)(y:ac g x v)(hd:∀k,d=some k->k<N):
 VT g N (put tm d x) (a.put d v).tmps:=by
 cases d with
 |none=>exact h
 |some d=>
  refine⟨by simpa[Act.put]using h.1,λt=>?_⟩;simp only[Ab.put,ff,Act.put];by_cases e:d=t
  .subst e;rw[BX rfl,JA,NN (by rw[h.1];exact hd d rfl)];exact y
  .rw[BY e,JA,NM e,<-JA];exact h.2 t
def VT.sub{g N tm y tmps}(h:VT g N tm tmps)(hs:∀p∈y,Sub (Ab.get tm p.1) p.2):VT g N y tmps:=by
 refine⟨h.1,?_⟩;have:∀l:Tm,(∀p∈l,Sub (Ab.get tm p.1) p.2)->∀t,ac g (Ab.get l t) (tmps.getD t undef):=by
  intro l
  induction l with
  |nil=>intro _ t;simp only[Ab.get,ac]
  |cons p l a=>
   intro z t;obtain⟨i,x⟩:=p;simp only[ff];split
   .rename_i e;subst e;exact ac.sub (z (i,x) NP) _ (h.2 i)
   .exact a (λq hq=>z q DS) t
 exact this y hs
def AH(g:AV)(ge:GE)(tm:Tm)(o:Oper)(a:Act):Prop:=∀y∈o.op.operands,ac g (bP ge tm y) (a.eval y)
def VT.Hm{g N tm a ge}(h:VT g N tm a.tmps)(k:oO g ge)o:AH g ge tm o a:=λy _=>h.bP k y
def eW(P:Program)(ge:GE)(F:Nm->Prop)(o:Oper)(tm:Tm)(hp:Hp)(K:G->Hp->Prop):Prop:=
 ∀g fr w a Q,oC fr F->gh g w hp fr->oO g ge->AH g ge tm o a->
  o.wp P a w (λz w'=>∃v g' x y,z=a.put o.dst v/\AV.Le g g'/\gh g' w' y fr/\ac g' x v/\K x y) Q
def iO(N:Nat)(d:T Tmp):At:=match d with|some d=>decide (d<N)|none=>true
def lW{N d}(h:iO N d=true):∀k,d=some k->k<N:=by
 grind [iO]
def nq g:ac g (.bZ []) undef:=by simp only[ac];exact⟨#[],rfl,by simp[VL]⟩
end
section
variable {P:Program}{ge:GE}{F:Nm->Prop}{tm:Tm}{hp:Hp}{K:G->Hp->Prop}{o:Oper}
def dI{fr j}(h:oC fr F)(x:¬F j):fr j=none:=by
 cases e:fr j with
 |none=>rfl
 |some o=>exact absurd (h j CD) x
def eW.value(h:∀g fr w a,oC fr F->gh g w hp fr->oO g ge->AH g ge tm o a->
 ∃v w' g' x y,(execOp a.eval o).run P w= .ok (.value v) w'/\AV.Le g g'/\gh g' w' y fr/\ac g' x v/\K x y):eW P ge F o tm hp K:=λg fr w a Q f r k v=>by
 obtain⟨u,w',g',x,y,e,z,b,c,d⟩:=h g fr w a f r k v;simp only[Oper.wp,e];exact⟨u,g',x,y,rfl,z,b,c,d⟩
def eW.skip(h:∀g fr w a,oC fr F->gh g w hp fr->oO g ge->AH g ge tm o a->
 ∃w' g' x,(execOp a.eval o).run P w= .ok .skip w'/\AV.Le g g'/\gh g' w' x fr/\K (.bZ []) x):eW P ge F o tm hp K:=λg fr w a Q f r k v=>by
 obtain⟨w',g',x,e,y,z,b⟩:=h g fr w a f r k v;simp only[Oper.wp,e];exact⟨undef,g',.bZ [],x,rfl,y,z,nq _,b⟩
def Ev(P:Program)(ge:GE)(o:Oper)(tm:Tm)(S:Hp->Prop)(x:G):Prop:=∀(g:AV)(w:World)(a:Act)(hq:Hp),S hq->dy g w hq->oO g ge->AH g ge tm o a->∃v w' g',(execOp a.eval o).run P w= .ok (.value v) w'/\AV.Le g g'/\dy g' w' hq/\ac g' x v
def Up(S:Hp->Prop):Prop:=∀hp hq,AD hp hq->S hp->S hq
def aam:Up (λ_=>True):=λ_ _ _ _=>trivial
def Ev.df{S x}(h:∀g w a hq,S hq->dy g w hq->oO g ge->AH g ge tm o a->∃v,(execOp a.eval o).run P w= .ok (.value v) w/\ac g x v):Ev P ge o tm S x:=
 λg w a hq l r k v=>by
  grind [AV.Le.refl]
def vd{S x}(e:Ev P ge o tm S x)(hu:Up S)(y:S hp)(z:K x hp):eW P ge F o tm hp K:=
 .value λg fr w a f r k v=>by
  obtain⟨u,w',g',b,c,d,i⟩:=e g w a _ (hu _ _ (λj o l=>aK l) y) r.rel k v;exact⟨u,w',g',x,hp,b,c,⟨d,r.cM⟩,i,z⟩
variable {S:Hp->Prop}
def Ev.move{x}(y:o.op= .move x):Ev P ge o tm S (bP ge tm x):=.df (λg w a hq z r k v=>⟨a.eval x,by simp[execOp,y],v x EF⟩)
def Ev.assign{x}(y:o.op= .assign x):Ev P ge o tm S (bP ge tm x):=.df (λg w a hq z r k v=>⟨a.eval x,by simp[execOp,y],v x EF⟩)
def Ev.pick{c x y}(z:o.op= .pick c x y){t}(b:bP ge tm c= .bool t):Ev P ge o tm S (if t then bP ge tm x else bP ge tm y):=by
 refine .df (λg w a hq d r k v=>⟨if t then a.eval x else a.eval y,?_,?_⟩)
 .have:=v c Um;rw[b]at this;simp[ac]at this;cases t<;>simp[execOp,z,this,asBool]
 .cases t
  .exact v y Um
  .exact v x Um
def fY(P:Program)(hp:Hp)(t:TypeId):G->T G
 |.eU j off=>match hp j with
  |some (.cells cs)=>(gV P t).bind λx=>(du P t).bind λn=>cut x n cs off
  |_=>none
 |.aS (c::cs) off=>(gV P t).bind λx=>(du P t).bind λn=>cut x n (c::cs) off
 |_=>none
def mS{hp hq}(h:AD hp hq){t x y}(hx:fY P hp t x=some y):fY P hq t x=some y:=by
 unfold fY at hx |-;split at hx
 .split at hx
  .rename_i cs z;simp[h _ _ z];exact hx
  .simp at hx
 .exact hx
 .simp at hx
def Up.load{t x y}:Up (λhq=>fY P hq t x=some y):=λ_ _ h e=>mS h e
def Ev.load{t x y}(f:o.op= .load t x):Ev P ge o tm (λhq=>fY P hq t (bP ge tm x)=some y) y:=by
 refine .df (λg w a hq hx r k v=>?_);have d:=v x OW;unfold fY at hx;split at hx
 .rename_i j off e;rw[e]at d;split at hx
  .rename_i cs m;cases z:gV P t with
   |none=>simp[z]at hx
   |some p=>
    cases b:du P t with
    |none=>simp[b]at hx
    |some n=>
     simp[z,b]at hx;obtain⟨u,i,l⟩:=r.yQ z b m hx;exact⟨u,by simp[execOp,f,Instr.loadAt,d.2,Instr.sureAddr,i],l⟩
  .simp at hx
 .rename_i c cs off e;rw[e]at d;cases z:gV P t with
  |none=>simp[z]at hx
  |some p=>
   cases b:du P t with
   |none=>simp[b]at hx
   |some n=>
    simp[z,b]at hx;obtain⟨q,u,s,i,l⟩:=r.qF z b d hx NP;exact⟨u,by simp[execOp,f,Instr.loadAt,s,Instr.sureAddr,i],l⟩
 .simp at hx
def eW.store{t x y j off n cs}(z:o.op= .store t x y)(hx:bP ge tm x= .eU j off)(d:hp j=some (.cells cs))(i:du P t=some n)(hs:(bP ge tm y).cells.all G.eV=true)(l:(bP ge tm y).cells.length=n)(b:off+n<=cs.length)(m:K (.bZ []) (cW hp j (.cells (fH cs off (bP ge tm y).cells)))):eW P ge F o tm hp K:=by
 refine .skip λg fr w a f r k v=>?_
 have c:=v x Um;rw[hx]at c;obtain⟨w',p,e⟩:=r.rel.FF i (aK d) (v y Um) hs l b;rw[bz]at e;exact⟨w',g,_,by simp[execOp,z,Instr.storeAt,c.2,Instr.sureAddr,p],AV.Le.refl g,⟨e,r.cM.fW d⟩,m⟩
def om t v w:(newVar t v).run P w= .ok ⟨w.heap.size,0,none⟩ (w.alloc (.cells v.cells t)):=rfl
def eW.box{t x}j(b:o.op= .box t x)(c:hp j=none)(d:¬F j)(hs:(bP ge tm x).cells.all G.eV=true)
 (e:K (.eU j 0) (cW hp j (.cells (bP ge tm x).cells))):eW P ge F o tm hp K:=by
 refine .value λg fr w a f r k v=>?_
 have i:=(v x OV).cells hs;have y:=dI f d;have z:=cm c y;refine⟨.pointer (some ⟨w.heap.size,0,none⟩),w.alloc _,g.push j w.heap.size,_,_,?_,lu g _ (r.rel.cT z),⟨bz▸r.rel.oh z _ _ t i r.rel.jJ,r.cM.cW y⟩,?_,e⟩
 .simp[execOp,b,Instr.box,om]
 .simp[ac,AV.push]
def jK(P:Program)(t:TypeId):T (U G):=((P.info? t).bind (·.zero)).map λv=>v.cells.toList.map iA
def jD{t cs}(h:jK P t=some cs)w:∃v,(zeroValue t).run P w= .ok v w/\cs=v.cells.toList.map iA:=by
 unfold jK at h;cases x:P.info? t with
 |none=>simp[x]at h
 |some i=>
  cases y:i.zero with
  |none=>simp[x,y]at h
  |some v=>
   simp[x,y]at h;exact⟨v,by simp[zeroValue,typeInfo,x,y],by simp[<-h]⟩
def eW.alloc{t cs}j(b:o.op= .alloc t)(c:hp j=none)(d:¬F j)(e:jK P t=some cs)(i:K (.eU j 0) (cW hp j (.cells cs))):eW P ge F o tm hp K:=by
 refine .value λg fr w a f r k v=>?_
 obtain⟨z,l,rfl⟩:=jD e w;have x:=dI f d;have y:=cm c x;refine⟨.pointer (some ⟨w.heap.size,0,none⟩),w.alloc _,g.push j w.heap.size,_,_,?_,lu g _ (r.rel.cT y),⟨bz▸r.rel.oh y _ _ t (jh g _) r.rel.jJ,r.cM.cW x⟩,?_,i⟩
 .simp[execOp,b,Instr.alloc,l,om]
 .simp[ac,AV.push]
end
section
variable {P:Program}{ge:GE}{F:Nm->Prop}{S:Hp->Prop}{tm:Tm}{hp:Hp}{K:G->Hp->Prop}{o:Oper}
def kN(P:Program)(s:TypeId)(f:Nat):T (Nat×TypeId):=
 match P.underlying s with
 |some (.struct y)=>(y[f]?).map λx=>(x.offset,x.type)
 |_=>none
def oW{s f off t}(h:kN P s f=some (off,t)):
 ∃y x,P.underlying s=some (.struct y)/\y[f]?=some x/\x.offset=off/\x.type=t:=by
 unfold kN at h;split at h
 .rename_i y e
  grind
 .simp at h
def G.p6(n:Nat):G->T G
 |.eU j off=>some (.eU j (off+n))
 |.aS cs off=>some (.aS cs (off+n))
 |_=>none
def ac.p6{g x y n v}(h:ac g x v)(e:x.p6 n=some y):∃b o,v= .pointer (some ⟨b,o,none⟩)/\ac g y (.pointer (some ⟨b,o+n,none⟩)):=by
 cases x<;>simp[G.p6]at e
 .subst e;exact⟨_,_,h.2,h.1,rfl⟩
 .subst e;obtain⟨b,o,vals,rfl,z,a⟩:=h;exact⟨b,_,rfl,b,o,vals,by simp[Li],z,a⟩
def Ev.fieldAddr{s x f off n t y}(c:o.op= .fieldAddr s x f)(d:kN P s f=some (off,t))(e:du P t=some (n+1))(i:(bP ge tm x).p6 off=some y):Ev P ge o tm S y:=by
 refine .df (λg w a _ _ r k v=>?_);obtain⟨A,C,j,l,m,p⟩:=oW d;obtain⟨b,q,u,h6⟩:=(v x Ei).p6 i;refine⟨_,?_,h6⟩;have z:=dH e w;simp[execOp,c,Instr.fieldAt,FO,FG j,G4,l,u,Instr.sureAddr,Iu,fieldPlace,p,z,Nat.add_one_ne_zero,JU,m,JE]
def Ev.field{s x f off n t b cs y}(m:o.op= .field s x f)(q:kN P s f=some (off,t))(A:du P t=some n)(C:gV P t=some b)(hx:bP ge tm x= .agg cs)(z:cut b n cs off=some y):Ev P ge o tm S y:=by
 refine .df (λg w a _ _ r k v=>?_);obtain⟨X,fx,D,K,L,N⟩:=oW q;have c:=v x (by simp[m,Op.operands]);rw[hx]at c;obtain⟨bD,e,d⟩:=c;have i:=ly C w;have j:=dH A w;simp[execOp,m,Instr.field,FO,FG D,G4,K,e,asAgg,Iu,part,L,N,i];cases b with
 |true=>
  simp only[cut,J0]at z;split at z
  .cases z;refine⟨.agg (bD.extract off (off+n)),?_,?_⟩
   .simp[j]
   .refine⟨_,rfl,?_⟩;have:(bD.extract off (off+n)).toList=(bD.toList.drop off).take n:=by
     simp
    rw[this];exact VL.take n _ _ (VL.drop off _ _ d)
  .simp at z
 |false=>
  obtain⟨u,Q,h6⟩:=VL.get _ _ d off y z;refine⟨u,?_,h6⟩;have l:bD[off]?=some u:=by rw[<-Q];simp
  simp[l]
def Ev.extract{x i cs y}(c:o.op= .extract x i)(hx:bP ge tm x= .bZ cs)(d:cs[i]?=some y):Ev P ge o tm S y:=by
 refine .df (λg w a _ _ r k v=>?_);have z:=v x Ei;rw[hx]at z;obtain⟨bD,e,f⟩:=z;obtain⟨u,j,h6⟩:=VL.get _ _ f i y d;refine⟨u,?_,h6⟩;have b:bD[i]?=some u:=by rw[<-j];simp
 simp[execOp,c,Instr.extract,e,b]
def Ca{g f h}:(l:U Operand)->(∀x∈l,ac g (f x) (h x))->VL g (l.map f) (l.map h)
 | [],_=>by simp[VL]
 |x::l,z=>by simp;exact⟨_,_,rfl,z x NP,Ca l (λy a=>z y (by simp[a]))⟩
def Ev.makeFunc{fn first y}(z:o.op= .makeFunc fn first y):Ev P ge o tm S (.fn fn (first.toList.map (bP ge tm)) (y.toList.map (bP ge tm))):=.df (λg w a _ _ r k v=>⟨.func fn (first.map a.eval) (y.map a.eval),by simp[execOp,z,Instr.makeFunc],⟨_,_,rfl,by simpa using Ca first.toList (λx hx=>v x (by simp[z,Op.operands];exact .inl (by simpa using hx))),by simpa using Ca y.toList (λx hx=>v x (by simp[z,Op.operands];exact .inr (by simpa using hx)))⟩⟩)
def Ev.makeInterface{t x d}(y:o.op= .makeInterface t x)(hu:P.underlying t=some d)(hd:(d matches .interface _)=false):Ev P ge o tm S (.iface t (bP ge tm x)):=by
 refine .df (λg w a _ _ r k v=>⟨.iface t (a.eval x),?_,?_⟩)
 .simp[execOp,y,Instr.makeInterface,FO,FG hu];cases d<;>simp_all
 .exact⟨_,rfl,v x EF⟩
def vP(op:BinOp)(k:IntKind)(a b:Int):T G:=
 match op with
 |.add=>some (.int k (k.wrap (a+b)))
 |.sub=>some (.int k (k.wrap (a-b)))
 |.mul=>some (.int k (k.wrap (a*b)))
 |.and=>some (.int k (k.wrap (BitVec.ofInt k.bits a &&& BitVec.ofInt k.bits b).toNat))
 |.or=>some (.int k (k.wrap (BitVec.ofInt k.bits a ||| BitVec.ofInt k.bits b).toNat))
 |.eql=>some (.bool (a==b))
 |.neq=>some (.bool (a !=b))
 |.lss=>some (.bool (decide (a<b)))
 |.leq=>some (.bool (decide (a<=b)))
 |.gtr=>some (.bool (decide (a>b)))
 |.geq=>some (.bool (decide (a>=b)))
 |_=>none
def aek{op t i x y k a b z}(c:o.op= .binOp op t x y i)(hx:bP ge tm x= .int k a)(j:bP ge tm y= .int k b)(f:vP op k a b=some z):Ev P ge o tm S z:=by
 refine .df (λg w l _ _ r m v=>?_);have d:=v x Ei;have e:=v y Ei;rw[hx]at d;rw[j]at e;simp[ac]at d e;cases op<;>simp[vP]at f<;>subst f<;>
  exact⟨_,by simp[execOp,c,d,e,eqGuard,binOp,Op.intArith,Op.intCmp,Op.intBits],rfl⟩
def bg(a b:Z):At:=a.data.toList==b.data.toList
def An(a b:Z):At:=Op.bytesLess a.data.toList b.data.toList
def vQ a b:(a.toList==b.toList)=bg a b:=by rw[ByteArray.toList_eq,ByteArray.toList_eq];rfl
def avX a b:Op.bytesLess a.toList b.toList=An a b:=by rw[ByteArray.toList_eq,ByteArray.toList_eq];rfl
def vR(op:BinOp)(x y:Z):T G:=
 match op with
 |.eql=>some (.bool (bg x y))
 |.neq=>some (.bool (!bg x y))
 |.lss=>some (.bool (An x y))
 |.leq=>some (.bool (An x y||bg x y))
 |.gtr=>some (.bool (!(An x y||bg x y)))
 |.geq=>some (.bool (!An x y))
 |_=>none
def ael{op t i x y a b z}(c:o.op= .binOp op t x y i)(hx:bP ge tm x= .str a)(j:bP ge tm y= .str b)(f:vR op a b=some z):Ev P ge o tm S z:=by
 refine .df (λg w k _ _ r l v=>?_);have d:=v x Ei;have e:=v y Ei;rw[hx]at d;rw[j]at e;simp[ac]at d e;cases op<;>simp[vR]at f<;>subst f<;>
  exact⟨_,by simp[execOp,c,d,e,eqGuard,binOp,Op.stringOp,vQ,avX],rfl⟩
def aem{t e x y a b}(z:o.op= .binOp .add t x y e)(hx:bP ge tm x= .str a)(f:bP ge tm y= .str b)(j:a.size+b.size<=9223372036854775807):Ev P ge o tm S (.str (a++b)):=by
 refine .df (λg w i _ _ r k v=>?_);have c:=v x Um;have d:=v y Um;rw[hx]at c;rw[f]at d;simp only[ac]at c d |-;simp[execOp,z,c,d,eqGuard,binOp,Op.stringOp];omega
def aen{t x b}(z:o.op= .unOp .not t x)(hx:bP ge tm x= .bool b):Ev P ge o tm S (.bool (!b)):=by
 refine .df (λg w a _ _ r c v=>?_);have y:=v x Um;rw[hx]at y;simp only[ac]at y |-;exact⟨_,by simp[execOp,z,y,Op.unary],rfl⟩
def aeo{t x k n}(z:o.op= .unOp .neg t x)(hx:bP ge tm x= .int k n):Ev P ge o tm S (.int k (k.wrap (0-n))):=by
 refine .df (λg w a _ _ r b v=>?_);have y:=v x Um;rw[hx]at y;simp only[ac]at y |-;exact⟨_,by simp[execOp,z,y,Op.unary,Op.intArith],rfl⟩
def aet{t f x y k i a b}(z:o.op= .binOp .shr t x y f)(hx:bP ge tm x= .int k a)(j:bP ge tm y= .int i b)(m:0<=b):Ev P ge o tm S (.int k (a.fdiv (2 ^ min b.toNat k.bits))):=by
 refine .df (λg w l _ _ r n v=>?_);have c:=v x Um;have d:=v y Um;rw[hx]at c;rw[j]at d;simp[ac]at c d;have e:¬b<0:=by omega
 exact⟨.int k (a.fdiv (2 ^ min b.toNat k.bits)),by simp[execOp,z,c,d,eqGuard,binOp,Op.shift,e],by simp[ac]⟩
def aeK{t f x y k i a b}(z:o.op= .binOp .shl t x y f)(hx:bP ge tm x= .int k a)(j:bP ge tm y= .int i b)(m:0<=b):Ev P ge o tm S (.int k (k.wrap (a*2 ^ min b.toNat k.bits))):=by
 refine .df (λg w l _ _ r n v=>?_);have c:=v x Um;have d:=v y Um;rw[hx]at c;rw[j]at d;simp[ac]at c d;have e:¬b<0:=by omega
 exact⟨.int k (k.wrap (a*2 ^ min b.toNat k.bits)),by simp[execOp,z,c,d,eqGuard,binOp,Op.shift,e],by simp[ac]⟩
def cX(P:Program)(t:TypeId):T (TypeId×Nat):=
 match P.underlying t with
 |some (.slice e)=>(du P e).map λn=>(e,n)
 |_=>none
def dm{t e sz}(h:cX P t=some (e,sz)):P.underlying t=some (.slice e)/\du P e=some sz:=by
 unfold cX at h;split at h
 .rename_i y z;cases x:du P y with
  |none=>simp[x]at h
  |some n=>simp[x]at h;obtain⟨rfl,rfl⟩:=h;exact⟨z,x⟩
 .simp at h
def VE.get{g sz}:∀xs vs,VE g sz xs vs->∀i x,xs[i]?=some x->
 ∃v,ac g x v/\v.cells.size=sz/\(∀u∈v.cells.toList,u.oneCell'=true)/\v.cells.toList<+:vs.drop (i*sz)
 | [],vs,e,i,x,h=>by simp at h
 |y::xs,vs,e,i,x,h=>by
  simp only[VE]at e;obtain⟨v,rest,rfl,z,a,b⟩:=e;cases i with
  |zero=>
   simp at h;subst h;exact⟨v,a,z.1,z.2,by simp⟩
  |succ i=>
   obtain⟨u,k1,c,d,k4⟩:=VE.get xs rest b i x Do;refine⟨u,k1,c,d,?_⟩;have:(i+1)*sz=v.cells.toList.length+i*sz:=by
    have:=z.1;simp only[PX]at this;rw[this,JC];omega
   rw[this,<-NL,List.drop_left];exact k4
def Ev.indexAddr{t e x y k i sz tok c xs z}(j:o.op= .indexAddr t x y)(s:cX P t=some (e,sz))(hx:bP ge tm x= .sl sz tok c)(ez:bF c xs)(A:bP ge tm y= .int k i)(L:0<=i)(l:xs[i.toNat]?=some z)(hs:z.cells.all G.eV=true):Ev P ge o tm S (.aS z.cells 0):=by
 refine .df (λg w C _ _ r N v=>?_);obtain⟨hu,m⟩:=dm s;have d:=v x OU;have n:=v y OU;rw[hx]at d;have d:=ac.sub (Sub.sl ez (.inl rfl)) _ d;rw[A]at n;have D:=gD l;simp only[ac]at d n;obtain⟨a,cap,e1,Q,X,p,_,_⟩:=d;obtain⟨b,off,vals,rfl,q,f⟩:=p (by intro e;subst e;simp at l);obtain⟨u,k1,k2,k3,k4⟩:=VE.get _ _ q _ _ l;refine⟨.pointer (some ⟨b,off+i.toNat*sz,none⟩),?_,?_⟩
 .have K:0<=i/\i<(xs.length:Int):=by omega
  simp[execOp,j,n,e1,Instr.indexAt,asIntOf,FG hu,K,dH m,JE]
 .simp only[ac];refine⟨b,off+i.toNat*sz,u.cells.toList,by simp,ac.cells k1 hs,?_⟩;rw[<-NL];exact k4.trans (eF f _)
def aeL{t e x y k i j sz n}(z:o.op= .indexAddr t x y)(l:cX P t=some (e,sz))(hx:bP ge tm x= .ms j sz n)(m:bP ge tm y= .int k i)(p:0<=i)(q:i<n):Ev P ge o tm S (.eU j (i.toNat*sz)):=by
 refine .df (λg w s _ _ r A v=>?_);obtain⟨hu,b⟩:=dm l;have c:=v x Um;have d:=v y Um;rw[hx]at c;rw[m]at d;simp only[ac]at c d |-;obtain⟨u,a,cap,e1,C,_,f,_⟩:=c;have f:=f B9;subst f;exact⟨.pointer (some ⟨g.cC j,i.toNat*sz,none⟩),by simp[execOp,z,d,e1,Instr.indexAt,asIntOf,FG hu,p,q,dH b,JE],u,rfl⟩
def aeO{t e x y k i j sz n len}(z:o.op= .indexAddr t x y)(hu:P.underlying t=some (.array len e))(a:du P e=some sz)(hx:bP ge tm x= .eU j n)(d:bP ge tm y= .int k i)(f:0<=i)(l:i<len):Ev P ge o tm S (.eU j (n+i.toNat*sz)):=by
 refine .df (λg w m _ _ r q v=>?_);have b:=v x Um;have c:=v y Um;rw[hx]at b;rw[d]at c;simp only[ac]at b c |-;obtain⟨p,e1⟩:=b;exact⟨.pointer (some ⟨g.cC j,n+i.toNat*sz,none⟩),by simp[execOp,z,c,e1,Instr.indexAt,Instr.sureAddr,asIntOf,FG hu,f,l,dH a,JE],p,rfl⟩
def Ev.len{t e x sz tok y xs}(b:o.op= .call {callee:=.builtin .len,args:=#[x],argTypes:=#[t]})(hu:P.underlying t=some (.slice e))(hx:bP ge tm x= .sl sz tok y)(ez:bF y xs):Ev P ge o tm S (.int .i64 xs.length):=by
 refine .df (λg w c _ _ r d v=>?_);have z:=v x Fc;rw[hx]at z;have z:=ac.sub (Sub.sl ez (.inl rfl)) _ z;simp only[ac]at z |-;obtain⟨a,cap,e1,_⟩:=z;exact⟨_,by simp[execOp,b,resolve,invoke,builtin,Builtin.len_,e1,goInt,FG hu],rfl⟩
def aeS{t x s}(z:o.op= .call {callee:=.builtin .len,args:=#[x],argTypes:=#[t]})(hu:P.underlying t=some .string)(hx:bP ge tm x= .str s):Ev P ge o tm S (.int .i64 s.size):=by
 refine .df (λg w a _ _ r b v=>?_);have y:=v x Dn;rw[hx]at y;simp only[ac]at y |-;exact⟨_,by simp[execOp,z,resolve,invoke,builtin,Builtin.len_,y,goInt,FG hu],rfl⟩
def eW.append{t e x y j sz bytes n tok xs ys}(z:o.op= .call {callee:=.builtin .append,args:=#[x,y],argTypes:=#[t,t]})(D:oV P t e sz bytes)(hx:bP ge tm x= .sl sz (.tail j) xs)(d:bP ge tm y= .sl sz tok ys)(a:hp j=some (.tail sz n))(i:xs.length=n)(k:(xs.length+ys.length)*bytes<=140737488355328)(l:xs.length+ys.length<=4611686018427387904)(m:K (.sl sz (.tail j) (xs++ys)) (cW hp j (.tail sz (n+ys.length)))):eW P ge F o tm hp K:=by
 refine .value λg fr w p f r q v=>?_
 have b:=v x Dn;have c:=v y Dn;rw[hx]at b;rw[d]at c;obtain⟨u,w',g',e1,e2,e3,e4⟩:=r.rel.append (ty:=o.type) D (aK a) b i c k l;rw[bz]at e3;exact⟨u,w',g',_,_,by simp[execOp,z,resolve,invoke,builtin,e1],e2,⟨e3,r.cM.fW a⟩,e4,m⟩
def aeT{t e x y sz z bytes tok xs ys}j(q:hp j=none)(s:¬F j)(b:o.op= .call {callee:=.builtin .append,args:=#[x,y],argTypes:=#[t,t]})
 (h:oV P t e sz bytes) (hx:bP ge tm x= .sl z .fu xs) (c:xs=[]\/z=sz) (A:bP ge tm y= .sl sz tok ys)
 (C:(xs.length+ys.length)*bytes<=140737488355328) (D:xs.length+ys.length<=4611686018427387904)
 (L:K (.sl sz (.tail j) (xs++ys)) (cW hp j (.tail sz (xs.length+ys.length)))):eW P ge F o tm hp K:=by
 refine .value λg fr w d f r X v=>?_
 have k:=v x Fc;have m:=v y Fc;rw[hx]at k;rw[A]at m;have l:ac g (.sl sz .fu xs) (d.eval x):=by
  rcases c with rfl|rfl
  .exact ac.sub (.nil (.inl rfl)) _ k
  .exact k
 have a:=dI f s;obtain⟨g1,p,N,Q⟩:=r.rel.jW (cm q a) l;obtain⟨u,w',g',e1,e2,e3,e4⟩:=N.append (ty:=o.type) (j:=j) (n:=xs.length) h (bp _ _ _) Q rfl (ac.mono p _ _ m) C D;refine⟨u,w',g',_,_,by simp[execOp,b,resolve,invoke,builtin,e1],p.trans e2,⟨?_,r.cM.cW a⟩,e4,L⟩;have:cW (cW (bG hp fr) j (.tail sz xs.length)) j (.tail sz (xs.length+ys.length))=bG (cW hp j (.tail sz (xs.length+ys.length))) fr:=by
  rw[<-bz];funext i;simp only[cW];split<;>rfl
 rw[<-this];exact e3
def jR(x:Nat->T (Nat×Nat))(cells:U G):U (Nat×G)->T (U G)
 | []=>some cells
 |(i,v)::rest=>
  match x i with
  |none=>none
  |some (off,size)=>
   if v.cells.length=size/\off+size<=cells.length/\v.cells.all G.eV=true then jR x (fH cells off v.cells) rest else none
def avj cs:∀k off(c:Array Value),off+k+cs.length<=c.size->
 ((cs.zipIdx k).foldl (λ a x=>a.setIfInBounds (off+x.2) x.1) c).toList=c.toList.take (off+k)++cs++c.toList.drop (off+k+cs.length):=by
 induction cs with
 |nil=>intro k off c h;simp
 |cons v cs z=>
  intro k off c h;simp only[List.zipIdx_cons,List.foldl_cons];simp only[B0]at h;rw[z (k+1) off (c.setIfInBounds (off+k) v) Ar];have y:off+k<c.toList.length:=by simp;omega
  have e1:(c.setIfInBounds (off+k) v).toList=c.toList.set (off+k) v:=by simp
  rw[e1];have e2:(c.toList.set (off+k) v).take (off+(k+1))=c.toList.take (off+k)++[v]:=by
   rw[show off+(k+1)=(off+k)+1 from by omega,List.take_succ_eq_append_getElem Ee];rw[List.take_set_of_le (Hq _)];simp
  have e3:(c.toList.set (off+k) v).drop (off+(k+1)+cs.length)=c.toList.drop (off+k+(cs.length+1)):=by
   rw[List.drop_set_of_lt B9];congr 1;omega
  rw[e2,e3];simp
def jE{g}a:∀b y{cells z vs},
 VL g cells vs.toList->(∀i:Nat,∀p,b[i]?=some p->∃q,y[i]?=some q/\q.1=p.1/\ac g p.2 q.2)->b.length=y.length->
 jR a cells b=some z->∃d,Instr.fill a vs y=some d/\VL g z d.toList
 | [],y,cells,z,vs,c,hp,e,h=>by
  have:y=[]:=KE (by simpa using e.symm);subst this;simp[jR]at h;subst h;exact⟨vs,rfl,c⟩
 |(i,x)::rest,[],cells,z,vs,c,hp,e,h=>by simp at e
 |(i,x)::rest,(o,v)::l,cells,z,vs,c,hp,e,h=>by
  obtain⟨q,hq,n,r⟩:=hp 0 (i,x) rfl;simp at hq;subst hq;simp at n;subst n;simp only[jR]at h;simp only[Instr.fill];cases aN:a o with
  |none=>simp[aN]at h
  |some os=>
   obtain⟨off,size⟩:=os;simp only[aN]at h |-;split at h
   .rename_i s;obtain⟨c1,w,t⟩:=s;have f:=ac.cells r t;have j:=VL.length _ _ f;have m:=VL.length _ _ c;simp only[LJ]at j m;rw[BY Ar];refine jE a rest l (cells:=fH cells off x.cells) ?_ (λk p u=>?_) (by simpa using e) h
    .have:=avj v.cells.toList 0 off vs Ar;rw[<-Array.foldl_toList];simp only[Array.toList_zipIdx]at this |-;rw[this];simp only[L5,fH,LJ,j];exact VL.append _ _ (VL.append _ _ (VL.take off _ _ c) _ _ f) _ _ (VL.drop _ _ _ c)
    .have:=hp (k+1) p (by simpa using u);simpa using this
   .simp at h
def sL(P:Program)(t:TypeId)(x:U (Nat×G)):T G:=
 match P.info? t,P.underlying t with
 |some y,some (.array _ e)=>
  match y.zero,P.info? e with
  |some z,some c=>(jR (λi=>some (i*c.size,c.size)) (z.cells.toList.map iA) x).map .agg
  |_,_=>none
 |some y,some (.struct a)=>
  match y.zero,a.toList.mapM (λf=>(P.info? f.type).map λi=>(f.offset,i.size))with
  |some z,some b=>(jR (b.toArray[·]?) (z.cells.toList.map iA) x).map .agg
  |_,_=>none
 |_,_=>none
def p7{g}{f:Operand->G}{h:Operand->Value}(x:U (Nat×Operand))(z:∀q∈x,ac g (f q.2) (h q.2)):∀(i:Nat)p,(x.map λq=>(q.1,f q.2))[i]?=some p->
 ∃q,(x.map λq=>(q.1,h q.2))[i]?=some q/\q.1=p.1/\ac g p.2 q.2:=by
 intro i p hp;rw[K9]at hp;cases y:x[i]? with
 |none=>simp[y]at hp
 |some q=>
  simp[y]at hp;subst hp;exact⟨(q.1,h q.2),by simp[y],rfl,z q (K3 y)⟩
def Ev.build{t c y}(D:o.op= .build t c)(b:sL P t (c.toList.map λq=>(q.1,bP ge tm q.2))=some y):Ev P ge o tm S y:=by
 refine .df (λg w a _ _ r k v=>?_);have l:=p7 (g:=g) (f:=bP ge tm) (h:=a.eval) c.toList (λq hq=>v q.2 (by simp[D,Op.operands];exact⟨q.1,by simpa using hq⟩));have aN:(c.map λ(i,x)=>(i,a.eval x)).toList=c.toList.map λq=>(q.1,a.eval q.2):=by simp
 suffices h:∃vs,P.built t (c.toList.map λq=>(q.1,a.eval q.2))=some vs/\ac g y (.agg vs) by
  obtain⟨vs,p,s⟩:=h;refine⟨.agg vs,?_,s⟩;have:=run_build (P:=P) w t (c.map λ(i,x)=>(i,a.eval x)) vs (by rw[aN];exact p);simp only[execOp,D,FO,this,G4];rfl
 unfold sL at b;unfold Program.built;cases u:P.info? t with
 |none=>simp[u]at b
 |some K=>
  cases hu:P.underlying t with
  |none=>simp[u,hu]at b
  |some d=>
   cases d<;>simp only[u,hu]at b ⊢<;>try (simp at b;done)
   case array len e=>
    cases m:K.zero with
    |none=>simp[m]at b
    |some z=>
     cases j:P.info? e with
     |none=>simp[m,j]at b
     |some L=>
      simp only[m,j]at b |-;cases n:jR (λi=>some (i*L.size,L.size)) (z.cells.toList.map iA) (c.toList.map λq=>(q.1,bP ge tm q.2))with
      |none=>rw[n]at b;simp at b
      |some cs=>
       rw[n]at b;simp only[Jm,Hs]at b;subst b;obtain⟨vs,p,s⟩:=jE _ _ _ (jh g z.cells.toList) l NP n;exact⟨vs,p,by simp only[ac];exact⟨vs,rfl,s⟩⟩
   case struct A=>
    cases m:K.zero with
    |none=>simp[m]at b
    |some z=>
     cases j:A.toList.mapM (λf=>(P.info? f.type).map λi=>(f.offset,i.size))with
     |none=>simp[m,j]at b
     |some C=>
      simp only[m,j]at b |-;cases n:jR (C.toArray[·]?) (z.cells.toList.map iA) (c.toList.map λq=>(q.1,bP ge tm q.2))with
      |none=>rw[n]at b;simp at b
      |some cs=>
       rw[n]at b;simp only[Jm,Hs]at b;subst b;obtain⟨vs,p,s⟩:=jE _ _ _ (jh g z.cells.toList) l NP n;exact⟨vs,p,by simp only[ac];exact⟨vs,rfl,s⟩⟩
def VL.split{g}:∀xs ys vs,VL g (xs++ys) vs->∃a b,vs=a++b/\VL g xs a/\VL g ys b
 | [],ys,vs,h=>⟨[],vs,rfl,by simp[VL],by simpa using h⟩
 |x::xs,ys,vs,h=>by
  simp only[LX,VL]at h;obtain⟨v,rest,rfl,y,z⟩:=h;obtain⟨a,b,rfl,c,d⟩:=VL.split xs ys rest z;exact⟨v::a,b,rfl,by simp only[VL];exact⟨v,a,rfl,y,c⟩,d⟩
def oX{g sz}:∀xs vs,VL g (xs.flatMap G.cells) vs->(∀x∈xs,x.cells.length=sz/\x.cells.all G.eV=true)->VE g sz xs vs
 | [],vs,h,_=>by simpa[VL,VE]using h
 |x::xs,vs,h,hx=>by
  simp only[P8]at h;obtain⟨a,b,rfl,z,e⟩:=VL.split _ _ _ h;obtain⟨k1,f⟩:=hx x NP;have hs:=VL.eV _ _ z f;have i:=VL.length _ _ z;simp only[VE];have d:=oX xs b e (λy j=>hx y (by simp[j]));cases x
  case agg cs=>
   refine⟨.agg a.toArray,b,by simp[Value.cells],⟨by simp[Value.cells];rw[i];exact k1,by simpa[Value.cells]using hs⟩,by simp only[ac];exact⟨_,rfl,by simpa[G.cells]using z⟩,d⟩
  all_goals
   simp only[G.cells,VL]at z;obtain⟨v,rest,rfl,k,l⟩:=z;subst l;have c:v.cells=#[v]:=by
    have:=hs v NP;cases v<;>simp_all[Value.cells,Value.oneCell']
   refine⟨v,b,by simp[c],⟨by simp[c];simpa[G.cells]using k1,by simpa[c]using hs⟩,k,d⟩
def uY{sz}(xs:U G):∀k done,done.length=k*sz->(∀x∈xs,x.cells.length=sz/\x.cells.all G.eV=true)->
 jR (λi=>some (i*sz,sz)) (done++List.replicate (xs.length*sz) .any) ((xs.zipIdx k).map λp=>(p.2,p.1))=some (done++xs.flatMap G.cells):=by
 induction xs with
 |nil=>intro k done h _;simp[jR]
 |cons x xs z=>
  intro k done h hx;obtain⟨k1,a⟩:=hx x NP;simp only[List.zipIdx_cons,Hx,jR];rw[BX ⟨k1,by simp[h,JC],a⟩];have e:fH (done++List.replicate ((x::xs).length*sz) .any) (k*sz) x.cells=(done++x.cells)++List.replicate (xs.length*sz) .any:=by
   unfold fH;rw[<-h];simp only[B0,JC,Nat.one_mul];rw[List.take_left,ML,Lo B9,LW,List.drop_replicate,k1];congr 2;omega
  rw[e,z (k+1) (done++x.cells) (by simp[h,k1,JC]) (λy b=>hx y (by simp[b]))];simp
def AJ{g}:∀vs,VL g (List.replicate vs.length .any) vs
 | []=>by simp[VL]
 |v::vs=>by simp only[B0,P7,VL];exact⟨v,vs,rfl,trivial,AJ vs⟩
def sM(sz:Nat)(x:U (Nat×G)):At:=(x.map (·.1)==List.range x.length)&&x.all (λp=>p.2.cells.length==sz&&p.2.cells.all G.eV)
def Ev.buildSlice{t e len sz y zs}(ho:o.op= .buildSlice t len y)(ht:cX P t=some (e,sz))(A:jK P e=some zs)(d:len=y.size)(hz:zs.length=sz)(amT:len*sz<=16777216)(hl2:len<=16777216)(j:sM sz (y.toList.map λq=>(q.1,bP ge tm q.2))=true):Ev P ge o tm S (.sl sz .fu (y.toList.map λq=>bP ge tm q.2)):=by
 intro g w a hq hl r k v;obtain⟨hu,C⟩:=dm ht;obtain⟨z,D,rfl⟩:=jD A w;have m:=p7 (g:=g) (f:=bP ge tm) (h:=a.eval) y.toList (λq hq=>v q.2 akn);simp only[sM,BR,HV,H0]at j;obtain⟨K,L⟩:=j;generalize n:(y.toList.map λq=>bP ge tm q.2)=xs;have N:(y.toList.map λq=>(q.1,bP ge tm q.2))=(xs.zipIdx 0).map λp=>(p.2,p.1):=by
  apply Lf;intro i;have Q:=JV (λl=>l[i]?) K
  grind
 have b:xs.length=len:=by rw[<-n,d];simp
 have s:∀x∈xs,x.cells.length=sz/\x.cells.all G.eV=true:=by
  intro x hx;rw[<-n]at hx;obtain⟨q,hq,rfl⟩:=Hr.1 hx;have:=L (q.1,bP ge tm q.2) (Hr.2 ⟨q,hq,rfl⟩);simpa using this
 have c:=uY (sz:=sz) xs 0 [] NP s;rw[<-N,b]at c;simp only[LW]at c
 let ajK:Array Value:=(Array.range (len*sz)).map (λi=>z.cells[i % z.cells.size]!)
 have X:VL g (List.replicate (len*sz) .any) ajK.toList:=by
  have:=AJ (g:=g) ajK.toList;simpa[ajK]using this
 obtain⟨vs,Q,h2⟩:=jE _ _ _ X m NP c;have hve:=oX xs vs.toList h2 s;have r1:=r.qE vs e;have u:AV.Le g (g.cO w.heap.size vs.toList):=K1 (by rw[r.jJ];exact LV);refine⟨.slice (some ⟨w.heap.size,0,none⟩) len len,w.alloc (.cells vs e),g.cO w.heap.size vs.toList,?_,u,r1,?_⟩
 .have aN:(y.map λ(i,x)=>(i,a.eval x)).toList=y.toList.map λq=>(q.1,a.eval q.2):=by simp
  have hns:¬(len*sz>2 ^ 24):=by omega
  simp only[execOp,ho,Instr.buildSlice,FO,FG hu,G4,dH C,hns,JU];rw[aN];by_cases h0:len*sz=0
  .rw[BX h0];have e0:(Array.map (λx=>(#[]:Array Value)[x %(#[]:Array Value).size]!) (Array.range (len*sz)))=ajK:=by simp[ajK,h0]
   simp only[FO,Iu,G4,e0,Q];rfl
  .rw[BY h0];simp only[FO,D,Iu,G4];rw[show(Array.map (λx=>z.cells[x % z.cells.size]!) (Array.range (len*sz)))=ajK from rfl,Q];rfl
 .simp only[ac];refine⟨some ⟨w.heap.size,0,none⟩,len,by rw[b],by omega,by simp,λ_=>⟨w.heap.size,0,vs.toList,rfl,VE.mono u _ _ _ hve,by simp[AV.cO]⟩,by simp,?_⟩;simp only[dV];exact b.symm
end
end Go.Ab

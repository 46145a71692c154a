/- The logic of the walk. -/
import Derived.Below
import Derived.Deep.MidRow
import Derived.Laws.AppendOwn
import Derived.Laws.CopyRow
import Derived.Laws.Sem
set_option linter.all false
open Go Go.RowKit
namespace Go.Ab
abbrev amw:=ByteArray
abbrev amx:=List
abbrev amy:=Option
abbrev amz:=Bool
def amA:=@List.length_cons
def amB:=@List.length_nil
def amC:=@Bool.and_eq_true
def amD:=@Option.bind_some
def amE:=@List.mem_cons
def amF:=@ByteArray.size_append
def amG:=@IntKind.wrap_i64
def amH:=@if_pos
def amI:=@run_underlying
def amJ:=@List.length_map
def amK:=@Nat.eq_of_beq_eq_true
def amL:=@if_neg
def amM:=@Sem.run_bind
def amN:=@Result.andThen_ok
def amO:=@List.length_append
def amP:=@List.not_mem_nil
def amQ:=@or_false
def amR:=@List.all_eq_true
def amS:=@decide_eq_true_eq
def amT:=@Option.some.injEq
def amU:=@And.right
def amV:=@List.map_cons
def amW:=@Nat.le_refl
def amX:=@Int.natCast_nonneg
def amY:=@List.map_append
def amZ:=@List.mem_append
def am0:=@if_true
def am1:=@Array.getD_eq_getD_getElem?
def am2:=@Sem.run_pure
def am3:=@List.mem_map
def am4:=@Nat.le_of_ble_eq_true
def am5:=@Option.some.inj
def am6:=@Nat.add_mul
def am7:=@beq_iff_eq
def am8:=@Addr.add_mid
def am9:=@List.map_map
def ana:=@cond_false
def anb:=@Sum.elim_inl
def anc:=@Nat.mul_le_mul_right
def ane:=@cond_true
def anf:=@List.prefix_rfl
def ang:=@Option.map_some
def anh:=@decide_eq_false_iff_not
def ani:=@And.left
def anj:=@if_false
def ank:=@Prod.mk.injEq
def anl:=@beq_eq_false_iff_ne
def anm:=@mem_ready
def ann:=@getD_set_ne
def ano:=@List.pairwise_append
def anp:=@Nat.zero_le
def anq:=@List.ne_nil_of_length_pos
def anr:=@Nat.add_zero
def ans:=@List.length_pos_iff
def ant:=@List.length_take
def anu:=@List.eq_nil_of_length_eq_zero
def anv:=@Bool.or_eq_true
def anw:=@List.mem_append_left
def anx:=@List.any_eq_true
def anz:=@List.take_length
def anA:=@List.take_add_one
def anB:=@congrArg
def anC:=@bne_iff_ne
def anD:=@Array.getElem?_eq_some_iff
def anE:=@Nat.zero_add
def anF:=@of_decide_eq_true
def anG:=@List.getElem?_eq_getElem
def anH:=@Nat.le_trans
def anI:=@Classical.byContradiction
def anJ:=@Array.length_toList
def anK:=@List.getElem?_map
def anL:=@List.mem_of_getElem?
def anM:=@List.getD_eq_getElem?_getD
def anN:=@Ne.symm
def anO:=@List.cons_append
def anP:=@List.nil_append
def anQ:=@List.nil_prefix
def anR:=@List.length_drop
def anS:=@wp_mono
def anT:=@Bool.not_eq_true'
def anU:=@List.getElem?_cons_zero
def anV:=@Option.getD_some
def anW:=@List.pairwise_cons
def anX:=@List.mem_of_mem_take
def anY:=@Bool.false_eq_true
def anZ:=@List.ext_getElem?
def an0:=@List.mem_range
def an1:=@Int.tmod_nonneg
def an2:=@Int.tmod_lt_of_pos
def an3:=@List.drop_append
def an4:=@List.prefix_append
def an5:=@List.getElem?_eq_some_iff
def an6:=@Below.heap_alloc
def an7:=@List.getElem?_drop
def an8:=@List.getElem?_append_left
def an9:=@List.getElem?_eq_none
def aoa:=@List.nodup_append
def aob:=@List.mem_of_mem_drop
def aoc:=@Obj.cells.injEq
def aod:=@List.append_inj
def aoe:=@List.getElem?_cons_succ
def aof:=@Nat.succ_mul
def aog:=@List.any_append
def aoh:=@Nat.add_comm
def aoi:=@List.drop_of_length_le
def aoj:=@Nat.add_assoc
def aok:=@run_storeCells_at
def aol:=@setRow_other
def aom:=@setRow_heap
def aon:=@List.drop_append_of_le_length
def aoo:=@run_firstCells_some
def aop:=@Oper.wp_mono
def aoq:=@Array.all_eq_true_iff_forall_mem
def aor:=@Bool.not_true
def aos:=@Array.toList_inj
def aot:=@List.mem_filter
def aou:=@List.set_set
def aov:=@List.mem_singleton
def aow:=@List.take_succ_cons
def aox:=@List.append_nil
def aoy:=@List.append_assoc
def aoz:=@Array.getElem?_setIfInBounds_self_of_lt
def aoA:=@Array.getElem?_setIfInBounds_ne
def aoB:=@Array.getElem?_eq_getElem
def aoC:=@Array.mem_of_getElem?
def aoD:=@Option.map_eq_some_iff
def aoE:=@Option.map_eq_none_iff
def aoF:=@Array.getElem?_toList
def aoG:=@List.length_set
def aoH:=@MapKept.run_getObj_map
def aoI:=@Option.isSome_iff_exists
def aoJ:=@List.mem_map_of_mem
def aoK:=@Option.bind_eq_some_iff
def aoL:=@List.map_set
def aoM:=@List.getElem?_set_self
def aoN:=@List.eq_nil_iff_forall_not_mem
def aoO:=@List.map_nil
def aoP:=@bne_self_eq_false
def aoQ:=@Array.size_eq_length_toList
def aoR:=@List.take_of_length_le
def aoS:=@List.take_append_of_le_length
def aoT:=@Nat.le_of_not_lt
def aoU:=@List.replicate_succ
def aoV:=@Array.getElem?_replicate
def aoW:=@List.filter_cons_of_neg
def aoX:=@List.filter_cons_of_pos
def aoY:=@Option.getD_none
def aoZ:=@Array.getElem?_setIfInBounds
def ao0:=@List.take_append_drop
def ao1:=@List.drop_length
def ao2:=@List.drop_eq_getElem_cons
def ao3:=@List.map_congr_left
def ao4:=@List.set_eq_of_length_le
def ao5:=@Int.tdiv_le_self
abbrev Nm:=Nat×Nat
inductive iA where
 |no
 |tail (j:Nm)
 |eD
 deriving Inhabited,DecidableEq
inductive AV where
 |bool (b:Bool)
 |int (k:IntKind) (n:Int)
 |an (s:ByteArray)
 |dY
 |ptr (j:Nm) (off:Nat)
 |aQ (cs:List AV) (off:Nat)
 |sl (sz:Nat) (tok:iA) (xs:List AV)
 |ms (j:Nm) (sz n:Nat)
 |sub (j:Nm) (sz lo n eD:Nat)
 |dq
 |map (j:Nm)
 |fn (f:Fn) (first acr:List AV)
 |cy
 |iface (t:TypeId) (v:AV)
 |nilIface
 |agg (cs:List AV)
 |bR (vs:List AV)
 |any
 deriving Inhabited
structure TI where
 a:Option Addr
 n:Nat
 cap:Nat
structure G where
 cj:Nat
 w0:World
 fz:Nat->List Value
 dc:Nm->Prop
 cg:Nm->Nat
 tl:Nm->TI
def dw(g:G)(n:Nat)(a:amy Addr)(cap:Nat):iA->Prop
 |.no=>True
 |.eD=>cap=n
 |.tail j=>g.dc j/\n<=(g.tl j).n/\((g.tl j).n=n->a=(g.tl j).a/\cap=(g.tl j).cap)
def iA.under(S:Nm->Prop):iA->Prop
 |.tail j=>S j
 |_=>True
mutual
def V (g:G):AV->Value->Prop
 |.bool b,v=>v= .bool b
 |.int k n,v=>v= .int k n
 |.an s,v=>v= .string s
 |.dY,v=>v= .pointer none
 |.ptr j off,v=>g.dc j/\v= .pointer (some ⟨g.cg j,off,none⟩)
 |.aQ cs off,v=>∃b o vals,v= .pointer (some ⟨b,o+off,none⟩)/\VL g cs vals/\vals<+:(g.fz b).drop o
 |.sl sz tok xs,v=>∃a cap,v= .slice a xs.length cap/\(xs.length<=cap/\xs.length<=4611686018427387904)/\(a=none->cap=0)/\
  (xs≠ []->∃b off vals,a=some ⟨b,off,none⟩/\VE g sz xs vals/\vals<+:(g.fz b).drop off)/\
  (∀x∈a,x.spot=none)/\
  dw g xs.length a cap tok
 |.ms j _ n,v=>g.dc j/\∃a cap,v= .slice a n cap/\(n<=cap/\n<=4611686018427387904)/\(a=none->cap=0)/\(0<n->a=some ⟨g.cg j,0,none⟩)/\(∀x∈a,x.spot=none)/\dw g n a cap (.tail j)
 |.sub j sz lo n N,v=>g.dc j/\lo+n<=N/\N<=(g.tl j).n/\∃a cap,v= .slice a n cap/\(n<=cap/\N<=4611686018427387904)/\(a=none->cap=0)/\(0<n->a=some ⟨g.cg j,lo*sz,none⟩)/\(∀x∈a,x.spot=none)/\(lo=0->N<=cap/\(0<N->a=some ⟨g.cg j,0,none⟩))/\((g.tl j).n=N->lo=0->a=(g.tl j).a/\cap=(g.tl j).cap)
 |.dq,v=>v= .map none
 |.map j,v=>g.dc j/\v= .map (some (g.cg j))
 |.fn f first acr,v=>∃a b,v= .func f a b/\VL g first a.toList/\VL g acr b.toList
 |.cy,v=>v= .nilFunc
 |.iface t x,v=>∃y,v= .iface t y/\V g x y
 |.nilIface,v=>v= .nilIface
 |.agg cs,v=>∃a,v= .agg a/\VL g cs a.toList
 |.bR cs,v=>∃a,v= .tuple a/\VL g cs a.toList
 |.any,_=>True
def VL (g:G):amx AV->amx Value->Prop
 | [],vs=>vs=[]
 |x::xs,vs=>∃v rest,vs=v::rest/\V g x v/\VL g xs rest
def VE (g:G) (sz:Nat):amx AV->amx Value->Prop
 | [],vs=>vs=[]
 |x::xs,vs=>∃v rest,vs=v.cells.toList++rest/\(v.cells.size=sz/\∀u∈v.cells.toList,u.oneCell'=true)/\V g x v/\VE g sz xs rest
end
mutual
def AV.under (S:Nm->Prop):AV->Prop
 |.ptr j _=>S j
 |.ms j _ _=>S j
 |.sub j _ _ _ _=>S j
 |.map j=>S j
 |.aQ cs _=>AV.bP S cs
 |.sl _ tok xs=>tok.under S/\AV.bP S xs
 |.fn _ first acr=>AV.bP S first/\AV.bP S acr
 |.iface _ v=>AV.under S v
 |.agg cs=>AV.bP S cs
 |.bR cs=>AV.bP S cs
 |_=>True
def AV.bP (S:Nm->Prop):amx AV->Prop
 | []=>True
 |x::xs=>AV.under S x/\AV.bP S xs
end
structure G.Le(g h:G):Prop where
 cj:h.cj=g.cj
 w0:h.w0=g.w0
 fz:∀b,g.fz b<+:h.fz b
 dc:∀j,g.dc j->h.dc j
 cg:∀j,g.dc j->h.cg j=g.cg j
 tl:∀j,g.dc j->h.tl j=g.tl j\/(g.tl j).n<(h.tl j).n
theorem G.Le.refl(g:G):G.Le g g:=⟨rfl,rfl,λ_=>anf,λ_ h=>h,λ_ _=>rfl,λ_ _=>.inl rfl⟩
theorem G.Le.trans{a b c:G}(h:G.Le a b)(k:G.Le b c):G.Le a c where
 cj:=k.cj.trans h.cj
 w0:=k.w0.trans h.w0
 fz x:=(h.fz x).trans (k.fz x)
 dc j hj:=k.dc j (h.dc j hj)
 cg j hj:=(k.cg j (h.dc j hj)).trans (h.cg j hj)
 tl j hj:=by
  rcases h.tl j hj with e|e<;>rcases k.tl j (h.dc j hj)with f|f
  ·exact .inl (f.trans e)
  ·exact .inr (by rw[e]at f;exact f)
  ·exact .inr (by rw[f];exact e)
  grind
def ee{α:Type}{xs ys:amx α}(h:xs<+:ys)(n:Nat):xs.drop n<+:ys.drop n:=by
 obtain⟨t,rfl⟩:=h
 grind [List.drop_append,List.prefix_append]
theorem dw.mono{g h:G}(l:G.Le g h){n:Nat}{a:amy Addr}{cap:Nat}{tok:iA}(e:dw g n a cap tok):dw h n a cap tok:=by
 cases tok with
 |no=>trivial
 |eD=>exact e
 |tail j=>
  obtain⟨p,q,r⟩:=e;refine⟨l.dc j p,?_,?_⟩
  ·rcases l.tl j p with e|e
   ·rw[e];exact q
   ·omega
  ·rcases l.tl j p with e|e
   ·rw[e];exact r
   ·intro h;omega
mutual
theorem V.mono {g h:G} (l:G.Le g h):(x:AV)->(v:Value)->V g x v->V h x v
 |.bool b,v,e=>e
 |.int k n,v,e=>e
 |.an s,v,e=>e
 |.dY,v,e=>e
 |.ptr j off,v,e=>by
  simp only[V]at e |-;exact⟨l.dc j e.1,by rw[l.cg j e.1];exact e.2⟩
 |.aQ cs off,v,e=>by
  simp only[V]at e |-;obtain⟨b,o,vals,rfl,hv,hp⟩:=e;exact⟨b,o,vals,rfl,VL.mono l cs vals hv,hp.trans (ee (l.fz b) o)⟩
 |.sl sz tok xs,v,e=>by
  simp only[V]at e |-;obtain⟨a,cap,rfl,h1,h0,h2,h3,h4⟩:=e;refine⟨a,cap,rfl,h1,h0,λhx=>?_,h3,h4.mono l⟩;obtain⟨b,off,vals,rfl,hv,hp⟩:=h2 hx;exact⟨b,off,vals,rfl,VE.mono l sz xs vals hv,hp.trans (ee (l.fz b) off)⟩
 |.ms j sz n,v,e=>by
  simp only[V]at e |-;obtain⟨e0,a,cap,e1,e2,e3,e4,e5,e6⟩:=e;exact⟨l.dc j e0,a,cap,e1,e2,e3,by rw[l.cg j e0];exact e4,e5,e6.mono l⟩
 |.sub j sz lo n N,v,e=>by
  simp only[V]at e |-;obtain⟨e0,e1,e2,a,cap,e3,e4,e5,e6,e7,e9,e8⟩:=e;refine⟨l.dc j e0,e1,?_,a,cap,e3,e4,e5,by rw[l.cg j e0];exact e6,e7,by rw[l.cg j e0];exact e9,?_⟩
  ·rcases l.tl j e0 with q|q
   ·rw[q];exact e2
   ·omega
  ·rcases l.tl j e0 with q|q
   ·rw[q];exact e8
   ·intro h;omega
 |.dq,v,e=>e
 |.map j,v,e=>by
  simp only[V]at e |-;exact⟨l.dc j e.1,by rw[l.cg j e.1];exact e.2⟩
 |.fn f first acr,v,e=>by
  simp only[V]at e |-;obtain⟨a,b,rfl,h1,h2⟩:=e;exact⟨a,b,rfl,VL.mono l first _ h1,VL.mono l acr _ h2⟩
 |.cy,v,e=>e
 |.iface t x,v,e=>by
  simp only[V]at e |-;obtain⟨y,rfl,h1⟩:=e;exact⟨y,rfl,V.mono l x y h1⟩
 |.nilIface,v,e=>e
 |.agg cs,v,e=>by
  simp only[V]at e |-;obtain⟨a,rfl,h1⟩:=e;exact⟨a,rfl,VL.mono l cs _ h1⟩
 |.bR cs,v,e=>by
  simp only[V]at e |-;obtain⟨a,rfl,h1⟩:=e;exact⟨a,rfl,VL.mono l cs _ h1⟩
 |.any,v,e=>trivial
theorem VL.mono {g h:G} (l:G.Le g h):(xs:amx AV)->(vs:amx Value)->VL g xs vs->VL h xs vs
 | [],vs,e=>e
 |x::xs,vs,e=>by
  simp only[VL]at e |-;obtain⟨v,rest,rfl,h1,h2⟩:=e;exact⟨v,rest,rfl,V.mono l x v h1,VL.mono l xs rest h2⟩
theorem VE.mono {g h:G} (l:G.Le g h) (sz:Nat):(xs:amx AV)->(vs:amx Value)->VE g sz xs vs->VE h sz xs vs
 | [],vs,e=>e
 |x::xs,vs,e=>by
  simp only[VE]at e |-;obtain⟨v,rest,rfl,h0,h1,h2⟩:=e;exact⟨v,rest,rfl,h0,V.mono l x v h1,VE.mono l sz xs rest h2⟩
end
mutual
theorem V.under {g:G}:(x:AV)->(v:Value)->V g x v->x.under g.dc
 |.bool b,v,e=>trivial
 |.int k n,v,e=>trivial
 |.an s,v,e=>trivial
 |.dY,v,e=>trivial
 |.ptr j off,v,e=>by simp only[V]at e;simp only[AV.under];exact e.1
 |.aQ cs off,v,e=>by
  simp only[V]at e;simp only[AV.under];obtain⟨b,o,vals,rfl,hv,hp⟩:=e;exact VL.under cs vals hv
 |.sl sz tok xs,v,e=>by
  simp only[V]at e;simp only[AV.under];obtain⟨a,cap,rfl,h1,h0,h2,h3,h4⟩:=e;refine⟨by cases tok<;>first|trivial|exact h4.1,?_⟩;cases xs with
  |nil=>simp only[AV.bP]
  |cons y ys=>
   obtain⟨b,off,vals,rfl,hv,hp⟩:=h2 (by simp);exact VE.under sz _ vals hv
 |.ms j sz n,v,e=>by simp only[V]at e;simp only[AV.under];exact e.1
 |.sub j sz lo n N,v,e=>by simp only[V]at e;simp only[AV.under];exact e.1
 |.dq,v,e=>trivial
 |.map j,v,e=>by simp only[V]at e;simp only[AV.under];exact e.1
 |.fn f first acr,v,e=>by
  simp only[V]at e;simp only[AV.under];obtain⟨a,b,rfl,h1,h2⟩:=e;exact⟨VL.under first _ h1,VL.under acr _ h2⟩
 |.cy,v,e=>trivial
 |.iface t x,v,e=>by
  simp only[V]at e;simp only[AV.under];obtain⟨y,rfl,h1⟩:=e;exact V.under x y h1
 |.nilIface,v,e=>trivial
 |.agg cs,v,e=>by
  simp only[V]at e;simp only[AV.under];obtain⟨a,rfl,h1⟩:=e;exact VL.under cs _ h1
 |.bR cs,v,e=>by
  simp only[V]at e;simp only[AV.under];obtain⟨a,rfl,h1⟩:=e;exact VL.under cs _ h1
 |.any,v,e=>trivial
theorem VL.under {g:G}:(xs:amx AV)->(vs:amx Value)->VL g xs vs->AV.bP g.dc xs
 | [],vs,e=>trivial
 |x::xs,vs,e=>by
  simp only[VL]at e;simp only[AV.bP];obtain⟨v,rest,rfl,h1,h2⟩:=e;exact⟨V.under x v h1,VL.under xs rest h2⟩
theorem VE.under {g:G} (sz:Nat):(xs:amx AV)->(vs:amx Value)->VE g sz xs vs->AV.bP g.dc xs
 | [],vs,e=>trivial
 |x::xs,vs,e=>by
  simp only[VE]at e;simp only[AV.bP];obtain⟨v,rest,rfl,h0,h1,h2⟩:=e;exact⟨V.under x v h1,VE.under sz xs rest h2⟩
end
def G.cut(g:G)(S:Nm->Prop):G:={g with dc:=S}
mutual
theorem V.cut {g:G} {m:Nm->Prop}:(x:AV)->(v:Value)->V g x v->x.under m->V (g.cut m) x v
 |.bool b,v,e,u=>e
 |.int k n,v,e,u=>e
 |.an s,v,e,u=>e
 |.dY,v,e,u=>e
 |.ptr j off,v,e,u=>by simp only[V,AV.under]at e u |-;exact⟨u,e.2⟩
 |.aQ cs off,v,e,u=>by
  simp only[V,AV.under]at e u |-;obtain⟨b,o,vals,rfl,hv,hp⟩:=e;exact⟨b,o,vals,rfl,VL.cut cs vals hv u,hp⟩
 |.sl sz tok xs,v,e,u=>by
  simp only[V,AV.under]at e u |-;obtain⟨a,cap,rfl,h1,h0,h2,h3,h4⟩:=e;refine⟨a,cap,rfl,h1,h0,λhx=>?_,h3,by cases tok<;>first|exact h4|exact⟨u.1,h4.2⟩⟩;obtain⟨b,off,vals,rfl,hv,hp⟩:=h2 hx;exact⟨b,off,vals,rfl,VE.cut sz xs vals hv u.2,hp⟩
 |.ms j sz n,v,e,u=>by
  simp only[V,AV.under]at e u |-;obtain⟨e0,a,cap,e1,e2,e3,e4,e5,e6⟩:=e;exact⟨u,a,cap,e1,e2,e3,e4,e5,u,e6.2⟩
 |.sub j sz lo n N,v,e,u=>by simp only[V,AV.under]at e u |-;exact⟨u,e.2⟩
 |.dq,v,e,u=>e
 |.map j,v,e,u=>by simp only[V,AV.under]at e u |-;exact⟨u,e.2⟩
 |.fn f first acr,v,e,u=>by
  simp only[V,AV.under]at e u |-;obtain⟨a,b,rfl,h1,h2⟩:=e;exact⟨a,b,rfl,VL.cut first _ h1 u.1,VL.cut acr _ h2 u.2⟩
 |.cy,v,e,u=>e
 |.iface t x,v,e,u=>by
  simp only[V,AV.under]at e u |-;obtain⟨y,rfl,h1⟩:=e;exact⟨y,rfl,V.cut x y h1 u⟩
 |.nilIface,v,e,u=>e
 |.agg cs,v,e,u=>by
  simp only[V,AV.under]at e u |-;obtain⟨a,rfl,h1⟩:=e;exact⟨a,rfl,VL.cut cs _ h1 u⟩
 |.bR cs,v,e,u=>by
  simp only[V,AV.under]at e u |-;obtain⟨a,rfl,h1⟩:=e;exact⟨a,rfl,VL.cut cs _ h1 u⟩
 |.any,v,e,u=>trivial
theorem VL.cut {g:G} {m:Nm->Prop}:(xs:amx AV)->(vs:amx Value)->VL g xs vs->AV.bP m xs->VL (g.cut m) xs vs
 | [],vs,e,u=>e
 |x::xs,vs,e,u=>by
  simp only[VL,AV.bP]at e u |-;obtain⟨v,rest,rfl,h1,h2⟩:=e;exact⟨v,rest,rfl,V.cut x v h1 u.1,VL.cut xs rest h2 u.2⟩
theorem VE.cut {g:G} {m:Nm->Prop} (sz:Nat):(xs:amx AV)->(vs:amx Value)->VE g sz xs vs->AV.bP m xs->VE (g.cut m) sz xs vs
 | [],vs,e,u=>e
 |x::xs,vs,e,u=>by
  simp only[VE,AV.bP]at e u |-;obtain⟨v,rest,rfl,h0,h1,h2⟩:=e;exact⟨v,rest,rfl,h0,V.cut x v h1 u.1,VE.cut sz xs rest h2 u.2⟩
end
theorem VL.length{g:G}:(xs:amx AV)->(vs:amx Value)->VL g xs vs->vs.length=xs.length
 | [],vs,e=>by simp only[VL]at e;simp[e]
 |x::xs,vs,e=>by
  simp only[VL]at e;obtain⟨v,rest,rfl,h1,h2⟩:=e;simp[VL.length xs rest h2]
theorem VE.length{g:G}{sz:Nat}:(xs:amx AV)->(vs:amx Value)->VE g sz xs vs->vs.length=xs.length*sz
 | [],vs,e=>by simp only[VE]at e;simp[e]
 |x::xs,vs,e=>by
  simp only[VE]at e;obtain⟨v,rest,rfl,h0,h1,h2⟩:=e;have:=VE.length xs rest h2
  grind
def VL.get{g:G}:(xs:amx AV)->(vs:amx Value)->VL g xs vs->(i:Nat)->(x:AV)->xs[i]?=some x->∃v,vs[i]?=some v/\V g x v
 | [],vs,e,i,x,h=>by simp at h
 |y::xs,vs,e,i,x,h=>by
  simp only[VL]at e;obtain⟨v,rest,rfl,h1,h2⟩:=e;cases i with
  |zero=>simp at h;subst h;exact⟨v,rfl,h1⟩
  |succ i=>simpa using VL.get xs rest h2 i x (by simpa using h)
def VL.set{g:G}:(xs:amx AV)->(vs:amx Value)->VL g xs vs->(i:Nat)->(x:AV)->(v:Value)->V g x v->VL g (xs.set i x) (vs.set i v)
 | [],vs,e,i,x,v,h=>by simp only[VL]at e;simp[e,VL]
 |y::xs,vs,e,i,x,v,h=>by
  simp only[VL]at e;obtain⟨u,rest,rfl,h1,h2⟩:=e;cases i with
  |zero=>simp only[List.set_cons_zero,VL];exact⟨v,rest,rfl,h,h2⟩
  |succ i=>simp only[List.set_cons_succ,VL];exact⟨u,_,rfl,h1,VL.set xs rest h2 i x v h⟩
def VL.append{g:G}:(xs:amx AV)->(vs:amx Value)->VL g xs vs->(ys:amx AV)->(us:amx Value)->VL g ys us->VL g (xs++ys) (vs++us)
 | [],vs,e,ys,us,h=>by simp only[VL]at e;simpa[e]using h
 |x::xs,vs,e,ys,us,h=>by
  simp only[VL]at e;obtain⟨u,rest,rfl,h1,h2⟩:=e;simp only[anO,VL];exact⟨u,_,rfl,h1,VL.append xs rest h2 ys us h⟩
def VL.drop{g:G}:(n:Nat)->(xs:amx AV)->(vs:amx Value)->VL g xs vs->VL g (xs.drop n) (vs.drop n)
 |0,xs,vs,e=>by simpa using e
 |n+1,[],vs,e=>by simp only[VL]at e;simp[e,VL]
 |n+1,x::xs,vs,e=>by
  simp only[VL]at e;obtain⟨u,rest,rfl,h1,h2⟩:=e;simpa using VL.drop n xs rest h2
def VL.take{g:G}:(n:Nat)->(xs:amx AV)->(vs:amx Value)->VL g xs vs->VL g (xs.take n) (vs.take n)
 |0,xs,vs,e=>by simp[VL]
 |n+1,[],vs,e=>by simp only[VL]at e;simp[e,VL]
 |n+1,x::xs,vs,e=>by
  simp only[VL]at e;obtain⟨u,rest,rfl,h1,h2⟩:=e;simp only[aow,VL];exact⟨u,_,rfl,h1,VL.take n xs rest h2⟩
def VE.append{g:G}{sz:Nat}:(xs:amx AV)->(vs:amx Value)->VE g sz xs vs->(ys:amx AV)->(us:amx Value)->VE g sz ys us->VE g sz (xs++ys) (vs++us)
 | [],vs,e,ys,us,h=>by simp only[VE]at e;simpa[e]using h
 |x::xs,vs,e,ys,us,h=>by
  simp only[VE]at e;obtain⟨u,rest,rfl,h0,h1,h2⟩:=e;simp only[anO,VE];exact⟨u,rest++us,by simp,h0,h1,VE.append xs rest h2 ys us h⟩
def VE.dV{g:G}{sz:Nat}:(xs:amx AV)->(vs:amx Value)->VE g sz xs vs->∀v∈vs,v.oneCell'=true
 | [],vs,e=>by simp only[VE]at e;simp[e]
 |x::xs,vs,e=>by
  simp only[VE]at e;obtain⟨u,rest,rfl,h0,h1,h2⟩:=e;intro v hv;rcases amZ.1 hv with hv|hv
  ·exact h0.2 v hv
  ·exact VE.dV xs rest h2 v hv
def VE.drop{g:G}{sz:Nat}:(n:Nat)->(xs:amx AV)->(vs:amx Value)->VE g sz xs vs->VE g sz (xs.drop n) (vs.drop (n*sz))
 |0,xs,vs,e=>by simpa using e
 |n+1,[],vs,e=>by simp only[VE]at e;simp[e,VE]
 |n+1,x::xs,vs,e=>by
  simp only[VE]at e;obtain⟨u,rest,rfl,h0,h1,h2⟩:=e;have h0:=h0.1;simp only[aoQ]at h0;have:(n+1)*sz=u.cells.toList.length+n*sz:=by rw[h0];simp[am6,aoh]
  have e:(u.cells.toList++rest).drop (u.cells.toList.length+n*sz)=rest.drop (n*sz):=by
   rw[an3,Nat.add_sub_cancel_left,aoi (by omega),anP]
  rw[this,e];simpa using VE.drop n xs rest h2
def VE.take{g:G}{sz:Nat}:(n:Nat)->(xs:amx AV)->(vs:amx Value)->VE g sz xs vs->VE g sz (xs.take n) (vs.take (n*sz))
 |0,xs,vs,e=>by simp[VE]
 |n+1,[],vs,e=>by simp only[VE]at e;simp[e,VE]
 |n+1,x::xs,vs,e=>by
  simp only[VE]at e;obtain⟨u,rest,rfl,h0,h1,h2⟩:=e;have h0':=h0;have h0:=h0.1;simp only[aoQ]at h0;have:(n+1)*sz=u.cells.toList.length+n*sz:=by rw[h0];simp[am6,aoh]
  rw[this,List.take_append];simp only[aow,VE];refine⟨u,rest.take (n*sz),?_,h0',h1,VE.take n xs rest h2⟩;rw[aoR (by omega)];congr 2;omega
structure G.kW(S:Nm->Prop)(g h:G):Prop where
 cj:h.cj=g.cj
 w0:h.w0=g.w0
 fz:∀b,g.fz b<+:h.fz b
 dc:∀j,S j->g.dc j->h.dc j
 cg:∀j,S j->g.dc j->h.cg j=g.cg j
 tl:∀j,S j->g.dc j->h.tl j=g.tl j\/(g.tl j).n<(h.tl j).n
theorem G.Le.some{g h:G}(l:G.Le g h)(S:Nm->Prop):G.kW S g h:=⟨l.cj,l.w0,l.fz,λj _=>l.dc j,λj _=>l.cg j,λj _=>l.tl j⟩
def G.kW.all{S:Nm->Prop}{g h:G}(l:G.kW S g h)(hs:∀j,g.dc j->S j):G.Le g h:=⟨l.cj,l.w0,l.fz,λj hj=>l.dc j (hs j hj) hj,λj hj=>l.cg j (hs j hj) hj,λj hj=>l.tl j (hs j hj) hj⟩
theorem G.kW.refl(S:Nm->Prop)(g:G):G.kW S g g:=(G.Le.refl g).some S
theorem G.kW.trans{S:Nm->Prop}{a b c:G}(h:G.kW S a b)(k:G.kW S b c):G.kW S a c where
 cj:=k.cj.trans h.cj
 w0:=k.w0.trans h.w0
 fz x:=(h.fz x).trans (k.fz x)
 dc j hs hj:=k.dc j hs (h.dc j hs hj)
 cg j hs hj:=(k.cg j hs (h.dc j hs hj)).trans (h.cg j hs hj)
 tl j hs hj:=by
  rcases h.tl j hs hj with e|e<;>rcases k.tl j hs (h.dc j hs hj)with f|f
  ·exact .inl (f.trans e)
  ·exact .inr (by rw[e]at f;exact f)
  ·exact .inr (by rw[f];exact e)
  grind
def VL.sR{g h:G}(l:G.kW (λ_=>False) g h){xs:amx AV}{vs:amx Value}(e:VL g xs vs)(u:AV.bP (λ_=>False) xs):VL h xs vs:=by
 have h1:VL (g.cut λ_=>False) xs vs:=VL.cut _ _ e u;have l1:G.Le (g.cut λ_=>False) h:=⟨l.cj,l.w0,l.fz,λ_ h=>h.elim,λ_ h=>h.elim,λ_ h=>h.elim⟩
 grind [VL.mono]
inductive bk where
 |cells (cs:List AV)
 |tail (sz n:Nat)
 |map (es:List (AV×AV))
 |ot (s:ByteArray) (pos:Nat)
 |sJ (i:Nm)
 |br (sz:Nat) (xs:List AV)
 deriving Inhabited
abbrev Hp:=Nm->amy bk
def cE(hp:Hp)(j:Nm)(o:bk):Hp:=λi=>if i=j then some o else hp i
theorem aZ(hp:Hp)(j:Nm)(o:bk):cE hp j o j=some o:=by simp[cE]
theorem aT(hp:Hp){i j:Nm}(o:bk)(h:i≠j):cE hp j o i=hp i:=by simp[cE,h]
def cv(g:G):amx (AV×AV)->amx MapEntry->Prop
 | [],es=>es=[]
 |x::xs,es=>∃e rest,es=e::rest/\V g x.1 e.key/\V g x.2 e.val/\cv g xs rest
theorem cv.mono{g h:G}(l:G.Le g h):(xs:amx (AV×AV))->(es:amx MapEntry)->cv g xs es->cv h xs es
 | [],es,e=>e
 |x::xs,es,e=>by
  simp only[cv]at e |-;obtain⟨y,rest,rfl,h1,h2,h3⟩:=e;exact⟨y,rest,rfl,V.mono l _ _ h1,V.mono l _ _ h2,cv.mono l xs rest h3⟩
def cX(g:G)(j:Nm):bk->amy Nat
 |.cells _=>some (g.cg j)
 |.map _=>some (g.cg j)
 |.ot _ _=>some (g.cg j)
 |.sJ _=>some (g.cg j)
 |.br _ xs=>match xs with
  | []=>none
  |_::_=>some (g.cg j)
 |.tail _ _=>if(g.tl j).n<(g.tl j).cap then(g.tl j).a.map (·.block)else none
def BR(g:G)(j:Nm)(sz n m:Nat):Prop:=(g.tl j).n=n/\n<=(g.tl j).cap/\(g.tl j).a=some ⟨g.cg j,0,none⟩/\(g.tl j).cap*sz<=m
def dH(g:G)(w:World)(j:Nm):bk->Prop
 |.cells cs=>∃vs rest elem,VL g cs vs/\w.heap[g.cg j]?=some (.cells (vs++rest).toArray elem (0,0))/\g.fz (g.cg j)=[]
 |.tail sz n=>(g.tl j).n=n/\n<=(g.tl j).cap/\
  (n<(g.tl j).cap->∃b off,(g.tl j).a=some ⟨b,off,none⟩/\(g.fz b).length=off+n*sz/\
   ∃c elem,w.heap[b]?=some (.cells c elem (0,0))/\off+(g.tl j).cap*sz<=c.size)
 |.map es=>∃acz acC,cv g es acz.toList/\w.heap[g.cg j]?=some (.map acz acC)/\g.fz (g.cg j)=[]
 |.ot s pos=>w.heap[g.cg j]?=some (.stringIter s pos)/\g.fz (g.cg j)=[]
 |.sJ i=>g.dc i/\∃adT last,w.heap[g.cg j]?=some (.mapIter (some (g.cg i)) adT #[] last)/\g.fz (g.cg j)=[]
 |.br sz xs=>xs≠ []->∃vals rest elem,VE g sz xs vals/\w.heap[g.cg j]?=some (.cells (vals++rest).toArray elem (0,0))/\g.fz (g.cg j)=[]/\BR g j sz xs.length (vals.length+rest.length)
structure de(g:G)(w:World)(hp:Hp):Prop where
 dc:∀j,g.dc j↔(hp j).isSome=true
 hU:Below g.cj g.w0 w
 size:g.cj<=w.heap.size
 fz:∀b,g.fz b≠ []->∃c e fr,w.heap[b]?=some (.cells c e fr)/\g.fz b<+:c.toList
 eP:∀j o,hp j=some o->dH g w j o
 dI:∀j o b,hp j=some o->cX g j o=some b->g.cj<=b/\b<w.heap.size
 hX:∀i j o p b,hp i=some o->hp j=some p->cX g i o=some b->cX g j p=some b->i=j
def de.cM{g:G}{w:World}{hp:Hp}(r:de g w hp){j:Nm}{o:bk}(h:hp j=some o):g.dc j:=(r.dc j).2 (by simp[h])
def dH.kR{g h:G}{w w':World}{j:Nm}{o:bk}(l:G.Le g h)(hj:g.dc j)(ht:h.tl j=g.tl j)
 (hw:∀b,cX g j o=some b->w'.heap[b]?=w.heap[b]?/\h.fz b=g.fz b) (r:dH g w j o):dH h w' j o:=by
 cases o with
 |cells cs=>
  obtain⟨vs,rest,elem,h1,h2,h3⟩:=r;obtain⟨e1,e2⟩:=hw (g.cg j) rfl;refine⟨vs,rest,elem,VL.mono l _ _ h1,?_,?_⟩
  ·rw[l.cg j hj,e1];exact h2
  ·rw[l.cg j hj,e2];exact h3
 |tail sz n=>
  obtain⟨h1,h2,h3⟩:=r;refine⟨by rw[ht];exact h1,by rw[ht];exact h2,λhlt=>?_⟩;rw[ht]at hlt;obtain⟨b,off,k1,k2,c,elem,k3,k4⟩:=h3 hlt;obtain⟨e1,e2⟩:=hw b (by simp only[cX];rw[amH (by rw[h1];exact hlt),k1];rfl);exact⟨b,off,by rw[ht];exact k1,by rw[e2];exact k2,c,elem,by rw[e1];exact k3,by rw[ht];exact k4⟩
 |map es=>
  obtain⟨acz,acC,h1,h2,h3⟩:=r;obtain⟨e1,e2⟩:=hw (g.cg j) rfl;refine⟨acz,acC,cv.mono l _ _ h1,?_,?_⟩
  ·rw[l.cg j hj,e1];exact h2
  ·rw[l.cg j hj,e2];exact h3
 |ot s pos=>
  obtain⟨h2,h3⟩:=r;obtain⟨e1,e2⟩:=hw (g.cg j) rfl;refine⟨?_,?_⟩
  ·rw[l.cg j hj,e1];exact h2
  ·rw[l.cg j hj,e2];exact h3
 |sJ i=>
  obtain⟨hi,adT,last,h2,h3⟩:=r;obtain⟨e1,e2⟩:=hw (g.cg j) rfl;refine⟨l.dc i hi,adT,last,?_,?_⟩
  ·rw[l.cg j hj,e1,l.cg i hi];exact h2
  ·rw[l.cg j hj,e2];exact h3
 |br sz xs=>
  intro hne;obtain⟨vals,rest,elem,h1,h2,h3,h4⟩:=r hne;obtain⟨e1,e2⟩:=hw (g.cg j) (by cases xs with|nil=>exact absurd rfl hne|cons=>rfl);refine⟨vals,rest,elem,VE.mono l _ _ _ h1,?_,?_,?_⟩
  ·rw[l.cg j hj,e1];exact h2
  ·rw[l.cg j hj,e2];exact h3
  ·unfold BR;rw[ht,l.cg j hj];exact h4
def fy{g h:G}{j:Nm}(o:bk)(l:G.Le g h)(hj:g.dc j)(ht:h.tl j=g.tl j):cX h j o=cX g j o:=by
 cases o<;>simp[cX,l.cg j hj,ht]
def de.fH{g:G}{w:World}{hp:Hp}(r:de g w hp){b:Nat}(hb:g.fz b≠ []):b<w.heap.size:=by
 grind [r.fz,grind]
def fC{α:Type}{l:amx α}{i:Nat}{x:α}(h:l[i]?=some x):i<l.length:=(an5.1 h).1
def de.drew{g:G}{w:World}{hp:Hp}(r:de g w hp)(n:Nat):de g {w with drawn:=n} hp where
 dc:=r.dc
 hU:=⟨r.hU.os,r.hU.tape,r.hU.output,r.hU.size,r.hU.block⟩
 size:=r.size
 fz:=r.fz
 eP j o h:=by
  have:=r.eP j o h;cases o<;>exact this
 dI:=r.dI
 hX:=r.hX
def G.push(g:G)(j:Nm)(b:Nat):G:={g with dc:=λi=>i=j\/g.dc i,cg:=λi=>if i=j then b else g.cg i}
def G.dA(g:G){j:Nm}(b:Nat)(hj:¬g.dc j):G.Le g (g.push j b)where
 cj:=rfl
 w0:=rfl
 fz _:=anf
 dc i hi:=.inr hi
 cg i hi:=by simp only[G.push];rw[amL (λe=>hj (by rw[<-e];exact hi))]
 tl _ _:=.inl rfl
def fT(w:World)(o:Obj):(w.alloc o).heap[w.heap.size]?=some o:=by
 show(w.heap.push o)[w.heap.size]?=_
 simp
def de.cu{g:G}{w:World}{hp:Hp}(r:de g w hp){j:Nm}(h:hp j=none):¬g.dc j:=λe=>by
 grind [r.dc]
def de.alloc{g:G}{w:World}{hp:Hp}(r:de g w hp){j:Nm}(hj:hp j=none)(o:Obj)(ao:bk)(acs:cX (g.push j w.heap.size) j ao=some w.heap.size)
 (ho:dH (g.push j w.heap.size) (w.alloc o) j ao):de (g.push j w.heap.size) (w.alloc o) (cE hp j ao):=by
 have hle:=G.dA g (j:=j) w.heap.size (r.cu hj);have key:∀i p,cE hp j ao i=some p->(i=j/\p=ao)\/(i≠j/\hp i=some p):=by
  intro i p h;by_cases e:i=j
  ·subst e;rw[aZ]at h;simp at h;exact .inl ⟨rfl,h.symm⟩
  ·rw[aT _ _ e]at h;exact .inr ⟨e,h⟩
 have hown':∀i p,hp i=some p->cX (g.push j w.heap.size) i p=cX g i p:=λi p h=>fy p hle (r.cM h) rfl
 refine⟨λi=>?_,r.hU.alloc r.size o,anH r.size (by simp),?_,?_,?_,?_⟩
 ·by_cases e:i=j
  ·subst e;simp[G.push,cE]
  ·simp only[G.push,aT _ _ e,e,false_or];exact r.dc i
 ·intro b hb;obtain⟨c,e,fr,h,hp⟩:=r.fz b hb;exact⟨c,e,fr,by rw[an6 _ _ _ (r.fH hb)];exact h,hp⟩
 ·intro i p h;rcases key i p h with⟨rfl,rfl⟩|⟨hne,h⟩
  ·exact ho
  ·exact(r.eP i p h).kR hle (r.cM h) rfl λb hb=>⟨an6 _ _ _ (r.dI i p b h hb).2,rfl⟩
 ·intro i p b h hb;rcases key i p h with⟨rfl,rfl⟩|⟨hne,h⟩
  ·rw[acs]at hb;simp at hb;subst hb;exact⟨r.size,by simp⟩
  ·rw[hown' i p h]at hb;obtain⟨h1,h2⟩:=r.dI i p b h hb;exact⟨h1,by simp;omega⟩
 ·intro i k p q b hi hk hbi hbk;rcases key i p hi with⟨rfl,rfl⟩|⟨hne,h⟩<;>rcases key k q hk with⟨rfl,rfl⟩|⟨hne',h'⟩
  ·rfl
  ·rw[acs]at hbi;simp at hbi;subst hbi;rw[hown' k q h']at hbk;have:=(r.dI k q _ h' hbk).2;omega
  ·rw[acs]at hbk;simp at hbk;subst hbk;rw[hown' i p h]at hbi;have:=(r.dI i p _ h hbi).2;omega
  ·rw[hown' i p h]at hbi;rw[hown' k q h']at hbk;exact r.hX i k p q b h h' hbi hbk
def de.lg{g:G}{w:World}{hp:Hp}(r:de g w hp){j:Nm}(hj:hp j=none)(cs:amx AV)(vs:Array Value)(elem:TypeId)(hv:VL g cs vs.toList)
 (hz:g.fz w.heap.size=[]):de (g.push j w.heap.size) (w.alloc (.cells vs elem)) (cE hp j (.cells cs)):=by
 refine r.alloc hj _ _ (by simp[cX,G.push]) ⟨vs.toList,[],elem,VL.mono (G.dA g _ (r.cu hj)) _ _ hv,?_,?_⟩
 ·simp only[G.push,am0,aox];rw[fT]
 ·simpa[G.push]using hz
def de.hZ{g:G}{w:World}{hp:Hp}(r:de g w hp):g.fz w.heap.size=[]:=by
 apply anI;intro h;have:=r.fH h;omega
def G.cr(g:G)(b:Nat)(vs:amx Value):G:={g with fz:=λx=>if x=b then vs else g.fz x}
def G.gL{g:G}{b:Nat}{vs:amx Value}(h:g.fz b<+:vs):G.Le g (g.cr b vs)where
 cj:=rfl
 w0:=rfl
 fz x:=by
  grind [G.cr]
 dc _ h:=h
 cg _ _:=rfl
 tl _ _:=.inl rfl
def de.na{g:G}{w:World}{hp:Hp}(r:de g w hp)(vs:Array Value)(elem:TypeId):
 de (g.cr w.heap.size vs.toList) (w.alloc (.cells vs elem)) hp where
 dc:=r.dc
 hU:=r.hU.alloc r.size _
 size:=anH r.size (by simp)
 fz b hb:=by
  by_cases e:b=w.heap.size
  ·subst e;exact⟨vs,elem,(0,0),fT _ _,by simp[G.cr]⟩
  ·have hb':g.fz b≠ []:=by simpa[G.cr,e]using hb
   obtain⟨c,e',fr,h,hp⟩:=r.fz b hb';exact⟨c,e',fr,by rw[an6 _ _ _ (r.fH hb')];exact h,by simpa[G.cr,e]using hp⟩
 eP j p h:=by
  refine(r.eP j p h).kR (G.gL (by rw[r.hZ];exact anQ)) (r.cM h) rfl λb hb=>?_
  have hlt:=(r.dI j p b h hb).2;exact⟨an6 _ _ _ hlt,by simp[G.cr];omega⟩
 dI j p b h hb:=by
  have hb':cX g j p=some b:=by rw[<-hb];cases p<;>rfl
  obtain⟨h1,h2⟩:=r.dI j p b h hb';exact⟨h1,by simp;omega⟩
 hX i j p q b hi hj hbi hbj:=by
  have e1:cX g i p=some b:=by rw[<-hbi];cases p<;>rfl
  have e2:cX g j q=some b:=by rw[<-hbj];cases q<;>rfl
  exact r.hX i j p q b hi hj e1 e2
section
variable {P:Program}
def cQ(P:Program)(t:TypeId):amy Nat:=(P.info? t).map (·.size)
def fM(P:Program)(t:TypeId):amy amz:=(P.underlying t).map (·.isRow)
def jh{t:TypeId}{b:amz}(h:fM P t=some b)(w:World):(isAgg t).run P w= .ok b w:=by
 unfold fM at h;cases hu:P.underlying t with
 |none=>simp[hu]at h
 |some d=>
  simp[hu]at h;unfold isAgg;rw[amM,amI hu w];subst h;cases d<;>rfl
def dt{t:TypeId}{n:Nat}(h:cQ P t=some n)(w:World):(sizeOf t).run P w= .ok n w:=by
 unfold cQ at h;cases hu:P.info? t with
 |none=>simp[hu]at h
 |some d=>simp[hu]at h;simp[sizeOf,typeInfo,hu,h]
def cut(agg:amz)(n:Nat)(cs:amx AV)(off:Nat):amy AV:=if agg then(if off+n<=cs.length then some (.agg ((cs.drop off).take n))else none)else cs[off]?
def gf{α:Type}{xs ys:amx α}(h:xs<+:ys){i:Nat}{x:α}(hx:xs[i]?=some x):ys[i]?=some x:=by
 obtain⟨t,rfl⟩:=h
 grind
def iB{g:G}{w:World}{t:TypeId}{agg:amz}{n:Nat}(ha:fM P t=some agg)(hn:cQ P t=some n)
 {b o off:Nat} {c:Array Value} {elem:TypeId} {fr:Nat×Nat} (hb:w.heap[b]?=some (.cells c elem fr))
 {cs:amx AV} {vs:amx Value} (hv:VL g cs vs) (hp:vs<+:c.toList.drop o) {x:AV} (hx:cut agg n cs off=some x):
 ∃v,(loadVar t ⟨b,o+off,none⟩).run P w= .ok v w/\V g x v:=by
 have hcell:∀i v,vs[i]?=some v->w.cell? ⟨b,o+i,none⟩=some v:=by
  intro i v h;have:=gf hp h;simp[World.cell?,hb];simpa using this
 unfold cut at hx;cases agg with
 |true=>
  simp only[am0]at hx;split at hx
  ·rename_i hle;simp at hx;subst hx;have hlen:=VL.length _ _ hv;refine⟨.agg ((vs.drop off).take n).toArray,?_,?_⟩
   ·unfold fM at ha;cases hu:P.underlying t with
    |none=>simp[hu]at ha
    |some d=>
     simp[hu]at ha;refine run_loadVar_mid w b (o+off) t _ d (λj v h=>?_) hu ha ?_
     ·have hj:j<n:=by
       have:=fC h;simp at this;omega
      rw[List.getElem?_take_of_lt hj,an7]at h;have:=hcell _ _ h;rw[<-aoj]at this;exact this
     ·unfold cQ at hn;rw[hn];simp;omega
   ·simp only[V];exact⟨_,rfl,by simpa using VL.take n _ _ (VL.drop off _ _ hv)⟩
  ·simp at hx
 |false=>
  simp only[anY,anj]at hx;obtain⟨v,h1,h2⟩:=VL.get _ _ hv off x hx;refine⟨v,?_,h2⟩;simp only[loadVar,amM,jh ha,amN,anY,anj];simp[load,Sem.run,hcell off v h1]
def de.sS{g:G}{w:World}{hp:Hp}(r:de g w hp){t:TypeId}{agg:amz}{n:Nat}(ha:fM P t=some agg)(hn:cQ P t=some n)
 {j:Nm} {off:Nat} {cs:amx AV} (hj:hp j=some (.cells cs)) {x:AV} (hx:cut agg n cs off=some x):
 ∃v,(loadVar t ⟨g.cg j,off,none⟩).run P w= .ok v w/\V g x v:=by
 obtain⟨vs,rest,elem,hv,hb,_⟩:=r.eP j _ hj;have:=iB (P:=P) (o:=0) ha hn hb hv (by simp) hx;simpa using this
def de.ne{g:G}{w:World}{hp:Hp}(r:de g w hp){t:TypeId}{agg:amz}{n:Nat}(ha:fM P t=some agg)(hn:cQ P t=some n)
 {cs:amx AV} {off:Nat} {p:Value} (hp:V g (.aQ cs off) p) {x:AV} (hx:cut agg n cs off=some x) (hne:cs≠ []):
 ∃a v,p= .pointer (some a)/\(loadVar t a).run P w= .ok v w/\V g x v:=by
 simp only[V]at hp;obtain⟨b,o,vals,rfl,hv,ac8⟩:=hp;have hne':vals≠ []:=by
  intro h;subst h;have:=VL.length _ _ hv
  grind
 have hfz:g.fz b≠ []:=by
  grind
 obtain⟨c,e,fr,hb,hpc⟩:=r.fz b hfz;obtain⟨v,h1,h2⟩:=iB (P:=P) ha hn hb hv (ac8.trans (ee hpc o)) hx;exact⟨_,v,rfl,h1,h2⟩
end
section
variable {P:Program}
def AV.cells:AV->amx AV
 |.agg cs=>cs
 |x=>[x]
def AV.dV:AV->amz
 |.agg _|.bR _|.any=>false
 |_=>true
def V.dV{g:G}{x:AV}{v:Value}(h:V g x v)(hs:x.dV=true):v.oneCell'=true:=by
 cases x<;>simp[AV.dV]at hs<;>simp only[V]at h
 case bool=>subst h;rfl
 case int=>subst h;rfl
 case an=>subst h;rfl
 case dY=>subst h;rfl
 case ptr=>obtain⟨_,rfl⟩:=h;rfl
 case aQ=>obtain⟨_,_,_,rfl,_⟩:=h;rfl
 case sl=>obtain⟨_,_,rfl,_⟩:=h;rfl
 case ms=>obtain⟨_,_,_,rfl,_⟩:=h;rfl
 case sub=>obtain⟨_,_,_,_,_,rfl,_⟩:=h;rfl
 case dq=>subst h;rfl
 case map=>obtain⟨_,rfl⟩:=h;rfl
 case fn=>obtain⟨_,_,rfl,_⟩:=h;rfl
 case cy=>subst h;rfl
 case iface=>obtain⟨_,rfl,_⟩:=h;rfl
 case nilIface=>subst h;rfl
def VL.dV{g:G}:(xs:amx AV)->(vs:amx Value)->VL g xs vs->xs.all AV.dV=true->∀v∈vs,v.oneCell'=true
 | [],vs,e,_=>by simp only[VL]at e;simp[e]
 |x::xs,vs,e,hs=>by
  simp only[VL]at e;obtain⟨v,rest,rfl,h1,h2⟩:=e;simp only[List.all_cons,amC]at hs;intro u hu;rcases amE.1 hu with rfl|hu
  ·exact h1.dV hs.1
  ·exact VL.dV xs rest h2 hs.2 u hu
def V.cells{g:G}{x:AV}{v:Value}(h:V g x v)(hs:x.cells.all AV.dV=true):VL g x.cells v.cells.toList:=by
 cases x
 case agg cs=>simp only[V]at h;obtain⟨a,rfl,h⟩:=h;exact h
 case bR=>simp[AV.cells,AV.dV]at hs
 case any=>simp[AV.cells,AV.dV]at hs
 all_goals
  have h1:=h.dV (by simpa[AV.cells]using hs);have:v.cells.toList=[v]:=by cases v<;>simp_all[Value.cells,Value.oneCell']
  rw[this];simp only[AV.cells,VL];exact⟨v,[],rfl,h,rfl⟩
def eH(cs:amx AV)(off:Nat)(xs:amx AV):amx AV:=cs.take off++xs++cs.drop (off+xs.length)
def de.set{g:G}{w w':World}{hp:Hp}(r:de g w hp){j:Nm}{o o':bk}(hj:hp j=some o)(acs:cX g j o'=cX g j o)
 (hw:∀k,cX g j o≠some k->w'.heap[k]?=w.heap[k]?) (hs:w'.heap.size=w.heap.size) (ht:w'.tape=w.tape) (hos:w'.os=w.os) (afL:w'.output=w.output)
 (hfz:∀b,cX g j o=some b->g.fz b≠ []->∃c e fr,w'.heap[b]?=some (.cells c e fr)/\g.fz b<+:c.toList) (ho:dH g w' j o'):de g w' (cE hp j o'):=by
 have key:∀i p,cE hp j o' i=some p->(i=j/\p=o')\/(i≠j/\hp i=some p):=by
  intro i p h;by_cases e:i=j
  ·subst e;rw[aZ]at h;simp at h;exact .inl ⟨rfl,h.symm⟩
  ·rw[aT _ _ e]at h;exact .inr ⟨e,h⟩
 refine⟨λi=>?_,⟨hos.trans r.hU.os,ht.trans r.hU.tape,afL.trans r.hU.output,by rw[hs];exact r.hU.size,λk hk=>?_⟩,by rw[hs];exact r.size,?_,?_,?_,?_⟩
 ·by_cases e:i=j
  ·subst e;rw[aZ];simp[r.cM hj]
  ·rw[aT _ _ e];exact r.dc i
 ·rw[hw k ?_];exact r.hU.block k hk;intro h;have:=(r.dI j o k hj h).1;omega
 ·intro b hb;by_cases h:cX g j o=some b
  ·exact hfz b h hb
  ·obtain⟨c,e,fr,h1,h2⟩:=r.fz b hb;exact⟨c,e,fr,by rw[hw b h];exact h1,h2⟩
 ·intro i p h;rcases key i p h with⟨rfl,rfl⟩|⟨hne,h⟩
  ·exact ho
  ·refine(r.eP i p h).kR (G.Le.refl g) (r.cM h) rfl λb hb=>⟨?_,rfl⟩
   exact hw b λhb'=>hne (r.hX i j p o b h hj hb hb')
 ·intro i p b h hb;rw[hs];rcases key i p h with⟨rfl,rfl⟩|⟨hne,h⟩
  ·rw[acs]at hb;exact r.dI _ o b hj hb
  ·exact r.dI i p b h hb
 ·intro i k p q b hi hk hbi hbk;have agv:∀i p,cE hp j o' i=some p->cX g i p=some b->∃p',hp i=some p'/\cX g i p'=some b:=by
   grind
  obtain⟨p',h1,h2⟩:=agv i p hi hbi;obtain⟨q',h3,h4⟩:=agv k q hk hbk;exact r.hX i k p' q' b h1 h3 h2 h4
def de.As{g:G}{w:World}{hp:Hp}(r:de g w hp){t:TypeId}{n:Nat}(hn:cQ P t=some n)
 {j:Nm} {off:Nat} {cs:amx AV} (hj:hp j=some (.cells cs)) {x:AV} {v:Value} (hx:V g x v) (hs:x.cells.all AV.dV=true)
 (hl:x.cells.length=n) (hle:off+n<=cs.length):
 ∃w',(storeVar t ⟨g.cg j,off,none⟩ v).run P w= .ok () w'/\de g w' (cE hp j (.cells (eH cs off x.cells))):=by
 obtain⟨vs,rest,elem,hv,hb,hz⟩:=r.eP j _ hj;have hxc:=hx.cells hs;have hlen:=VL.length _ _ hxc;have hlv:=VL.length _ _ hv;have acO:=aok (P:=P) (g.cg j) off elem v.cells.toList 0 _ w hb (by simp at hlen |-;omega) (VL.dV _ _ hxc hs);have aeI:(storeVar t ⟨g.cg j,off,none⟩ v).run P w=(storeCells ⟨g.cg j,off,none⟩ v.cells.toList).run P w:=by
  simp only[storeVar,amM,dt hn,amN];rw[amL (by simp at hlen |-;omega)]
 refine⟨_,aeI.trans acO,?_⟩
 ·refine r.set hj (o':=.cells (eH cs off x.cells)) rfl (λk hk=>aol _ _ _ _ (λe=>hk (by simp[cX,e]))) (by simp[World.setRow]) rfl rfl rfl ?_ ?_
  ·intro b hb' hne;simp[cX]at hb';subst hb';exact absurd hz hne
  ·have aen:v.cells.toList.length=n:=by rw[hlen,hl]
   have ajR:off+n<=vs.length:=by rw[hlv];exact hle
   refine⟨vs.take off++v.cells.toList++vs.drop (off+x.cells.length),rest,elem,?_,?_,hz⟩
   ·exact VL.append _ _ (VL.append _ _ (VL.take off _ _ hv) _ _ hxc) _ _ (VL.drop _ _ _ hv)
   ·rw[aom w _ _ _ elem _ hb];have e1:(vs++rest).take off=vs.take off:=aoS (by omega);have e2:(vs++rest).drop (off+v.cells.toList.length)=vs.drop (off+x.cells.length)++rest:=by
     rw[aen,hl,aon (by omega)]
    simp only[anr,e1,e2];simp
end
section
variable {P:Program}
def de.sW{g:G}{w:World}{hp:Hp}(r:de g w hp){sz:Nat}{tok:iA}{xs:amx AV}{v:Value}(h:V g (.sl sz tok xs) v)(hne:xs≠ []):
 ∃b off cap vals,v= .slice (some ⟨b,off,none⟩) xs.length cap/\VE g sz xs vals/\vals<+:(g.fz b).drop off/\∀j u,vals[j]?=some u->w.cell? ((⟨b,off,none⟩:Addr).add j)=some u:=by
 simp only[V]at h;obtain⟨a,cap,rfl,h1,h0,h2,h3,h4⟩:=h;obtain⟨b,off,vals,rfl,hv,hp⟩:=h2 hne;refine⟨b,off,cap,vals,rfl,hv,hp,λj u hu=>?_⟩;have hne':vals≠ []:=by intro e;subst e;simp at hu
 have hfz:g.fz b≠ []:=by intro e;rw[e]at hp;simp at hp;exact hne' hp
 obtain⟨c,e,fr,hb,hpc⟩:=r.fz b hfz;have:=gf (hp.trans (ee hpc off)) hu;rw[am8];simp[World.cell?,hb];simpa using this
def fD{g:G}{w:World}{hp:Hp}(r:de g w hp){sz:Nat}{tok:iA}{xs:amx AV}{v:Value}(h:V g (.sl sz tok xs) v):
 ∃vals,VE g sz xs vals/\∀w':World,w'.heap=w.heap->(Builtin.firstCells sz xs.length v).run P w'= .ok vals.toArray w':=by
 by_cases hne:xs=[]
 ·subst hne;refine⟨[],by simp[VE],λw' _=>?_⟩;simp only[V]at h;obtain⟨a,cap,rfl,_⟩:=h;cases a<;>simp[Builtin.firstCells,loadCells,loadCellsFrom]
 ·obtain⟨b,off,cap,vals,rfl,hv,hp,hc⟩:=r.sW h hne;refine⟨vals,hv,λw' hw=>?_⟩;refine aoo (P:=P) w' sz _ _ _ _ vals (VE.length _ _ hv) λj u hu=>?_
  have:=hc j u hu;simpa[World.cell?,hw]using this
def G.tail(g:G)(j:Nm)(t:TI):G:={g with tl:=λi=>if i=j then t else g.tl i}
def G.qq{g:G}{j:Nm}{t:TI}(h:t=g.tl j\/(g.tl j).n<t.n):G.Le g (g.tail j t)where
 cj:=rfl
 w0:=rfl
 fz _:=anf
 dc _ h:=h
 cg _ _:=rfl
 tl i _:=by
  grind [G.tail]
def List.kX{α:Type}{a b:amx α}(h:a<+:b):a=b.take a.length:=by
 obtain⟨t,rfl⟩:=h;simp
structure lP(P:Program)(t e:TypeId)(sz bytes:Nat):Prop where
 under:P.underlying t=some (.slice e)
 mJ:∃i z,P.info? e=some i/\i.zero=some z/\i.size=sz/\i.bytes=bytes/\z.cells.size=sz
 pos:0<sz
def de.append{g:G}{w:World}{hp:Hp}(r:de g w hp){t ty e:TypeId}{sz bytes:Nat}(T:lP P t e sz bytes)
 {j:Nm} {n:Nat} (hj:hp j=some (.tail sz n)) {xs ys:amx AV} {tok:iA} {s x:Value} (hs:V g (.sl sz (.tail j) xs) s) (hn:xs.length=n)
 (hx:V g (.sl sz tok ys) x) (hb:(xs.length+ys.length)*bytes<=140737488355328) (hm:xs.length+ys.length<=4611686018427387904):
 ∃v w' g',(Builtin.append_ #[t,t] ty #[s,x]).run P w= .ok v w'/\G.Le g g'/\de g' w' (cE hp j (.tail sz (n+ys.length)))/\V g' (.sl sz (.tail j) (xs++ys)) v:=by
 obtain⟨i,z,hi,hz,aea,hib,hzs⟩:=T.mJ;subst hn aea hib;obtain⟨vals,acB,acL⟩:=fD (P:=P) r hx;obtain⟨ade,holds,ac6⟩:=fD (P:=P) r hs;have hvl:=VE.length _ _ acB;have hol:=VE.length _ _ holds;have hs0:=hs;have hx0:=hx;simp only[V]at hs hx;obtain⟨a,cap,rfl,hcap,acU,adU,acv,aeq⟩:=hs;obtain⟨xa,aer,rfl,afx,_,_,_,_⟩:=hx;obtain⟨hjn,_,htl⟩:=aeq;obtain⟨o1,o2,o4⟩:=r.eP j _ hj;obtain⟨ha,hc⟩:=htl o1;by_cases acI:xs.length+ys.length<=cap
 ·by_cases hye:ys=[]
  ·subst hye;refine⟨_,w,g,?_,G.Le.refl g,?_,by simpa using hs0⟩
   ·have hf:=acL w rfl;simp only[VE]at acB;subst acB;cases a<;>simp[Builtin.append_,amI T.under,sizeOf,typeInfo,hi,Builtin.lenOf,hcap]at hf ⊢<;>simp[hf,storeCells]
   ·have:cE hp j (.tail i.size (xs.length+([]:amx AV).length))=hp:=by
     funext k;by_cases e:k=j
     ·subst e;rw[aZ,hj];simp
     ·rw[aT _ _ e]
    rw[this];exact r
  ·have afy:0<ys.length:=ans.2 hye;obtain⟨b,off,k1,k2,c,elem,k3,k4⟩:=o4 (by omega);rw[k1]at ha;subst ha;have hst:=aok P b (off+xs.length*i.size) elem vals 0 c w k3 (by
    have:(xs.length+ys.length)*i.size<=cap*i.size:=anc _ acI;rw[am6]at this;rw[<-hc]at k4;omega) (VE.dV _ _ acB)
   simp only[anr]at hst;have acO:(Builtin.append_ #[t,t] ty #[.slice (some ⟨b,off,none⟩) xs.length cap,.slice xa ys.length aer]).run P w=
    .ok (.slice (some ⟨b,off,none⟩) (xs.length+ys.length) cap) (w.setRow b (c.toList.take (off+xs.length*i.size)++vals++c.toList.drop (off+xs.length*i.size+vals.length)).toArray):=by
    have hf:=acL w rfl;simp[Builtin.append_,amI T.under,sizeOf,typeInfo,hi,Builtin.lenOf,acI,hf,am8,hst]
   have ahL:g.fz b=c.toList.take (off+xs.length*i.size):=by
    by_cases hne:g.fz b=[]
    ·rw[hne]at k2 |-;simp at k2;simp[<-k2]
    ·obtain⟨c',e',fr',h1,h2⟩:=r.fz b hne;rw[k3]at h1;simp at h1;obtain⟨rfl,_,_⟩:=h1;rw[List.kX h2,k2]
   let g':G:=(g.cr b (g.fz b++vals)).tail j ⟨some ⟨b,off,none⟩,xs.length+ys.length,cap⟩
   have hle:G.Le g g':=by
    refine(G.gL (an4 _ _)).trans (G.qq ?_);right
    show(g.tl j).n<xs.length+ys.length
    omega
   have acs:∀p,cX g j p=cX g j p:=λ_=>rfl
   have hbj:cX g j (.tail i.size xs.length)=some b:=by simp only[cX];rw[amH (by omega),k1];rfl
   have adH:=r.dI j _ b hj hbj;refine⟨_,_,g',acO,hle,?_,?_⟩
   ·have aeK:(w.setRow b (c.toList.take (off+xs.length*i.size)++vals++c.toList.drop (off+xs.length*i.size+vals.length)).toArray).heap[b]?=some (.cells (c.toList.take (off+xs.length*i.size)++vals++c.toList.drop (off+xs.length*i.size+vals.length)).toArray elem (0,0)):=aom w b c _ elem _ k3;have adq:∀k,k≠b->(w.setRow b (c.toList.take (off+xs.length*i.size)++vals++c.toList.drop (off+xs.length*i.size+vals.length)).toArray).heap[k]?=w.heap[k]?:=λk hk=>aol w b k _ hk
    generalize hW:w.setRow b (c.toList.take (off+xs.length*i.size)++vals++c.toList.drop (off+xs.length*i.size+vals.length)).toArray=W at*;have hsz:W.heap.size=w.heap.size:=by rw[<-hW];simp[World.setRow]
    have hos:W.os=w.os:=by rw[<-hW];rfl
    have agy:W.tape=w.tape:=by rw[<-hW];rfl
    have afL:W.output=w.output:=by rw[<-hW];rfl
    have adr:∀k,k≠b->g'.fz k=g.fz k:=λk hk=>by simp[g',G.tail,G.cr,hk]
    have adi:g'.fz b=g.fz b++vals:=by simp[g',G.tail,G.cr]
    have aeL:∀k,k≠j->g'.tl k=g.tl k:=λk hk=>by simp[g',G.tail,G.cr,hk]
    have acY:g'.tl j=⟨some ⟨b,off,none⟩,xs.length+ys.length,cap⟩:=by simp[g',G.tail]
    have hownj:∀k p d,cE hp j (.tail i.size (xs.length+ys.length)) k=some p->cX g' k p=some d->∃p',hp k=some p'/\cX g k p'=some d:=by
     intro k p d hk hd;by_cases hne:k=j
     ·subst hne;rw[aZ]at hk
      ·simp at hk;subst hk;refine⟨_,hj,?_⟩;simp only[cX,acY]at hd;split at hd
       ·simp at hd;subst hd;exact hbj
       ·simp at hd
     ·rw[aT _ _ hne]at hk;refine⟨p,hk,?_⟩;rw[<-hd];cases p<;>simp[cX,aeL k hne]<;>rfl
    refine⟨λk=>?_,?_,by rw[hsz];exact r.size,?_,?_,?_,?_⟩
    ·show g.dc k↔_
     by_cases hne:k=j
     ·subst hne;rw[aZ];simp[hjn]
     ·rw[aT _ _ hne];exact r.dc k
    ·exact⟨hos.trans r.hU.os,agy.trans r.hU.tape,afL.trans r.hU.output,by rw[hsz];exact r.hU.size,λk hk=>by
      rw[adq k (λe=>by subst e;have:=adH.1;exact absurd hk (Nat.not_lt.2 this))];exact r.hU.block k hk⟩
    ·intro k hk;by_cases e:k=b
     ·subst e;refine⟨_,_,_,aeK,?_⟩;rw[adi,ahL];simp only[aoy];exact List.prefix_append_right_inj _ |>.2 (an4 _ _)
     ·rw[adr k e]at hk |-;obtain⟨c',e',fr',h1,h2⟩:=r.fz k hk;exact⟨c',e',fr',by rw[adq k e];exact h1,h2⟩
    ·intro k p hk;by_cases hne:k=j
     ·subst hne;rw[aZ]at hk
      ·simp at hk;subst hk;refine⟨by rw[acY],by rw[acY];exact acI,λ_=>⟨b,off,by rw[acY],?_,_,_,aeK,?_⟩⟩
       ·rw[adi];rw[amO,k2,hvl,am6];omega
       ·rw[acY];rw[<-hc]at k4;have:(xs.length+ys.length)*i.size<=cap*i.size:=anc _ acI;rw[am6]at this;simp only[List.size_toArray,amO,ant,anR,anJ];omega
     ·rw[aT _ _ hne]at hk;refine(r.eP k p hk).kR hle (r.cM hk) (aeL k hne) λd hd=>?_
      have hdb:d≠b:=by
       intro e;subst e;exact hne (r.hX k j p _ d hk hj hd hbj)
      exact⟨adq d hdb,adr d hdb⟩
    ·intro k p d hk hd;obtain⟨p',h1,h2⟩:=hownj k p d hk hd;rw[hsz];exact r.dI k p' d h1 h2
    ·intro k l p q d hk hl hdk hdl;obtain⟨p',h1,h2⟩:=hownj k p d hk hdk;obtain⟨q',h3,h4⟩:=hownj l q d hl hdl;exact r.hX k l p' q' d h1 h3 h2 h4
   ·simp only[V];refine⟨some ⟨b,off,none⟩,cap,by simp,by simp only[amO];exact⟨acI,hm⟩,by simp,λhne=>?_,by simp,?_⟩
    ·refine⟨b,off,ade++vals,rfl,VE.append _ _ (VE.mono hle _ _ _ holds) _ _ (VE.mono hle _ _ _ acB),?_⟩;have adi:g'.fz b=g.fz b++vals:=by simp[g',G.tail,G.cr]
     rw[adi];by_cases hxe:xs=[]
     ·subst hxe;simp only[VE]at holds;subst holds;simp only[amB,Nat.zero_mul,anr]at k2;rw[aon (by omega),aoi (by omega)];exact anf
     ·obtain⟨b',ajS,aeM,hbb,hve,ac8⟩:=adU hxe;simp at hbb;obtain⟨rfl,rfl⟩:=hbb;have e1:aeM=(g.fz b).drop off:=by
       rw[List.kX ac8,VE.length _ _ hve];rw[aoR];simp;omega
      have e2:ade=aeM:=by
       have hf0:=ac6 w rfl;have:=aoo (P:=P) w i.size xs.length ⟨b,off,none⟩ xs.length cap aeM (VE.length _ _ hve) (λq u hu=>by
        obtain⟨c',e',fr',h1,h2⟩:=r.fz b (by intro e;rw[e]at ac8;simp at ac8;subst ac8;simp at hu);have:=gf (ac8.trans (ee h2 off)) hu;rw[am8];simp[World.cell?,h1];simpa using this)
       rw[this]at hf0;simp at hf0;exact hf0.symm
      rw[e2,e1];rw[aon (by omega)];exact anf
    ·refine⟨?_,?_,λ_=>?_⟩
     ·show g.dc j;exact hjn
     ·simp[g',G.tail]
     ·simp[g',G.tail]
 ·
  have adV:cap<xs.length+ys.length:=by omega
  have afM:=growslice_fits adV hb;have aeN:¬(9223372036854775807<((xs.length:Int)+(ys.length:Int))):=by omega
  have aeO:¬(281474976710656<Builtin.nextslicecap (xs.length+ys.length) cap*i.bytes):=by omega
  let nc:=grownCap w (xs.length+ys.length) cap e
  let row:Array Value:=ade.toArray++vals.toArray++Builtin.zeroCells z.cells (nc - (xs.length+ys.length))
  have acO:(Builtin.append_ #[t,t] ty #[.slice a xs.length cap,.slice xa ys.length aer]).run P w=
   .ok (.slice (some ⟨w.heap.size,0,none⟩) (xs.length+ys.length) nc) (w.drew.alloc (.cells row e)):=by
   have hf:=acL w.drew rfl;have hfo:=ac6 w.drew rfl;simp[Builtin.append_,amI T.under,sizeOf,typeInfo,zeroValue,hi,hz,Builtin.lenOf,acI,aeN,aeO,Question.forced,hf,hfo,newRow,grownCap,nc,row]
  have hnc:xs.length+ys.length<=nc:=grownCap_ge w _ _ _;have hrow:row.toList=(ade++vals)++(Builtin.zeroCells z.cells (nc - (xs.length+ys.length))).toList:=by simp[row]
  have afO:row.size=nc*i.size:=by
   have h1:=anB List.length hrow;rw[anJ]at h1;rw[h1];simp only[amO,anJ,size_zeroCells,hzs,hol,hvl,<-am6];congr 1;omega
  have r1:=(r.drew (w.drawn+1)).na row e;have hz0:g.fz w.heap.size=[]:=r.hZ
  let g':G:=(g.cr w.heap.size (ade++vals)).tail j ⟨some ⟨w.heap.size,0,none⟩,xs.length+ys.length,nc⟩
  have afy:0<ys.length:=by omega
  have hle:G.Le g g':=by
   refine(G.gL (by rw[hz0];exact anQ)).trans (G.qq (.inr ?_))
   show(g.tl j).n<xs.length+ys.length
   omega
  have adr:∀k,k≠w.heap.size->g'.fz k=g.fz k:=λk hk=>by simp[g',G.tail,G.cr,hk]
  have adi:g'.fz w.heap.size=ade++vals:=by simp[g',G.tail,G.cr]
  have aeL:∀k,k≠j->g'.tl k=g.tl k:=λk hk=>by simp[g',G.tail,G.cr,hk]
  have acY:g'.tl j=⟨some ⟨w.heap.size,0,none⟩,xs.length+ys.length,nc⟩:=by simp[g',G.tail]
  have acs:∀k p,cE hp j (.tail i.size (xs.length+ys.length)) k=some p->∀d,cX g' k p=some d->(k=j/\d=w.heap.size)\/(hp k=some p/\k≠j/\cX g k p=some d):=by
   intro k p hk d hd;by_cases hne:k=j
   ·subst hne;rw[aZ]at hk
    ·simp at hk;subst hk;simp only[cX,acY]at hd;split at hd
     ·simp at hd;exact .inl ⟨rfl,hd.symm⟩
     ·simp at hd
   ·rw[aT _ _ hne]at hk;refine .inr ⟨hk,hne,?_⟩;rw[<-hd];cases p<;>simp[cX,aeL k hne]<;>rfl
  refine⟨_,_,g',acO,hle,⟨λk=>?_,r1.hU,r1.size,?_,?_,?_,?_⟩,?_⟩
  ·show g.dc k↔_
   by_cases hne:k=j
   ·subst hne;rw[aZ];simp[hjn]
   ·rw[aT _ _ hne];exact r.dc k
  ·intro k hk;by_cases e1:k=w.heap.size
   ·subst e1;refine⟨row,e,(0,0),fT w.drew _,?_⟩;rw[adi,hrow];exact an4 _ _
   ·rw[adr k e1]at hk |-;obtain⟨c',e',fr',h1,h2⟩:=r.fz k hk;refine⟨c',e',fr',?_,h2⟩;rw[an6 w.drew _ _ (r.fH hk)];exact h1
  ·intro k p hk;by_cases hne:k=j
   ·subst hne;rw[aZ]at hk
    ·simp at hk;subst hk;refine⟨by rw[acY],by rw[acY];exact hnc,λ_=>⟨w.heap.size,0,by rw[acY],?_,row,e,fT w.drew _,?_⟩⟩
     ·rw[adi,amO,hol,hvl,am6];omega
     ·rw[acY];simp only[afO];omega
   ·rw[aT _ _ hne]at hk;refine(r.eP k p hk).kR hle (r.cM hk) (aeL k hne) λd hd=>?_
    have hlt:=(r.dI k p d hk hd).2;exact⟨an6 w.drew _ _ hlt,adr d (by omega)⟩
  ·intro k p d hk hd;have hsz:(w.drew.alloc (.cells row e)).heap.size=w.heap.size+1:=by simp
   rw[hsz];rcases acs k p hk d hd with⟨_,rfl⟩|⟨h1,_,h3⟩
   ·exact⟨r.size,by omega⟩
   ·have:=r.dI k p d h1 h3;exact⟨this.1,by omega⟩
  ·intro k l p q d hk hl hdk hdl;rcases acs k p hk d hdk with⟨e1,e2⟩|⟨h1,h2,h3⟩<;>rcases acs l q hl d hdl with⟨e3,e4⟩|⟨h4,h5,h6⟩
   ·rw[e1,e3]
   ·have:=(r.dI l q d h4 h6).2;omega
   ·have:=(r.dI k p d h1 h3).2;omega
   ·exact r.hX k l p q d h1 h4 h3 h6
  ·simp only[V];refine⟨some ⟨w.heap.size,0,none⟩,nc,by simp,by simp only[amO];exact⟨hnc,hm⟩,by simp,λhne=>?_,by simp,?_⟩
   ·refine⟨_,0,ade++vals,rfl,VE.append _ _ (VE.mono hle _ _ _ holds) _ _ (VE.mono hle _ _ _ acB),?_⟩;rw[adi];simp
   ·refine⟨?_,?_,λ_=>?_⟩
    ·show g.dc j;exact hjn
    ·simp[acY]
    ·simp[acY]
end
end Go.Ab

/- What the row names. -/
import Derived.Deep.DeepHandedRow
import Derived.Deep.DeepWitnessRowRef
import Derived.KernelRfl
import Derived.Stop.Joined
import Derived.WideWitness
import Derived.Test.YtlahelaeeahggaaGreatDoorR1
set_option linter.all false
open Go Go.RowKit Go.Proofs
namespace Go.Ab
section
set_option maxRecDepth 100000
open Go Go.RowKit Go.Proofs Go.Proofs.YtlahelaeeahggaaGreatDoor
def tk0(t:TypeId):funcToken Tryz.prog (t,.func (.func 526) #[] #[])=[115,99,104,101,109,97,108,101,110,115,47,108,101,110,115,46,114,101,110,97,109,101,84,97,98,108,101]:=by kernel_rfl
def tk1(t:TypeId):funcToken Tryz.prog (t,.func (.func 527) #[] #[])=[115,99,104,101,109,97,108,101,110,115,47,108,101,110,115,46,114,101,110,97,109,101,100,84,97,98,108,101]:=by kernel_rfl
def tk2(t:TypeId):funcToken Tryz.prog (t,.func (.func 528) #[] #[])=[115,99,104,101,109,97,108,101,110,115,47,108,101,110,115,46,111,108,100,84,97,98,108,101]:=by kernel_rfl
def tk3(t:TypeId):funcToken Tryz.prog (t,.func (.func 529) #[] #[])=[115,99,104,101,109,97,108,101,110,115,47,108,101,110,115,46,114,101,110,97,109,101,67,111,108,117,109,110]:=by kernel_rfl
def tk4(t:TypeId):funcToken Tryz.prog (t,.func (.func 530) #[] #[])=[115,99,104,101,109,97,108,101,110,115,47,108,101,110,115,46,114,101,110,97,109,101,100,67,111,108,117,109,110]:=by kernel_rfl
def tk5(t:TypeId):funcToken Tryz.prog (t,.func (.func 531) #[] #[])=[115,99,104,101,109,97,108,101,110,115,47,108,101,110,115,46,111,108,100,67,111,108,117,109,110]:=by kernel_rfl
def tk6(t:TypeId):funcToken Tryz.prog (t,.func (.func 532) #[] #[])=[115,99,104,101,109,97,108,101,110,115,47,108,101,110,115,46,97,100,100,67,111,108,117,109,110]:=by kernel_rfl
def tk7(t:TypeId):funcToken Tryz.prog (t,.func (.func 533) #[] #[])=[115,99,104,101,109,97,108,101,110,115,47,108,101,110,115,46,97,100,100,101,100,67,111,108,117,109,110]:=by kernel_rfl
def tk8(t:TypeId):funcToken Tryz.prog (t,.func (.func 534) #[] #[])=[115,99,104,101,109,97,108,101,110,115,47,108,101,110,115,46,119,105,116,104,111,117,116,67,111,108,117,109,110]:=by kernel_rfl
def tk9(t:TypeId):funcToken Tryz.prog (t,.func (.func 535) #[] #[])=[115,99,104,101,109,97,108,101,110,115,47,108,101,110,115,46,115,112,108,105,116]:=by kernel_rfl
def YI(t:TypeId):funcToken Tryz.prog (t,.func (.func 536) #[] #[])=[115,99,104,101,109,97,108,101,110,115,47,108,101,110,115,46,115,112,108,105,116,82,111,119,115]:=by kernel_rfl
def YJ(t:TypeId):funcToken Tryz.prog (t,.func (.func 537) #[] #[])=[115,99,104,101,109,97,108,101,110,115,47,108,101,110,115,46,106,111,105,110]:=by kernel_rfl
def YK(t:TypeId):funcToken Tryz.prog (t,.func (.func 538) #[] #[])=[115,99,104,101,109,97,108,101,110,115,47,108,101,110,115,46,109,101,114,103,101]:=by kernel_rfl
def YL(t:TypeId):funcToken Tryz.prog (t,.func (.func 539) #[] #[])=[115,99,104,101,109,97,108,101,110,115,47,108,101,110,115,46,109,101,114,103,101,82,111,119,115]:=by kernel_rfl
def YM(t:TypeId):funcToken Tryz.prog (t,.func (.func 540) #[] #[])=[115,99,104,101,109,97,108,101,110,115,47,108,101,110,115,46,117,110,109,101,114,103,101]:=by kernel_rfl
def YN(t:TypeId):funcToken Tryz.prog (t,.func (.func 541) #[] #[])=[115,99,104,101,109,97,108,101,110,115,47,108,101,110,115,46,116,97,98,108,101]:=by kernel_rfl
def YO(t:TypeId):funcToken Tryz.prog (t,.func (.func 542) #[] #[])=[115,99,104,101,109,97,108,101,110,115,47,108,101,110,115,46,116,97,98,108,101,82,111,119,115]:=by kernel_rfl
def YP(t:TypeId):funcToken Tryz.prog (t,.func (.func 543) #[] #[])=[115,99,104,101,109,97,108,101,110,115,47,108,101,110,115,46,119,105,116,104,111,117,116,84,97,98,108,101]:=by kernel_rfl
def YQ(t:TypeId):funcToken Tryz.prog (t,.func (.func 544) #[] #[])=[115,99,104,101,109,97,108,101,110,115,47,108,101,110,115,46,115,117,109]:=by kernel_rfl
def YR(t:TypeId):funcToken Tryz.prog (t,.func (.func 545) #[] #[])=[115,99,104,101,109,97,108,101,110,115,47,108,101,110,115,46,115,117,109,82,111,119,115]:=by kernel_rfl
def YS(t:TypeId):funcToken Tryz.prog (t,.func (.func 546) #[] #[])=[115,99,104,101,109,97,108,101,110,115,47,108,101,110,115,46,111,108,100,83,117,109]:=by kernel_rfl
def YT(t:TypeId):funcToken Tryz.prog (t,.func (.func 547) #[] #[])=[115,99,104,101,109,97,108,101,110,115,47,108,101,110,115,46,114,101,107,101,121]:=by kernel_rfl
def YU(t:TypeId):funcToken Tryz.prog (t,.func (.func 548) #[] #[])=[115,99,104,101,109,97,108,101,110,115,47,108,101,110,115,46,114,101,107,101,121,82,111,119,115]:=by kernel_rfl
def YV(t:TypeId):funcToken Tryz.prog (t,.func (.func 549) #[] #[])=[115,99,104,101,109,97,108,101,110,115,47,108,101,110,115,46,111,108,100,75,101,121,115]:=by kernel_rfl
end
section
set_option maxRecDepth 100000
open Go Go.RowKit Go.Proofs Go.Proofs.YtlahelaeeahggaaGreatDoor
def Sw:DataW Unit->List Value
 |.lit (.int k n)=>[.int k n]
 |.lit (.string s)=>[.string ⟨s.toArray⟩]
 |_=>[]
def vP:DataW Unit->List Value
 |.agg ps=>ps.flatMap λ
  |.agg qs=>qs.flatMap Sw
  |d=>Sw d
 |_=>[]
def Ap:Array Value:=((List.range 24).map λk=>Value.func (.func (526+k)) #[] #[]).toArray
def pP(h:Array Obj)(k:Nat)(c:Array Value):Array Obj:=h.modify k λ
 |.cells _ t fr=>.cells c t fr
 |o=>o
noncomputable def qp(os:Os):World:=
 let w:=World.holding Tryz.prog os ⟨#[],#[],[]⟩
 let n:=w.heap.size
 let h:=pP w.heap 0 Ap
 let h:=pP h 1 (vP Rows.laid_schemalens_lexer_keywords).toArray
 let h:=pP h 2 (vP Rows.laid_internal_strconv_uint64pow10).toArray
 let h:=pP h 3 (vP Rows.laid_unicode_utf8_first).toArray
 let h:=pP h 4 (vP Rows.laid_unicode_utf8_acceptRanges).toArray
 let h:=pP h 5 #[.iface 477 (.pointer (some ⟨n,0,none⟩))]
 let h:=pP h 6 #[.iface 477 (.pointer (some ⟨n+1,0,none⟩))]
 let h:=pP h 7 (vP Rows.laid_math_bits_deBruijn32tab).toArray
 let h:=pP h 8 (vP Rows.laid_math_bits_deBruijn64tab).toArray
 let h:=pP h 9 (vP Rows.laid_schemalens_lexer_symbols).toArray
 {w with heap:=h++#[.cells #[.string ⟨#[105,110,118,97,108,105,100,32,115,121,110,116,97,120]⟩] 479 (0,0),.cells #[.string ⟨#[118,97,108,117,101,32,111,117,116,32,111,102,32,114,97,110,103,101]⟩] 479 (0,0)]}
noncomputable abbrev mH(os:Os):World:=(qp os).forCall (λ_ _=>0) ⟨#[],#[.slice none 0 0,.slice none 0 0,.slice none 0 0,.slice none 0 0,.int .i64 0],[]⟩
def NK(os:Os):(DataW.laidRun Tryz.prog (mH os).memory 8 ((Rows.translateExprsRow.laid.filter λx=>x.2.handleName?.isNone).map (·.1))).map (·.1)=some (Rows.translateExprsRow.laid.filter λx=>x.2.handleName?.isNone):=by kernel_rfl
def Sx(os:Os):(DataW.laidRun Tryz.prog (mH os).memory 8 ((Rows.translateExprsRow.laid.filter λx=>x.2.handleName?.isNone).map (·.1))).map (λx=>decide x.2.Nodup&&laidRowsB Tryz.prog (mH os).memory x.2)=some true:=by kernel_rfl
def J4(os:Os):(mH os).variablesRefB Tryz.prog=true:=by kernel_rfl
def J5(os:Os):((mH os).heap.toList.drop Tryz.prog.globals.size).take ((begin Tryz.prog (λ_ _=>0) default).world.heap.size - Tryz.prog.globals.size)=
 (begin Tryz.prog (λ_ _=>0) default).world.heap.toList.drop Tryz.prog.globals.size:=by kernel_rfl
def Sy(os:Os):Input.okWideB Tryz.prog (mH os) 3 ⟨#[],#[.slice none 0 0,.slice none 0 0,.slice none 0 0,.slice none 0 0,.int .i64 0],[]⟩=true:=by kernel_rfl
def NL(os:Os):(mH os).memory.var? Tryz.prog "schemalens/lens.kinds"=some Ap:=by kernel_rfl
end
section
set_option maxRecDepth 100000
open Go Go.RowKit Go.Proofs Go.Proofs.YtlahelaeeahggaaGreatDoor
def Aq:List Value:=(List.range 24).map λk=>Value.func (.func (526+k)) #[] #[]
def Ar(e:TypeId×Value->List UInt8):DataW (List UInt8):=.agg [.agg [.held (e (202,.func (.func 526) #[] #[])),.held (e (203,.func (.func 527) #[] #[])),.held (e (204,.func (.func 528) #[] #[]))],.agg [.held (e (202,.func (.func 529) #[] #[])),.held (e (203,.func (.func 530) #[] #[])),.held (e (204,.func (.func 531) #[] #[]))],.agg [.held (e (202,.func (.func 532) #[] #[])),.held (e (203,.func (.func 533) #[] #[])),.held (e (204,.func (.func 534) #[] #[]))],.agg [.held (e (202,.func (.func 535) #[] #[])),.held (e (203,.func (.func 536) #[] #[])),.held (e (204,.func (.func 537) #[] #[]))],.agg [.held (e (202,.func (.func 538) #[] #[])),.held (e (203,.func (.func 539) #[] #[])),.held (e (204,.func (.func 540) #[] #[]))],.agg [.held (e (202,.func (.func 541) #[] #[])),.held (e (203,.func (.func 542) #[] #[])),.held (e (204,.func (.func 543) #[] #[]))],.agg [.held (e (202,.func (.func 544) #[] #[])),.held (e (203,.func (.func 545) #[] #[])),.held (e (204,.func (.func 546) #[] #[]))],.agg [.held (e (202,.func (.func 547) #[] #[])),.held (e (203,.func (.func 548) #[] #[])),.held (e (204,.func (.func 549) #[] #[]))]]
def Sz(e:TypeId×Value->List UInt8)(w:World):DataW.trod e Tryz.prog w 0 (λ_=>true) true 4 207 Aq=some (Ar e,[]):=by kernel_rfl
abbrev vQ:DataW Unit:=match(Rows.laid_schemalens_lens_kinds:DataW Unit)with
 |.iface _ d=>d
 |d=>d
def KN:Ar (funcToken Tryz.prog)=vQ.funcsOut:=by
 simp only[Ar,tk0,tk1,tk2,tk3,tk4,tk5,tk6,tk7,tk8,tk9,YI,YJ,YK,YL,YM,YN,YO,YP,YQ,YR,YS,YT,YU,YV]
 kernel_rfl
def J6{w:World}{cs:Array Value}(hv:w.var? Tryz.prog "schemalens/lens.kinds"=some cs)(hc:cs.toList=Aq):funcsAt Tryz.prog w "schemalens/lens.kinds" vQ:=⟨0,207,cs,4,[],by kernel_rfl,by kernel_rfl,hv,by rw[hc,Sz,KN]⟩
end
end Go.Ab

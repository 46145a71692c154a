/- What the row names. -/
import Derived.Deep.DeepHandedRow
import Derived.Deep.DeepWitnessRowRef
import Derived.KernelRfl
import Derived.Stop.Joined
import Derived.WideWitness
import Derived.Test.YtoknehglgeiopaaGreatDoorR1
set_option linter.all false
open Go Go.RowKit Go.Proofs
namespace Go.Ab
section
set_option maxRecDepth 100000
open Go Go.RowKit Go.Proofs Go.Proofs.YtoknehglgeiopaaGreatDoor
def tk0(t:TypeId):funcToken Tryz.prog (t,.func (.func 538) #[] #[])=[115,99,104,101,109,97,108,101,110,115,47,108,101,110,115,46,114,101,110,97,109,101,84,97,98,108,101]:=by kernel_rfl
def tk1(t:TypeId):funcToken Tryz.prog (t,.func (.func 539) #[] #[])=[115,99,104,101,109,97,108,101,110,115,47,108,101,110,115,46,114,101,110,97,109,101,100,84,97,98,108,101]:=by kernel_rfl
def tk2(t:TypeId):funcToken Tryz.prog (t,.func (.func 540) #[] #[])=[115,99,104,101,109,97,108,101,110,115,47,108,101,110,115,46,111,108,100,84,97,98,108,101]:=by kernel_rfl
def tk3(t:TypeId):funcToken Tryz.prog (t,.func (.func 541) #[] #[])=[115,99,104,101,109,97,108,101,110,115,47,108,101,110,115,46,114,101,110,97,109,101,67,111,108,117,109,110]:=by kernel_rfl
def tk4(t:TypeId):funcToken Tryz.prog (t,.func (.func 542) #[] #[])=[115,99,104,101,109,97,108,101,110,115,47,108,101,110,115,46,114,101,110,97,109,101,100,67,111,108,117,109,110]:=by kernel_rfl
def tk5(t:TypeId):funcToken Tryz.prog (t,.func (.func 543) #[] #[])=[115,99,104,101,109,97,108,101,110,115,47,108,101,110,115,46,111,108,100,67,111,108,117,109,110]:=by kernel_rfl
def tk6(t:TypeId):funcToken Tryz.prog (t,.func (.func 544) #[] #[])=[115,99,104,101,109,97,108,101,110,115,47,108,101,110,115,46,97,100,100,67,111,108,117,109,110]:=by kernel_rfl
def tk7(t:TypeId):funcToken Tryz.prog (t,.func (.func 545) #[] #[])=[115,99,104,101,109,97,108,101,110,115,47,108,101,110,115,46,97,100,100,101,100,67,111,108,117,109,110]:=by kernel_rfl
def tk8(t:TypeId):funcToken Tryz.prog (t,.func (.func 546) #[] #[])=[115,99,104,101,109,97,108,101,110,115,47,108,101,110,115,46,119,105,116,104,111,117,116,67,111,108,117,109,110]:=by kernel_rfl
def tk9(t:TypeId):funcToken Tryz.prog (t,.func (.func 547) #[] #[])=[115,99,104,101,109,97,108,101,110,115,47,108,101,110,115,46,115,112,108,105,116]:=by kernel_rfl
def afh(t:TypeId):funcToken Tryz.prog (t,.func (.func 548) #[] #[])=[115,99,104,101,109,97,108,101,110,115,47,108,101,110,115,46,115,112,108,105,116,82,111,119,115]:=by kernel_rfl
def afi(t:TypeId):funcToken Tryz.prog (t,.func (.func 549) #[] #[])=[115,99,104,101,109,97,108,101,110,115,47,108,101,110,115,46,106,111,105,110]:=by kernel_rfl
def afj(t:TypeId):funcToken Tryz.prog (t,.func (.func 550) #[] #[])=[115,99,104,101,109,97,108,101,110,115,47,108,101,110,115,46,109,101,114,103,101]:=by kernel_rfl
def afk(t:TypeId):funcToken Tryz.prog (t,.func (.func 551) #[] #[])=[115,99,104,101,109,97,108,101,110,115,47,108,101,110,115,46,109,101,114,103,101,82,111,119,115]:=by kernel_rfl
def afl(t:TypeId):funcToken Tryz.prog (t,.func (.func 552) #[] #[])=[115,99,104,101,109,97,108,101,110,115,47,108,101,110,115,46,117,110,109,101,114,103,101]:=by kernel_rfl
def afm(t:TypeId):funcToken Tryz.prog (t,.func (.func 553) #[] #[])=[115,99,104,101,109,97,108,101,110,115,47,108,101,110,115,46,116,97,98,108,101]:=by kernel_rfl
def afn(t:TypeId):funcToken Tryz.prog (t,.func (.func 554) #[] #[])=[115,99,104,101,109,97,108,101,110,115,47,108,101,110,115,46,116,97,98,108,101,82,111,119,115]:=by kernel_rfl
def afo(t:TypeId):funcToken Tryz.prog (t,.func (.func 555) #[] #[])=[115,99,104,101,109,97,108,101,110,115,47,108,101,110,115,46,119,105,116,104,111,117,116,84,97,98,108,101]:=by kernel_rfl
def afp(t:TypeId):funcToken Tryz.prog (t,.func (.func 556) #[] #[])=[115,99,104,101,109,97,108,101,110,115,47,108,101,110,115,46,115,117,109]:=by kernel_rfl
def afq(t:TypeId):funcToken Tryz.prog (t,.func (.func 557) #[] #[])=[115,99,104,101,109,97,108,101,110,115,47,108,101,110,115,46,115,117,109,82,111,119,115]:=by kernel_rfl
def afr(t:TypeId):funcToken Tryz.prog (t,.func (.func 558) #[] #[])=[115,99,104,101,109,97,108,101,110,115,47,108,101,110,115,46,111,108,100,83,117,109]:=by kernel_rfl
def afs(t:TypeId):funcToken Tryz.prog (t,.func (.func 559) #[] #[])=[115,99,104,101,109,97,108,101,110,115,47,108,101,110,115,46,114,101,107,101,121]:=by kernel_rfl
def aft(t:TypeId):funcToken Tryz.prog (t,.func (.func 560) #[] #[])=[115,99,104,101,109,97,108,101,110,115,47,108,101,110,115,46,114,101,107,101,121,82,111,119,115]:=by kernel_rfl
def afu(t:TypeId):funcToken Tryz.prog (t,.func (.func 561) #[] #[])=[115,99,104,101,109,97,108,101,110,115,47,108,101,110,115,46,111,108,100,75,101,121,115]:=by kernel_rfl
def Zu:DataW Unit->List Value
 |.lit (.int k n)=>[.int k n]
 |.lit (.string s)=>[.string ⟨s.toArray⟩]
 |_=>[]
def B5:DataW Unit->List Value
 |.agg x=>x.flatMap λ
  |.agg y=>y.flatMap Zu
  |d=>Zu d
 |_=>[]
def FC:Array Value:=((List.range 24).map λk=>Value.func (.func (538+k)) #[] #[]).toArray
def uV(h:Array Obj)(k:Nat)(c:Array Value):Array Obj:=h.modify k λ
 |.cells _ t fr=>.cells c t fr
 |o=>o
noncomputable def vM(os:Os):World:=
 let w:=World.holding Tryz.prog os ⟨#[],#[],[]⟩
 let n:=w.heap.size
 let h:=uV w.heap 0 FC
 let h:=uV h 1 (B5 Rows.laid_schemalens_lexer_keywords).toArray
 let h:=uV h 2 (B5 Rows.laid_internal_strconv_uint64pow10).toArray
 let h:=uV h 3 (B5 Rows.laid_unicode_utf8_first).toArray
 let h:=uV h 4 (B5 Rows.laid_unicode_utf8_acceptRanges).toArray
 let h:=uV h 5 #[.iface 478 (.pointer (some ⟨n,0,none⟩))]
 let h:=uV h 6 #[.iface 478 (.pointer (some ⟨n+1,0,none⟩))]
 let h:=uV h 7 (B5 Rows.laid_math_bits_deBruijn32tab).toArray
 let h:=uV h 8 (B5 Rows.laid_math_bits_deBruijn64tab).toArray
 let h:=uV h 9 (B5 Rows.laid_schemalens_lexer_symbols).toArray
 {w with heap:=h++#[.cells #[.string ⟨#[105,110,118,97,108,105,100,32,115,121,110,116,97,120]⟩] 480 (0,0),.cells #[.string ⟨#[118,97,108,117,101,32,111,117,116,32,111,102,32,114,97,110,103,101]⟩] 480 (0,0)]}
noncomputable abbrev pX(os:Os):World:=(vM os).forCall (λ_ _=>0) ⟨#[],#[.slice none 0 0,.slice none 0 0,.slice none 0 0,.int .i64 0],[]⟩
def ajW(os:Os):(DataW.laidRun Tryz.prog (pX os).memory 8 ((Rows.translateStmtsRow.laid.filter λx=>x.2.handleName?.isNone).map (·.1))).map (·.1)=some (Rows.translateStmtsRow.laid.filter λx=>x.2.handleName?.isNone):=by kernel_rfl
def ajw(os:Os):(DataW.laidRun Tryz.prog (pX os).memory 8 ((Rows.translateStmtsRow.laid.filter λx=>x.2.handleName?.isNone).map (·.1))).map (λx=>decide x.2.Nodup&&laidRowsB Tryz.prog (pX os).memory x.2)=some true:=by kernel_rfl
def abx(os:Os):(pX os).variablesRefB Tryz.prog=true:=by kernel_rfl
def abm(os:Os):((pX os).heap.toList.drop Tryz.prog.globals.size).take ((begin Tryz.prog (λ_ _=>0) default).world.heap.size-Tryz.prog.globals.size)=
 (begin Tryz.prog (λ_ _=>0) default).world.heap.toList.drop Tryz.prog.globals.size:=by kernel_rfl
def ajv(os:Os):Input.okWideB Tryz.prog (pX os) 3 ⟨#[],#[.slice none 0 0,.slice none 0 0,.slice none 0 0,.int .i64 0],[]⟩=true:=by kernel_rfl
def T63(os:Os):(pX os).memory.var? Tryz.prog "schemalens/lens.kinds"=some FC:=by kernel_rfl
def FD:List Value:=(List.range 24).map λk=>Value.func (.func (538+k)) #[] #[]
def FE(e:TypeId×Value->List UInt8):DataW (List UInt8):=.agg [.agg [.held (e (154,.func (.func 538) #[] #[])),.held (e (155,.func (.func 539) #[] #[])),.held (e (156,.func (.func 540) #[] #[]))],.agg [.held (e (154,.func (.func 541) #[] #[])),.held (e (155,.func (.func 542) #[] #[])),.held (e (156,.func (.func 543) #[] #[]))],.agg [.held (e (154,.func (.func 544) #[] #[])),.held (e (155,.func (.func 545) #[] #[])),.held (e (156,.func (.func 546) #[] #[]))],.agg [.held (e (154,.func (.func 547) #[] #[])),.held (e (155,.func (.func 548) #[] #[])),.held (e (156,.func (.func 549) #[] #[]))],.agg [.held (e (154,.func (.func 550) #[] #[])),.held (e (155,.func (.func 551) #[] #[])),.held (e (156,.func (.func 552) #[] #[]))],.agg [.held (e (154,.func (.func 553) #[] #[])),.held (e (155,.func (.func 554) #[] #[])),.held (e (156,.func (.func 555) #[] #[]))],.agg [.held (e (154,.func (.func 556) #[] #[])),.held (e (155,.func (.func 557) #[] #[])),.held (e (156,.func (.func 558) #[] #[]))],.agg [.held (e (154,.func (.func 559) #[] #[])),.held (e (155,.func (.func 560) #[] #[])),.held (e (156,.func (.func 561) #[] #[]))]]
def aiI(e:TypeId×Value->List UInt8)(w:World):DataW.trod e Tryz.prog w 0 (λ_=>true) true 4 159 FD=some (FE e,[]):=by kernel_rfl
abbrev B6:DataW Unit:=match(Rows.laid_schemalens_lens_kinds:DataW Unit)with
 |.iface _ d=>d
 |d=>d
def Ri:FE (funcToken Tryz.prog)=B6.funcsOut:=by
 simp only[FE,tk0,tk1,tk2,tk3,tk4,tk5,tk6,tk7,tk8,tk9,afh,afi,afj,afk,afl,afm,afn,afo,afp,afq,afr,afs,aft,afu]
 kernel_rfl
def abl{w:World}{cs:Array Value}(x:w.var? Tryz.prog "schemalens/lens.kinds"=some cs)(y:cs.toList=FD):funcsAt Tryz.prog w "schemalens/lens.kinds" B6:=⟨0,159,cs,4,[],by kernel_rfl,by kernel_rfl,x,by rw[y,aiI,Ri]⟩
end
end Go.Ab

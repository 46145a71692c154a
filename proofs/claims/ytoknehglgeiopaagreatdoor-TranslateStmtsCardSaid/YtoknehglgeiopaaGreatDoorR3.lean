/- The row and its card. -/
import Derived.Test.YtoknehglgeiopaaGreatDoorR2
import Derived.Test.YtoknehglgeiopaaGreatDoorX1
import Derived.Test.YtoknehglgeiopaaGreatDoorRg
set_option linter.all false
set_option maxHeartbeats 20000000
open Go Go.RowKit Go.Proofs
namespace Go.Ab
section
set_option maxRecDepth 100000
open Go Go.RowKit Go.Proofs Go.Proofs.YtoknehglgeiopaaGreatDoor Go.ChangeShapes Go.WideShapes Go.ChangeAt
def T50(os:Os):laidMetH Tryz.prog Rows.translateStmtsRow.laid (pX os).memory:=
 laidMetH_iff.2 ⟨laidMet_of_run' 8 (ajW os) (ajw os),λx hx=>by
  have hx:x∈ [("schemalens/lens.kinds",(Rows.laid_schemalens_lens_kinds:DataW Unit))]:=hx;obtain rfl:=List.mem_singleton.1 hx;exact abl (T63 os) ZF⟩
def reads(os:Os){H:Type}(aq:TypeId×Value->H):DataW.whole aq Tryz.prog (pX os).memory Tryz.f3.params.toList Rows.translateStmtsSpec.vars false [.slice none 0 0,.slice none 0 0,.slice none 0 0,.int .i64 0] 8=some ([.nil,.nil,.nil,.lit (.int .i64 0)],[],[]):=by kernel_rfl
def afv:ownKnob Tryz.prog.godebug=none:=by kernel_rfl
def lifted(os:Os)(x:os.Started)(H:Type)(aq:TypeId×Value->H)(F:Stop.Interp):
 ReturnsInHanded {} Tryz.checked os 3 .any ((OpenSpec.ofChange Rows.translateStmtsSpec).preRow aq Tryz.prog Tryz.f3 Rows.translateStmtsRow.domain false Rows.translateStmtsRow.laid) (((OpenSpec.ofChange Rows.translateStmtsSpec).at F).post aq Tryz.prog Tryz.f3 false true false false):=by
 refine returnsInHanded_of_row (C:=Tryz.checked) (s:=OpenSpec.ofChange Rows.translateStmtsSpec) afv x ZF Tryz.func3
  (witness_row_atRef (enc:=aq) (C:=Tryz.checked) false (vM os) #[.slice none 0 0,.slice none 0 0,.slice none 0 0,.int .i64 0] rfl (abx os) (abm os) (ajv os)
   (OpenSpec.preRow_of_cond 8 (reads os aq) ZF (λk b=>by cases b) ZF (T50 os))) ?_
 intro W base args c d y z e _ _ a f _ _;exact avU H aq W base args c d y z e a f
def said:Rows.TranslateStmtsSaid:=
 OpenClaim.holds_of_cond 3 Tryz.f3 rfl rfl rfl rfl rfl rfl rfl ⟨rfl,rfl,rfl,rfl,rfl⟩ rfl rfl rfl rfl rfl B8 Tryz.func3 abj agK agl
  (λos x H aq _ F=>by rw[OpenClaim.pre_eq_preRow];exact lifted os x H aq F)
end
end Go.Ab

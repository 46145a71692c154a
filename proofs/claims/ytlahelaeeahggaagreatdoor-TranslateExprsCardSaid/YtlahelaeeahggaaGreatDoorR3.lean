/- The row and its card. -/
import Derived.Test.YtlahelaeeahggaaGreatDoorR2
import Derived.Test.YtlahelaeeahggaaGreatDoorX1
import Derived.Test.YtlahelaeeahggaaGreatDoorRg
set_option linter.all false
set_option maxHeartbeats 20000000
open Go Go.RowKit Go.Proofs
namespace Go.Ab
section
set_option maxRecDepth 100000
open Go Go.RowKit Go.Proofs Go.Proofs.YtlahelaeeahggaaGreatDoor Go.ChangeShapes Go.WideShapes Go.ChangeAt
def NM(os:Os):laidMetH Tryz.prog Rows.translateExprsRow.laid (mH os).memory:=
 laidMetH_iff.2 ⟨laidMet_of_run' 8 (NK os) (Sx os),λx hx=>by
  have hx:x∈ [("schemalens/lens.kinds",(Rows.laid_schemalens_lens_kinds:DataW Unit))]:=hx;obtain rfl:=List.mem_singleton.1 hx;exact J6 (NL os) (by kernel_rfl)⟩
def reads(os:Os){H:Type}(ak:TypeId×Value->H):DataW.whole ak Tryz.prog (mH os).memory Tryz.f3.params.toList Rows.translateExprsSpec.vars false [.slice none 0 0,.slice none 0 0,.slice none 0 0,.slice none 0 0,.int .i64 0] 8=some ([.nil,.nil,.nil,.nil,.lit (.int .i64 0)],[],[]):=by kernel_rfl
def YW:ownKnob Tryz.prog.godebug=none:=by kernel_rfl
def lifted(os:Os)(adR:os.Started)(H:Type)(ak:TypeId×Value->H)(F:Stop.Interp):
 ReturnsInHanded {} Tryz.checked os 3 .any ((OpenSpec.ofChange Rows.translateExprsSpec).preRow ak Tryz.prog Tryz.f3 Rows.translateExprsRow.domain false Rows.translateExprsRow.laid) (((OpenSpec.ofChange Rows.translateExprsSpec).at F).post ak Tryz.prog Tryz.f3 false true false false):=by
 refine returnsInHanded_of_row (C:=Tryz.checked) (s:=OpenSpec.ofChange Rows.translateExprsSpec) YW adR (by kernel_rfl) Tryz.func3
  (witness_row_atRef (enc:=ak) (C:=Tryz.checked) false (qp os) #[.slice none 0 0,.slice none 0 0,.slice none 0 0,.slice none 0 0,.int .i64 0] rfl (J4 os) (J5 os) (Sy os)
   (OpenSpec.preRow_of_cond 8 (reads os ak) (by kernel_rfl) (λk hk=>by cases hk) (by kernel_rfl) (NM os))) ?_
 intro W cj args ds gs aem ad6 hW _ _ hsz hL _ _;exact DT H ak W cj args ds gs aem ad6 hW hsz hL
def YX:Rows.TranslateExprsSaid:=
 OpenClaim.holds_of_cond 3 Tryz.f3 rfl rfl rfl rfl rfl rfl rfl ⟨rfl,rfl,rfl,rfl,rfl⟩ rfl rfl rfl rfl rfl vR Tryz.func3 J7 SF SE
  (λos adR H ak _ F=>by rw[OpenClaim.pre_eq_preRow];exact lifted os adR H ak F)
end
end Go.Ab

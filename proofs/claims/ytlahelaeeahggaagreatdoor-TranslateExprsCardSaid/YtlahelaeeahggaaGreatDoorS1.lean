/- The spaces, by the kernel. -/
import Derived.Test.YtlahelaeeahggaaGreatDoorP5
set_option linter.all false
set_option maxHeartbeats 20000000
open Go Go.RowKit Go.Proofs
namespace Go.Ab
section
set_option maxRecDepth 1000000
set_option maxHeartbeats 4000000
set_option linter.unusedVariables false
def Yy(q:DP)(x:amw)(hc:q.c=iX):((fP (kC q.cf)).all λcs=>dG.all λw=>jD (bW q) ⟨3,cT,x,w,cs,v0⟩)=true:=by
 obtain⟨a,bV,sh,k,c,aV,bK,done,cL⟩:=q;cases hc;cases sh<;>cases cL<;>cases aV<;>cases bK<;>(show _=true)<;>as_aux_lemma=>kernel_rfl
def Yz(q:DP)(hc:q.c=iX):(q.cf.af.all λx=>(fP (kC q.cf)).all λcs=>dG.all λw=>jD (bW q) ⟨3,cT,x.name,w,cs++[x.name],v0⟩)=true:=by
 obtain⟨a,bV,sh,k,c,aV,bK,done,cL⟩:=q;cases hc;cases sh<;>cases cL<;>cases aV<;>cases bK<;>(show _=true)<;>as_aux_lemma=>kernel_rfl
end
section
set_option maxRecDepth 1000000
set_option maxHeartbeats 4000000
set_option linter.unusedVariables false
def YE(q:DP)(x:amw)(hc:q.c=ed[3]):((fP (kC q.cf)).all λcs=>dG.all λw=>jD (bW q) ⟨3,cT,x,w,cs,v0⟩)=true:=by
 obtain⟨a,bV,sh,k,c,aV,bK,done,cL⟩:=q;cases hc;cases sh<;>cases cL<;>cases aV<;>cases bK<;>(show _=true)<;>as_aux_lemma=>kernel_rfl
def YF(q:DP)(hc:q.c=ed[3]):(q.cf.af.all λx=>(fP (kC q.cf)).all λcs=>dG.all λw=>jD (bW q) ⟨3,cT,x.name,w,cs++[x.name],v0⟩)=true:=by
 obtain⟨a,bV,sh,k,c,aV,bK,done,cL⟩:=q;cases hc;cases sh<;>cases cL<;>cases aV<;>cases bK<;>(show _=true)<;>as_aux_lemma=>kernel_rfl
end
end Go.Ab

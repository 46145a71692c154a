/- The spaces, by the kernel. -/
import Derived.Test.YtlahelaeeahggaaGreatDoorP5
set_option linter.all false
set_option maxHeartbeats 20000000
open Go Go.RowKit Go.Proofs
namespace Go.Ab
section
set_option maxRecDepth 1000000
set_option maxHeartbeats 4000000
set_option linter.unusedVariables false
def YA(q:DP)(x:amw)(hc:q.c=vF):((fP (kC q.cf)).all λcs=>dG.all λw=>jD (bW q) ⟨3,cT,x,w,cs,v0⟩)=true:=by
 obtain⟨a,bV,sh,k,c,aV,bK,done,cL⟩:=q;cases hc;cases sh<;>cases cL<;>cases aV<;>cases bK<;>(show _=true)<;>as_aux_lemma=>kernel_rfl
def YB(q:DP)(hc:q.c=vF):(q.cf.af.all λx=>(fP (kC q.cf)).all λcs=>dG.all λw=>jD (bW q) ⟨3,cT,x.name,w,cs++[x.name],v0⟩)=true:=by
 obtain⟨a,bV,sh,k,c,aV,bK,done,cL⟩:=q;cases hc;cases sh<;>cases cL<;>cases aV<;>cases bK<;>(show _=true)<;>as_aux_lemma=>kernel_rfl
end
section
set_option maxRecDepth 1000000
set_option maxHeartbeats 4000000
set_option linter.unusedVariables false
def YC(q:DP)(x:amw)(hc:q.c=ed[2]):((fP (kC q.cf)).all λcs=>dG.all λw=>jD (bW q) ⟨3,cT,x,w,cs,v0⟩)=true:=by
 obtain⟨a,bV,sh,k,c,aV,bK,done,cL⟩:=q;cases hc;cases sh<;>cases cL<;>cases aV<;>cases bK<;>(show _=true)<;>as_aux_lemma=>kernel_rfl
def YD(q:DP)(hc:q.c=ed[2]):(q.cf.af.all λx=>(fP (kC q.cf)).all λcs=>dG.all λw=>jD (bW q) ⟨3,cT,x.name,w,cs++[x.name],v0⟩)=true:=by
 obtain⟨a,bV,sh,k,c,aV,bK,done,cL⟩:=q;cases hc;cases sh<;>cases cL<;>cases aV<;>cases bK<;>(show _=true)<;>as_aux_lemma=>kernel_rfl
end
section
set_option maxRecDepth 1000000
set_option maxHeartbeats 4000000
set_option linter.unusedVariables false
def YG(q:DP)(x:amw)(hc:q.c=ed[4]):((fP (kC q.cf)).all λcs=>dG.all λw=>jD (bW q) ⟨3,cT,x,w,cs,v0⟩)=true:=by
 obtain⟨a,bV,sh,k,c,aV,bK,done,cL⟩:=q;cases hc;cases sh<;>cases cL<;>cases aV<;>cases bK<;>(show _=true)<;>as_aux_lemma=>kernel_rfl
def YH(q:DP)(hc:q.c=ed[4]):(q.cf.af.all λx=>(fP (kC q.cf)).all λcs=>dG.all λw=>jD (bW q) ⟨3,cT,x.name,w,cs++[x.name],v0⟩)=true:=by
 obtain⟨a,bV,sh,k,c,aV,bK,done,cL⟩:=q;cases hc;cases sh<;>cases cL<;>cases aV<;>cases bK<;>(show _=true)<;>as_aux_lemma=>kernel_rfl
end
section
set_option maxRecDepth 1000000
set_option maxHeartbeats 4000000
set_option linter.unusedVariables false
def C3i(q:DP)(hq:q.ok)(x:amw):((fP (kC q.gl)).all λcs=>dG.all λw=>jD (bW q) ⟨3,fO,x,w,cs,v0⟩)=true:=by
 obtain⟨a,bV,sh,k,c,aV,bK,done,cL⟩:=q;clear hq;cases sh<;>cases cL<;>cases done<;>(show _=true)<;>as_aux_lemma=>kernel_rfl
def D3i(q:DP)(hq:q.ok):(q.gl.af.all λx=>(fP (kC q.gl)).all λcs=>dG.all λw=>jD (bW q) ⟨3,fO,x.name,w,cs++[x.name],v0⟩)=true:=by
 obtain⟨a,bV,sh,k,c,aV,bK,done,cL⟩:=q;clear hq;cases sh<;>cases cL<;>cases done<;>(show _=true)<;>as_aux_lemma=>kernel_rfl
def C3t(q:DP)(hq:q.ok)(x:amw)(ht:q.cL=true):((fP (kC iw)).all λcs=>dG.all λw=>jD (bW q) ⟨3,pi,x,w,cs,v0⟩)=true:=by
 obtain⟨a,bV,sh,k,c,aV,bK,done,cL⟩:=q;cases ht;clear hq;cases sh<;>(show _=true)<;>as_aux_lemma=>kernel_rfl
def D3t(q:DP)(hq:q.ok)(ht:q.cL=true):(iw.af.all λx=>(fP (kC iw)).all λcs=>dG.all λw=>jD (bW q) ⟨3,pi,x.name,w,cs++[x.name],v0⟩)=true:=by
 obtain⟨a,bV,sh,k,c,aV,bK,done,cL⟩:=q;cases ht;clear hq;cases sh<;>(show _=true)<;>as_aux_lemma=>kernel_rfl
end
end Go.Ab

/- The spaces, by the kernel. -/
import Derived.Test.YtoknehglgeiopaaGreatDoorP2
set_option linter.all false
set_option maxHeartbeats 20000000
open Go Go.RowKit Go.Proofs
namespace Go.Ab
section
set_option maxRecDepth 1000000
set_option maxHeartbeats 4000000
def ae6(q:DP)(x:Z)(y:q.c=la):((gY (ng q.cy)).all λcs=>ef.all λw=>lT (bU q) ⟨3,dw,x,w,cs,v0⟩)=true:=by
 obtain⟨a,cj,sh,k,c,bh,bR,done,dj⟩:=q;cases y;cases sh<;>cases dj<;>cases bh<;>cases bR<;>(show _=true)<;>as_aux_lemma=>kernel_rfl
def ae7(q:DP)(y:q.c=la):(q.cy.ae.all λx=>(gY (ng q.cy)).all λcs=>ef.all λw=>lT (bU q) ⟨3,dw,x.name,w,cs++[x.name],v0⟩)=true:=by
 obtain⟨a,cj,sh,k,c,bh,bR,done,dj⟩:=q;cases y;cases sh<;>cases dj<;>cases bh<;>cases bR<;>(show _=true)<;>as_aux_lemma=>kernel_rfl
def afc(q:DP)(x:Z)(y:q.c=fb[3]):((gY (ng q.cy)).all λcs=>ef.all λw=>lT (bU q) ⟨3,dw,x,w,cs,v0⟩)=true:=by
 obtain⟨a,cj,sh,k,c,bh,bR,done,dj⟩:=q;cases y;cases sh<;>cases dj<;>cases bh<;>cases bR<;>(show _=true)<;>as_aux_lemma=>kernel_rfl
def afd(q:DP)(y:q.c=fb[3]):(q.cy.ae.all λx=>(gY (ng q.cy)).all λcs=>ef.all λw=>lT (bU q) ⟨3,dw,x.name,w,cs++[x.name],v0⟩)=true:=by
 obtain⟨a,cj,sh,k,c,bh,bR,done,dj⟩:=q;cases y;cases sh<;>cases dj<;>cases bh<;>cases bR<;>(show _=true)<;>as_aux_lemma=>kernel_rfl
end
end Go.Ab

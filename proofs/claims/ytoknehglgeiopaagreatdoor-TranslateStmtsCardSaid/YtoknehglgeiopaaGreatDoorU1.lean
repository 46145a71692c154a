/- The spaces, by the kernel. -/
import Derived.Test.YtoknehglgeiopaaGreatDoorP2
set_option linter.all false
set_option maxHeartbeats 20000000
open Go Go.RowKit Go.Proofs
namespace Go.Ab
section
set_option maxRecDepth 1000000
set_option maxHeartbeats 4000000
def ae8(q:DP)(x:Z)(y:q.c=BI):((gY (ng q.cy)).all λcs=>ef.all λw=>lT (bU q) ⟨3,dw,x,w,cs,v0⟩)=true:=by
 obtain⟨a,cj,sh,k,c,bh,bR,done,dj⟩:=q;cases y;cases sh<;>cases dj<;>cases bh<;>cases bR<;>(show _=true)<;>as_aux_lemma=>kernel_rfl
def ae9(q:DP)(y:q.c=BI):(q.cy.ae.all λx=>(gY (ng q.cy)).all λcs=>ef.all λw=>lT (bU q) ⟨3,dw,x.name,w,cs++[x.name],v0⟩)=true:=by
 obtain⟨a,cj,sh,k,c,bh,bR,done,dj⟩:=q;cases y;cases sh<;>cases dj<;>cases bh<;>cases bR<;>(show _=true)<;>as_aux_lemma=>kernel_rfl
def afa(q:DP)(x:Z)(y:q.c=fb[2]):((gY (ng q.cy)).all λcs=>ef.all λw=>lT (bU q) ⟨3,dw,x,w,cs,v0⟩)=true:=by
 obtain⟨a,cj,sh,k,c,bh,bR,done,dj⟩:=q;cases y;cases sh<;>cases dj<;>cases bh<;>cases bR<;>(show _=true)<;>as_aux_lemma=>kernel_rfl
def afb(q:DP)(y:q.c=fb[2]):(q.cy.ae.all λx=>(gY (ng q.cy)).all λcs=>ef.all λw=>lT (bU q) ⟨3,dw,x.name,w,cs++[x.name],v0⟩)=true:=by
 obtain⟨a,cj,sh,k,c,bh,bR,done,dj⟩:=q;cases y;cases sh<;>cases dj<;>cases bh<;>cases bR<;>(show _=true)<;>as_aux_lemma=>kernel_rfl
def afe(q:DP)(x:Z)(y:q.c=fb[4]):((gY (ng q.cy)).all λcs=>ef.all λw=>lT (bU q) ⟨3,dw,x,w,cs,v0⟩)=true:=by
 obtain⟨a,cj,sh,k,c,bh,bR,done,dj⟩:=q;cases y;cases sh<;>cases dj<;>cases bh<;>cases bR<;>(show _=true)<;>as_aux_lemma=>kernel_rfl
def aff(q:DP)(y:q.c=fb[4]):(q.cy.ae.all λx=>(gY (ng q.cy)).all λcs=>ef.all λw=>lT (bU q) ⟨3,dw,x.name,w,cs++[x.name],v0⟩)=true:=by
 obtain⟨a,cj,sh,k,c,bh,bR,done,dj⟩:=q;cases y;cases sh<;>cases dj<;>cases bh<;>cases bR<;>(show _=true)<;>as_aux_lemma=>kernel_rfl
def C3i(q:DP)(hq:q.ok)(x:Z):((gY (ng q.ig)).all λcs=>ef.all λw=>lT (bU q) ⟨3,gW,x,w,cs,v0⟩)=true:=by
 obtain⟨a,cj,sh,k,c,bh,bR,done,dj⟩:=q;clear hq;cases sh<;>cases dj<;>cases done<;>(show _=true)<;>as_aux_lemma=>kernel_rfl
def D3i(q:DP)(hq:q.ok):(q.ig.ae.all λx=>(gY (ng q.ig)).all λcs=>ef.all λw=>lT (bU q) ⟨3,gW,x.name,w,cs++[x.name],v0⟩)=true:=by
 obtain⟨a,cj,sh,k,c,bh,bR,done,dj⟩:=q;clear hq;cases sh<;>cases dj<;>cases done<;>(show _=true)<;>as_aux_lemma=>kernel_rfl
def C3t(q:DP)(hq:q.ok)(x:Z)(y:q.dj=true):((gY (ng jP)).all λcs=>ef.all λw=>lT (bU q) ⟨3,tS,x,w,cs,v0⟩)=true:=by
 obtain⟨a,cj,sh,k,c,bh,bR,done,dj⟩:=q;cases y;clear hq;cases sh<;>(show _=true)<;>as_aux_lemma=>kernel_rfl
def D3t(q:DP)(hq:q.ok)(y:q.dj=true):(jP.ae.all λx=>(gY (ng jP)).all λcs=>ef.all λw=>lT (bU q) ⟨3,tS,x.name,w,cs++[x.name],v0⟩)=true:=by
 obtain⟨a,cj,sh,k,c,bh,bR,done,dj⟩:=q;cases y;clear hq;cases sh<;>(show _=true)<;>as_aux_lemma=>kernel_rfl
end
end Go.Ab

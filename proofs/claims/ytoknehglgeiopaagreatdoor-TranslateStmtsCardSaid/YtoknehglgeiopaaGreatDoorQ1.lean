/- The spaces, by the kernel. -/
import Derived.Test.YtoknehglgeiopaaGreatDoorP2
set_option linter.all false
set_option maxHeartbeats 20000000
open Go Go.RowKit Go.Proofs
namespace Go.Ab
section
set_option maxRecDepth 1000000
set_option maxHeartbeats 4000000
def C0p(q:DP)(hq:q.ok)(x:Z):(ef.all λw=>lT (bU q) ⟨0,dw,x,w,[],v0⟩)=true:=by
 obtain⟨a,cj,sh,k,c,bh,bR,done,dj⟩:=q;clear hq;cases sh<;>cases dj<;>cases bh<;>cases bR<;>(show _=true)<;>as_aux_lemma=>kernel_rfl
def C1p(q:DP)(hq:q.ok):(q.cy.ae.all λx=>ef.all λw=>lT (bU q) ⟨1,dw,x.name,w,[],v0⟩)=true:=by
 obtain⟨a,cj,sh,k,c,bh,bR,done,dj⟩:=q
 all_goals have y:=hq.c
 all_goals clear hq
 all_goals simp only[fb,BV,G9,G8]at y
 all_goals rcases y with rfl|rfl|rfl|rfl|rfl<;>
  cases sh<;>cases dj<;>cases bh<;>cases bR<;>(show _=true)<;>as_aux_lemma=>kernel_rfl
def C2p(q:DP)(hq:q.ok):((lL.take 3).all λv=>ef.all λw=>lT (bU q) ⟨2,dw,w,w,[],v⟩)=true:=by
 obtain⟨a,cj,sh,k,c,bh,bR,done,dj⟩:=q;clear hq;cases sh<;>cases dj<;>cases bh<;>cases bR<;>(show _=true)<;>as_aux_lemma=>kernel_rfl
def ae3(q:DP)(hq:q.ok):((lL.drop 3).all λv=>ef.all λw=>lT (bU q) ⟨2,dw,w,w,[],v⟩)=true:=by
 obtain⟨a,cj,sh,k,c,bh,bR,done,dj⟩:=q;have x:=hq.a;have x:a=0\/a=1\/a=2:=by simp only at x;omega
 clear hq;rcases x with rfl|rfl|rfl<;>
 cases sh<;>cases cj<;>cases dj<;>cases bh<;>cases bR<;>(show _=true)<;>as_aux_lemma=>kernel_rfl
def C4p(q:DP)(hq:q.ok)(x:Z):((bU q).an.all λt=>lT (bU q) ⟨4,dw,x,t.name,[],v0⟩)=true:=by
 obtain⟨a,cj,sh,k,c,bh,bR,done,dj⟩:=q
 all_goals have y:=hq.c
 all_goals clear hq
 all_goals simp only[fb,BV,G9,G8]at y
 all_goals rcases y with rfl|rfl|rfl|rfl|rfl<;>
  cases sh<;>cases dj<;>cases bh<;>cases bR<;>cases done<;>(show _=true)<;>as_aux_lemma=>kernel_rfl
def C5p(q:DP)(hq:q.ok):(q.cy.ae.all λx=>ef.all λw=>lT (bU q) ⟨5,dw,x.name,w,[],v0⟩)=true:=by
 obtain⟨a,cj,sh,k,c,bh,bR,done,dj⟩:=q;clear hq;cases sh<;>cases dj<;>cases bh<;>cases bR<;>(show _=true)<;>as_aux_lemma=>kernel_rfl
def C7p(q:DP)(hq:q.ok)(w:Z):(q.cy.ae.all λx=>lT (bU q) ⟨7,dw,x.name,w,[],v0⟩)=true:=by
 obtain⟨a,cj,sh,k,c,bh,bR,done,dj⟩:=q;clear hq;cases sh<;>cases dj<;>cases bh<;>cases bR<;>cases done<;>(show _=true)<;>as_aux_lemma=>kernel_rfl
def C6p(q:DP)(hq:q.ok):(q.cy.ae.all λx=>vL.all λcs=>lT (bU q) ⟨6,dw,x.name,yq,cs,v0⟩)=true:=by
 obtain⟨a,cj,sh,k,c,bh,bR,done,dj⟩:=q;have y:=hq.k;have y:k=0\/k=1:=by simp only at y;omega
 rcases y with rfl|rfl
 all_goals have z:=hq.c
 all_goals clear hq
 all_goals simp only[fb,BV,G9,G8]at z
 all_goals rcases z with rfl|rfl|rfl|rfl|rfl<;>
  cases sh<;>cases cj<;>cases dj<;>cases bh<;>cases bR<;>(show _=true)<;>as_aux_lemma=>kernel_rfl
def C0i(q:DP)(hq:q.ok)(x:Z):(ef.all λw=>lT (bU q) ⟨0,gW,x,w,[],v0⟩)=true:=by
 obtain⟨a,cj,sh,k,c,bh,bR,done,dj⟩:=q;clear hq;cases sh<;>cases dj<;>cases done<;>(show _=true)<;>as_aux_lemma=>kernel_rfl
def C1i(q:DP)(hq:q.ok):(q.ig.ae.all λx=>ef.all λw=>lT (bU q) ⟨1,gW,x.name,w,[],v0⟩)=true:=by
 obtain⟨a,cj,sh,k,c,bh,bR,done,dj⟩:=q;clear hq;cases sh<;>cases dj<;>cases done<;>(show _=true)<;>as_aux_lemma=>kernel_rfl
def C2i(q:DP)(hq:q.ok):((lL.take 3).all λv=>ef.all λw=>lT (bU q) ⟨2,gW,w,w,[],v⟩)=true:=by
 obtain⟨a,cj,sh,k,c,bh,bR,done,dj⟩:=q;clear hq;cases sh<;>cases dj<;>cases done<;>(show _=true)<;>as_aux_lemma=>kernel_rfl
def ae4(q:DP)(hq:q.ok):((lL.drop 3).all λv=>ef.all λw=>lT (bU q) ⟨2,gW,w,w,[],v⟩)=true:=by
 obtain⟨a,cj,sh,k,c,bh,bR,done,dj⟩:=q;have x:=hq.a;have x:a=0\/a=1\/a=2:=by simp only at x;omega
 clear hq;rcases x with rfl|rfl|rfl<;>
 cases sh<;>cases cj<;>cases dj<;>cases done<;>(show _=true)<;>as_aux_lemma=>kernel_rfl
def C4i(q:DP)(hq:q.ok)(x:Z):((bU q).an.all λt=>lT (bU q) ⟨4,gW,x,t.name,[],v0⟩)=true:=by
 obtain⟨a,cj,sh,k,c,bh,bR,done,dj⟩:=q
 all_goals have y:=hq.c
 all_goals clear hq
 all_goals simp only[fb,BV,G9,G8]at y
 all_goals rcases y with rfl|rfl|rfl|rfl|rfl<;>
  cases sh<;>cases dj<;>cases bh<;>cases bR<;>cases done<;>(show _=true)<;>as_aux_lemma=>kernel_rfl
def C5i(q:DP)(hq:q.ok):(q.ig.ae.all λx=>ef.all λw=>lT (bU q) ⟨5,gW,x.name,w,[],v0⟩)=true:=by
 obtain⟨a,cj,sh,k,c,bh,bR,done,dj⟩:=q;clear hq;cases sh<;>cases dj<;>cases done<;>(show _=true)<;>as_aux_lemma=>kernel_rfl
def C7i(q:DP)(hq:q.ok)(w:Z):(q.ig.ae.all λx=>lT (bU q) ⟨7,gW,x.name,w,[],v0⟩)=true:=by
 obtain⟨a,cj,sh,k,c,bh,bR,done,dj⟩:=q;clear hq;cases sh<;>cases dj<;>cases bh<;>cases bR<;>cases done<;>(show _=true)<;>as_aux_lemma=>kernel_rfl
def C6i(q:DP)(hq:q.ok):(q.ig.ae.all λx=>vL.all λcs=>lT (bU q) ⟨6,gW,x.name,yq,cs,v0⟩)=true:=by
 obtain⟨a,cj,sh,k,c,bh,bR,done,dj⟩:=q;have y:=hq.k;have y:k=0\/k=1:=by simp only at y;omega
 clear hq;rcases y with rfl|rfl<;>
 cases sh<;>cases cj<;>cases dj<;>cases done<;>(show _=true)<;>as_aux_lemma=>kernel_rfl
def C0t(q:DP)(hq:q.ok)(x:Z)(y:q.dj=true):(ef.all λw=>lT (bU q) ⟨0,tS,x,w,[],v0⟩)=true:=by
 obtain⟨a,cj,sh,k,c,bh,bR,done,dj⟩:=q;cases y;clear hq;cases sh<;>(show _=true)<;>as_aux_lemma=>kernel_rfl
def C1t(q:DP)(hq:q.ok)(y:q.dj=true):(jP.ae.all λx=>ef.all λw=>lT (bU q) ⟨1,tS,x.name,w,[],v0⟩)=true:=by
 obtain⟨a,cj,sh,k,c,bh,bR,done,dj⟩:=q;cases y;clear hq;cases sh<;>(show _=true)<;>as_aux_lemma=>kernel_rfl
def C2t(q:DP)(hq:q.ok)(x:q.dj=true):((lL.take 3).all λv=>ef.all λw=>lT (bU q) ⟨2,tS,w,w,[],v⟩)=true:=by
 obtain⟨a,cj,sh,k,c,bh,bR,done,dj⟩:=q;cases x;clear hq;cases sh<;>(show _=true)<;>as_aux_lemma=>kernel_rfl
def ae5(q:DP)(hq:q.ok)(y:q.dj=true):((lL.drop 3).all λv=>ef.all λw=>lT (bU q) ⟨2,tS,w,w,[],v⟩)=true:=by
 obtain⟨a,cj,sh,k,c,bh,bR,done,dj⟩:=q;cases y;have x:=hq.a;have x:a=0\/a=1\/a=2:=by simp only at x;omega
 clear hq;rcases x with rfl|rfl|rfl<;>
 cases sh<;>cases cj<;>(show _=true)<;>as_aux_lemma=>kernel_rfl
def C4t(q:DP)(hq:q.ok)(x:Z)(z:q.dj=true):((bU q).an.all λt=>lT (bU q) ⟨4,tS,x,t.name,[],v0⟩)=true:=by
 obtain⟨a,cj,sh,k,c,bh,bR,done,dj⟩:=q;cases z
 all_goals have y:=hq.c
 all_goals clear hq
 all_goals simp only[fb,BV,G9,G8]at y
 all_goals rcases y with rfl|rfl|rfl|rfl|rfl<;>
  cases sh<;>cases bh<;>cases bR<;>cases done<;>(show _=true)<;>as_aux_lemma=>kernel_rfl
def C5t(q:DP)(hq:q.ok)(y:q.dj=true):(jP.ae.all λx=>ef.all λw=>lT (bU q) ⟨5,tS,x.name,w,[],v0⟩)=true:=by
 obtain⟨a,cj,sh,k,c,bh,bR,done,dj⟩:=q;cases y;clear hq;cases sh<;>(show _=true)<;>as_aux_lemma=>kernel_rfl
def C7t(q:DP)(hq:q.ok)(w:Z)(y:q.dj=true):(jP.ae.all λx=>lT (bU q) ⟨7,tS,x.name,w,[],v0⟩)=true:=by
 obtain⟨a,cj,sh,k,c,bh,bR,done,dj⟩:=q;cases y;clear hq;cases sh<;>cases bh<;>cases bR<;>cases done<;>(show _=true)<;>as_aux_lemma=>kernel_rfl
def C6t(q:DP)(hq:q.ok)(z:q.dj=true):(jP.ae.all λx=>vL.all λcs=>lT (bU q) ⟨6,tS,x.name,yq,cs,v0⟩)=true:=by
 obtain⟨a,cj,sh,k,c,bh,bR,done,dj⟩:=q;cases z;have y:=hq.k;have y:k=0\/k=1:=by simp only at y;omega
 clear hq;rcases y with rfl|rfl<;>
 cases sh<;>cases cj<;>(show _=true)<;>as_aux_lemma=>kernel_rfl
end
end Go.Ab

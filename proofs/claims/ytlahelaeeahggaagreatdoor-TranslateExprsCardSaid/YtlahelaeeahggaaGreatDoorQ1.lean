/- The spaces, by the kernel. -/
import Derived.Test.YtlahelaeeahggaaGreatDoorP5
set_option linter.all false
set_option maxHeartbeats 20000000
open Go Go.RowKit Go.Proofs
namespace Go.Ab
section
set_option maxRecDepth 1000000
set_option maxHeartbeats 4000000
set_option linter.unusedVariables false
def C0p(q:DP)(hq:q.ok)(x:amw):(dG.all λw=>jD (bW q) ⟨0,cT,x,w,[],v0⟩)=true:=by
 obtain⟨a,bV,sh,k,c,aV,bK,done,cL⟩:=q;clear hq;cases sh<;>cases cL<;>cases aV<;>cases bK<;>(show _=true)<;>as_aux_lemma=>kernel_rfl
def C1p(q:DP)(hq:q.ok):(q.cf.af.all λx=>dG.all λw=>jD (bW q) ⟨1,cT,x.name,w,[],v0⟩)=true:=by
 obtain⟨a,bV,sh,k,c,aV,bK,done,cL⟩:=q
 all_goals have hc:=hq.c
 all_goals clear hq
 all_goals simp only[ed,amE,amP,amQ]at hc
 all_goals rcases hc with rfl|rfl|rfl|rfl|rfl<;>
  cases sh<;>cases cL<;>cases aV<;>cases bK<;>(show _=true)<;>as_aux_lemma=>kernel_rfl
def C2p(q:DP)(hq:q.ok):((lc.take 3).all λv=>dG.all λw=>jD (bW q) ⟨2,cT,w,w,[],v⟩)=true:=by
 obtain⟨a,bV,sh,k,c,aV,bK,done,cL⟩:=q;clear hq;cases sh<;>cases cL<;>cases aV<;>cases bK<;>(show _=true)<;>as_aux_lemma=>kernel_rfl
def Yv(q:DP)(hq:q.ok):((lc.drop 3).all λv=>dG.all λw=>jD (bW q) ⟨2,cT,w,w,[],v⟩)=true:=by
 obtain⟨a,bV,sh,k,c,aV,bK,done,cL⟩:=q;have ha:=hq.a;have ha:a=0\/a=1\/a=2:=by simp only at ha;omega
 clear hq;rcases ha with rfl|rfl|rfl<;>
 cases sh<;>cases bV<;>cases cL<;>cases aV<;>cases bK<;>(show _=true)<;>as_aux_lemma=>kernel_rfl
def C4p(q:DP)(hq:q.ok)(x:amw):((bW q).am.all λt=>jD (bW q) ⟨4,cT,x,t.name,[],v0⟩)=true:=by
 obtain⟨a,bV,sh,k,c,aV,bK,done,cL⟩:=q
 all_goals have hc:=hq.c
 all_goals clear hq
 all_goals simp only[ed,amE,amP,amQ]at hc
 all_goals rcases hc with rfl|rfl|rfl|rfl|rfl<;>
  cases sh<;>cases cL<;>cases aV<;>cases bK<;>cases done<;>(show _=true)<;>as_aux_lemma=>kernel_rfl
def C5p(q:DP)(hq:q.ok):(q.cf.af.all λx=>dG.all λw=>jD (bW q) ⟨5,cT,x.name,w,[],v0⟩)=true:=by
 obtain⟨a,bV,sh,k,c,aV,bK,done,cL⟩:=q;clear hq;cases sh<;>cases cL<;>cases aV<;>cases bK<;>(show _=true)<;>as_aux_lemma=>kernel_rfl
def C7p(q:DP)(hq:q.ok)(w:amw):(q.cf.af.all λx=>jD (bW q) ⟨7,cT,x.name,w,[],v0⟩)=true:=by
 obtain⟨a,bV,sh,k,c,aV,bK,done,cL⟩:=q;clear hq;cases sh<;>cases cL<;>cases aV<;>cases bK<;>cases done<;>(show _=true)<;>as_aux_lemma=>kernel_rfl
def C6p(q:DP)(hq:q.ok):(q.cf.af.all λx=>qo.all λcs=>jD (bW q) ⟨6,cT,x.name,sF,cs,v0⟩)=true:=by
 obtain⟨a,bV,sh,k,c,aV,bK,done,cL⟩:=q;have hk:=hq.k;have hk:k=0\/k=1:=by simp only at hk;omega
 rcases hk with rfl|rfl
 all_goals have hc:=hq.c
 all_goals clear hq
 all_goals simp only[ed,amE,amP,amQ]at hc
 all_goals rcases hc with rfl|rfl|rfl|rfl|rfl<;>
  cases sh<;>cases bV<;>cases cL<;>cases aV<;>cases bK<;>(show _=true)<;>as_aux_lemma=>kernel_rfl
def C0i(q:DP)(hq:q.ok)(x:amw):(dG.all λw=>jD (bW q) ⟨0,fO,x,w,[],v0⟩)=true:=by
 obtain⟨a,bV,sh,k,c,aV,bK,done,cL⟩:=q;clear hq;cases sh<;>cases cL<;>cases done<;>(show _=true)<;>as_aux_lemma=>kernel_rfl
def C1i(q:DP)(hq:q.ok):(q.gl.af.all λx=>dG.all λw=>jD (bW q) ⟨1,fO,x.name,w,[],v0⟩)=true:=by
 obtain⟨a,bV,sh,k,c,aV,bK,done,cL⟩:=q;clear hq;cases sh<;>cases cL<;>cases done<;>(show _=true)<;>as_aux_lemma=>kernel_rfl
def C2i(q:DP)(hq:q.ok):((lc.take 3).all λv=>dG.all λw=>jD (bW q) ⟨2,fO,w,w,[],v⟩)=true:=by
 obtain⟨a,bV,sh,k,c,aV,bK,done,cL⟩:=q;clear hq;cases sh<;>cases cL<;>cases done<;>(show _=true)<;>as_aux_lemma=>kernel_rfl
def Yw(q:DP)(hq:q.ok):((lc.drop 3).all λv=>dG.all λw=>jD (bW q) ⟨2,fO,w,w,[],v⟩)=true:=by
 obtain⟨a,bV,sh,k,c,aV,bK,done,cL⟩:=q;have ha:=hq.a;have ha:a=0\/a=1\/a=2:=by simp only at ha;omega
 clear hq;rcases ha with rfl|rfl|rfl<;>
 cases sh<;>cases bV<;>cases cL<;>cases done<;>(show _=true)<;>as_aux_lemma=>kernel_rfl
def C4i(q:DP)(hq:q.ok)(x:amw):((bW q).am.all λt=>jD (bW q) ⟨4,fO,x,t.name,[],v0⟩)=true:=by
 obtain⟨a,bV,sh,k,c,aV,bK,done,cL⟩:=q
 all_goals have hc:=hq.c
 all_goals clear hq
 all_goals simp only[ed,amE,amP,amQ]at hc
 all_goals rcases hc with rfl|rfl|rfl|rfl|rfl<;>
  cases sh<;>cases cL<;>cases aV<;>cases bK<;>cases done<;>(show _=true)<;>as_aux_lemma=>kernel_rfl
def C5i(q:DP)(hq:q.ok):(q.gl.af.all λx=>dG.all λw=>jD (bW q) ⟨5,fO,x.name,w,[],v0⟩)=true:=by
 obtain⟨a,bV,sh,k,c,aV,bK,done,cL⟩:=q;clear hq;cases sh<;>cases cL<;>cases done<;>(show _=true)<;>as_aux_lemma=>kernel_rfl
def C7i(q:DP)(hq:q.ok)(w:amw):(q.gl.af.all λx=>jD (bW q) ⟨7,fO,x.name,w,[],v0⟩)=true:=by
 obtain⟨a,bV,sh,k,c,aV,bK,done,cL⟩:=q;clear hq;cases sh<;>cases cL<;>cases aV<;>cases bK<;>cases done<;>(show _=true)<;>as_aux_lemma=>kernel_rfl
def C6i(q:DP)(hq:q.ok):(q.gl.af.all λx=>qo.all λcs=>jD (bW q) ⟨6,fO,x.name,sF,cs,v0⟩)=true:=by
 obtain⟨a,bV,sh,k,c,aV,bK,done,cL⟩:=q;have hk:=hq.k;have hk:k=0\/k=1:=by simp only at hk;omega
 clear hq;rcases hk with rfl|rfl<;>
 cases sh<;>cases bV<;>cases cL<;>cases done<;>(show _=true)<;>as_aux_lemma=>kernel_rfl
def C0t(q:DP)(hq:q.ok)(x:amw)(ht:q.cL=true):(dG.all λw=>jD (bW q) ⟨0,pi,x,w,[],v0⟩)=true:=by
 obtain⟨a,bV,sh,k,c,aV,bK,done,cL⟩:=q;cases ht;clear hq;cases sh<;>(show _=true)<;>as_aux_lemma=>kernel_rfl
def C1t(q:DP)(hq:q.ok)(ht:q.cL=true):(iw.af.all λx=>dG.all λw=>jD (bW q) ⟨1,pi,x.name,w,[],v0⟩)=true:=by
 obtain⟨a,bV,sh,k,c,aV,bK,done,cL⟩:=q;cases ht;clear hq;cases sh<;>(show _=true)<;>as_aux_lemma=>kernel_rfl
def C2t(q:DP)(hq:q.ok)(ht:q.cL=true):((lc.take 3).all λv=>dG.all λw=>jD (bW q) ⟨2,pi,w,w,[],v⟩)=true:=by
 obtain⟨a,bV,sh,k,c,aV,bK,done,cL⟩:=q;cases ht;clear hq;cases sh<;>(show _=true)<;>as_aux_lemma=>kernel_rfl
def Yx(q:DP)(hq:q.ok)(ht:q.cL=true):((lc.drop 3).all λv=>dG.all λw=>jD (bW q) ⟨2,pi,w,w,[],v⟩)=true:=by
 obtain⟨a,bV,sh,k,c,aV,bK,done,cL⟩:=q;cases ht;have ha:=hq.a;have ha:a=0\/a=1\/a=2:=by simp only at ha;omega
 clear hq;rcases ha with rfl|rfl|rfl<;>
 cases sh<;>cases bV<;>(show _=true)<;>as_aux_lemma=>kernel_rfl
def C4t(q:DP)(hq:q.ok)(x:amw)(ht:q.cL=true):((bW q).am.all λt=>jD (bW q) ⟨4,pi,x,t.name,[],v0⟩)=true:=by
 obtain⟨a,bV,sh,k,c,aV,bK,done,cL⟩:=q;cases ht
 all_goals have hc:=hq.c
 all_goals clear hq
 all_goals simp only[ed,amE,amP,amQ]at hc
 all_goals rcases hc with rfl|rfl|rfl|rfl|rfl<;>
  cases sh<;>cases aV<;>cases bK<;>cases done<;>(show _=true)<;>as_aux_lemma=>kernel_rfl
def C5t(q:DP)(hq:q.ok)(ht:q.cL=true):(iw.af.all λx=>dG.all λw=>jD (bW q) ⟨5,pi,x.name,w,[],v0⟩)=true:=by
 obtain⟨a,bV,sh,k,c,aV,bK,done,cL⟩:=q;cases ht;clear hq;cases sh<;>(show _=true)<;>as_aux_lemma=>kernel_rfl
def C7t(q:DP)(hq:q.ok)(w:amw)(ht:q.cL=true):(iw.af.all λx=>jD (bW q) ⟨7,pi,x.name,w,[],v0⟩)=true:=by
 obtain⟨a,bV,sh,k,c,aV,bK,done,cL⟩:=q;cases ht;clear hq;cases sh<;>cases aV<;>cases bK<;>cases done<;>(show _=true)<;>as_aux_lemma=>kernel_rfl
def C6t(q:DP)(hq:q.ok)(ht:q.cL=true):(iw.af.all λx=>qo.all λcs=>jD (bW q) ⟨6,pi,x.name,sF,cs,v0⟩)=true:=by
 obtain⟨a,bV,sh,k,c,aV,bK,done,cL⟩:=q;cases ht;have hk:=hq.k;have hk:k=0\/k=1:=by simp only at hk;omega
 clear hq;rcases hk with rfl|rfl<;>
 cases sh<;>cases bV<;>(show _=true)<;>as_aux_lemma=>kernel_rfl
end
end Go.Ab

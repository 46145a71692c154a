/- Plain laws. -/
import Derived.Test.YtlahelaeeahggaaGreatDoorQ1
import Derived.Test.YtlahelaeeahggaaGreatDoorS1
import Derived.Test.YtlahelaeeahggaaGreatDoorU1
set_option linter.all false
set_option maxHeartbeats 20000000
open Go Go.RowKit Go.Proofs
namespace Go.Ab
section
set_option maxRecDepth 1000000
set_option linter.unusedVariables false
def al{α:Type}{l:amx α}{f:α->amz}(h:l.all f=true){x:α}(hx:x∈l):f x=true:=amR.1 h x hx
def dv{v:aA}(h:v∈lc):v∈lc.take 3\/v∈lc.drop 3:=by
 rw[<-amZ,ao0];exact h
def HA(q:DP)(hq:q.ok)(t:ac)(ht:t∈(bW q).am)(x:GStep)(hx:ld (bW q).am t x):AB (bW q) x:=by
 have hc0:=hq.c;simp only[ed,amE,amP,amQ]at hc0;cases hx with
 |plain hc hw hk=>
  rename_i c w k;refine m9 hq (by simp only[amE,amP,amQ]at hk;rcases hk with rfl|rfl|rfl|rfl<;>simp) ?_;simp only[amE,amP,amQ]at hk;rcases fd ht with rfl|rfl|⟨rfl,ac5⟩
  ·rcases hk with rfl|rfl|rfl|rfl
   ·exact al (C0i q hq c.name) hw
   ·exact al (al (C1i q hq) hc) hw
   ·exact al (al (C5i q hq) hc) hw
   ·exact al (C7i q hq w) hc
  ·rcases hk with rfl|rfl|rfl|rfl
   ·exact al (C0p q hq c.name) hw
   ·exact al (al (C1p q hq) hc) hw
   ·exact al (al (C5p q hq) hc) hw
   ·exact al (C7p q hq w) hc
  ·rcases hk with rfl|rfl|rfl|rfl
   ·exact al (C0t q hq c.name ac5) hw
   ·exact al (al (C1t q hq ac5) hc) hw
   ·exact al (al (C5t q hq ac5) hc) hw
   ·exact al (C7t q hq w ac5) hc
 |add hw hv=>
  refine m9 hq (by simp) ?_;rcases fd ht with rfl|rfl|⟨rfl,ac5⟩
  ·rcases dv hv with hv|hv
   ·exact al (al (C2i q hq) hv) hw
   ·exact al (al (Yw q hq) hv) hw
  ·rcases dv hv with hv|hv
   ·exact al (al (C2p q hq) hv) hw
   ·exact al (al (Yv q hq) hv) hw
  ·rcases dv hv with hv|hv
   ·exact al (al (C2t q hq ac5) hv) hw
   ·exact al (al (Yx q hq ac5) hv) hw
 |split hc hw hcs=>
  rename_i c w cs;refine m9 hq (by simp) ?_;rcases fd ht with rfl|rfl|⟨rfl,ac5⟩
  ·exact al (al (C3i q hq c.name) hcs) hw
  ·rcases hc0 with h|h|h|h|h
   ·exact al (al (Yy q c.name h) hcs) hw
   ·exact al (al (YA q c.name h) hcs) hw
   ·exact al (al (YC q c.name h) hcs) hw
   ·exact al (al (YE q c.name h) hcs) hw
   ·exact al (al (YG q c.name h) hcs) hw
  ·exact al (al (C3t q hq c.name ac5) hcs) hw
 |DH hc hw hcs=>
  rename_i c w cs;refine m9 hq (by simp) ?_;rcases fd ht with rfl|rfl|⟨rfl,ac5⟩
  ·exact al (al (al (D3i q hq) hc) hcs) hw
  ·rcases hc0 with h|h|h|h|h
   ·exact al (al (al (Yz q h) hc) hcs) hw
   ·exact al (al (al (YB q h) hc) hcs) hw
   ·exact al (al (al (YD q h) hc) hcs) hw
   ·exact al (al (al (YF q h) hc) hcs) hw
   ·exact al (al (al (YH q h) hc) hcs) hw
  ·exact al (al (al (D3t q hq ac5) hc) hcs) hw
 |vW hc hu=>
  rename_i c u;refine m9 hq (by simp) ?_;rcases fd ht with rfl|rfl|⟨rfl,ac5⟩
  ·exact al (C4i q hq c.name) hu
  ·exact al (C4p q hq c.name) hu
  ·exact al (C4t q hq c.name ac5) hu
 |sum hc hcs=>
  rename_i c cs;refine m9 hq (by simp) ?_;rcases fd ht with rfl|rfl|⟨rfl,ac5⟩
  ·exact al (al (C6i q hq) hc) hcs
  ·exact al (al (C6p q hq) hc) hcs
  ·exact al (al (C6t q hq ac5) hc) hcs
def L3{l m k q:amx Int}{np:Int}(h:l.length<2 ^ 62)(hl:∀x∈l,kj x)(hm:∀x∈m,kj x)(hk:∀x∈k,kj x)(hq:∀x∈q,kj x):F3 l m k q np=some true:=Yq HA h hl hm hk hq
end
end Go.Ab

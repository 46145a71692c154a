/- Plain laws. -/
import Derived.Test.YtoknehglgeiopaaGreatDoorP4
import Derived.Test.YtoknehglgeiopaaGreatDoorQ1
import Derived.Test.YtoknehglgeiopaaGreatDoorS1
import Derived.Test.YtoknehglgeiopaaGreatDoorU1
set_option linter.all false
set_option maxRecDepth 1000000
set_option maxHeartbeats 20000000
open Go Go.RowKit Go.Proofs
namespace Go.Ab
def al{y:Type}{l:U y}{f:y->At}(h:l.all f=true){x:y}(hx:x∈l):f x=true:=H0.1 h x hx
def dv{v:aF}(h:v∈lL):v∈lL.take 3\/v∈lL.drop 3:=by
 rw[<-Hy,NY];exact h
def HA(q:DP)(hq:q.ok)(t:V)(e:t∈(bU q).an)(x:GStep)(hx:mF (bU q).an t x):AB (bU q) x:=by
 have d:=hq.c;simp only[fb,BV,G9,G8]at d;cases hx with
 |plain b z f=>
  rename_i c w k;refine qz hq (by simp only[BV,G9,G8]at f;rcases f with rfl|rfl|rfl|rfl<;>simp) ?_;simp only[BV,G9,G8]at f;rcases eh e with rfl|rfl|⟨rfl,a⟩
  .rcases f with rfl|rfl|rfl|rfl
   .exact al (C0i q hq c.name) z
   .exact al (al (C1i q hq) b) z
   .exact al (al (C5i q hq) b) z
   .exact al (C7i q hq w) b
  .rcases f with rfl|rfl|rfl|rfl
   .exact al (C0p q hq c.name) z
   .exact al (al (C1p q hq) b) z
   .exact al (al (C5p q hq) b) z
   .exact al (C7p q hq w) b
  .rcases f with rfl|rfl|rfl|rfl
   .exact al (C0t q hq c.name a) z
   .exact al (al (C1t q hq a) b) z
   .exact al (al (C5t q hq a) b) z
   .exact al (C7t q hq w a) b
 |add z hv=>
  refine qz hq NP ?_;rcases eh e with rfl|rfl|⟨rfl,a⟩
  .rcases dv hv with hv|hv
   .exact al (al (C2i q hq) hv) z
   .exact al (al (ae4 q hq) hv) z
  .rcases dv hv with hv|hv
   .exact al (al (C2p q hq) hv) z
   .exact al (al (ae3 q hq) hv) z
  .rcases dv hv with hv|hv
   .exact al (al (C2t q hq a) hv) z
   .exact al (al (ae5 q hq a) hv) z
 |split b z y=>
  rename_i c w cs;refine qz hq NP ?_;rcases eh e with rfl|rfl|⟨rfl,a⟩
  .exact al (al (C3i q hq c.name) y) z
  .rcases d with h|h|h|h|h
   .exact al (al (ae6 q c.name h) y) z
   .exact al (al (ae8 q c.name h) y) z
   .exact al (al (afa q c.name h) y) z
   .exact al (al (afc q c.name h) y) z
   .exact al (al (afe q c.name h) y) z
  .exact al (al (C3t q hq c.name a) y) z
 |BM b z y=>
  rename_i c w cs;refine qz hq NP ?_;rcases eh e with rfl|rfl|⟨rfl,a⟩
  .exact al (al (al (D3i q hq) b) y) z
  .rcases d with h|h|h|h|h
   .exact al (al (al (ae7 q h) b) y) z
   .exact al (al (al (ae9 q h) b) y) z
   .exact al (al (al (afb q h) b) y) z
   .exact al (al (al (afd q h) b) y) z
   .exact al (al (al (aff q h) b) y) z
  .exact al (al (al (D3t q hq a) b) y) z
 |y7 b hu=>
  rename_i c u;refine qz hq NP ?_;rcases eh e with rfl|rfl|⟨rfl,a⟩
  .exact al (C4i q hq c.name) hu
  .exact al (C4p q hq c.name) hu
  .exact al (C4t q hq c.name a) hu
 |sum b y=>
  rename_i c cs;refine qz hq NP ?_;rcases eh e with rfl|rfl|⟨rfl,a⟩
  .exact al (al (C6i q hq) b) y
  .exact al (al (C6p q hq) b) y
  .exact al (al (C6t q hq a) b) y
def afg{l m k:U Int}{qL:Int}(h:l.length<2 ^ 62)(y:∀x∈l,qv x)(z:∀x∈m,qv x)(a:∀x∈k,qv x):PP l m k qL=some true:=agt HA h y z a
end Go.Ab

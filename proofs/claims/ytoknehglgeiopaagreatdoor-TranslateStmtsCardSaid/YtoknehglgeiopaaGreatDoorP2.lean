/- Plain laws. -/
import Derived.KernelRfl
import Derived.Test.YtoknehglgeiopaaGreatDoorP1
set_option linter.all false
set_option maxRecDepth 1000000
set_option maxHeartbeats 20000000
open Go Go.RowKit Go.Proofs
namespace Go.Ab
def bU(q:DP):aj:=⟨q.aT,[q.ig,q.cy]++bif q.dj then[jP]else[]⟩
def ef:U Z:=[⟨#[102,114,101,115,104]⟩,⟨#[101,120,116,114,97]⟩,⟨#[108,97,116,101]⟩,⟨#[111,116,104,101,114]⟩,⟨#[105,100]⟩,⟨#[105,116,101,109]⟩,⟨#[120]⟩]
def v0:aF:=aF.mk 0 0 ⟨#[]⟩ [] []
def lL:U aF:=[aF.mk 0 7 ⟨#[]⟩ [] [],aF.mk 1 0 ⟨#[110,101,119]⟩ [] [],aF.mk 2 1 ⟨#[]⟩ [] [],aF.mk 3 0 ⟨#[82,101,100]⟩ [] []]
def gY:U Z->U (U Z)
 | []=>[[]]
 |a::r=>gY r++(gY r).map (a:: ·)
def qx:∀{l cs},cs.Sublist l->cs∈gY l
 | [],cs,h=>by simp at h;simp[gY,h]
 |a::r,cs,h=>by
  simp[gY];cases h with
  |cons _ h=>exact .inl (qx h)
  |cons_cons _ h=>exact .inr ⟨_,qx h,rfl⟩
def lM a b:bg a b=bg b a:=Bool.beq_comm
def aJ(l:U Z)(n:Z):At:=l.any λy=>bg y n
def ng(t:V):U Z:=(t.ae.map (·.name)).filter λn=> !aJ t.key n&& !aJ ((qT t.aH).getD []) n
def yq:Z:=⟨#[83,116,97,116,101]⟩
def vL:U (U Z):=[[⟨#[79,102,102]⟩,⟨#[79,110]⟩],[⟨#[82,101,100]⟩],[⟨#[82,101,100]⟩,⟨#[79,110]⟩],[⟨#[82,101,100]⟩,⟨#[79,110]⟩,⟨#[88]⟩]]
inductive mF (ts:List V) (t:V):GStep->Prop
 |plain {c:af} {w:ByteArray} {k:Int}:c∈t.ae->w∈ef->k∈([0,1,5,7]:List Int)->mF ts t ⟨k,t.name,c.name,w,[],v0⟩
 |add {w:ByteArray} {v:aF}:w∈ef->v∈lL->mF ts t ⟨2,t.name,w,w,[],v⟩
 |split {c:af} {w:ByteArray} {cs:List ByteArray}:c∈t.ae->w∈ef->cs∈gY (ng t)->mF ts t ⟨3,t.name,c.name,w,cs,v0⟩
 |BM {c:af} {w:ByteArray} {cs:List ByteArray}:c∈t.ae->w∈ef->cs∈gY (ng t)->mF ts t ⟨3,t.name,c.name,w,cs++[c.name],v0⟩
 |y7 {c:af} {u:V}:c∈t.ae->u∈ts->mF ts t ⟨4,t.name,c.name,u.name,[],v0⟩
 |sum {c:af} {cs:List ByteArray}:c∈t.ae->cs∈vL->mF ts t ⟨6,t.name,c.name,yq,cs,v0⟩
def UF l x:AU (GL l x) λr=>r=aJ l x:=by
 refine fB (λj _=>aJ (l.take j) x=false) (by simp[aJ]) (λj y s a b c z=>?_) λs z=>bb (by rw[<-z,Gq])
 refine cZ (λh=>bb ?_) λh=>bb ?_
 .exact bb (by symm;exact It.2 ⟨y,b,h⟩)
 .have e:l.take (j+1)=l.take j++[y]:=by rw[G6,a];rfl
  rw[e];unfold aJ at z |-;rw[KW,z];simp[h]
def av0:∀c∈fb,(qT c).isSome=true:=by decide+kernel
def T18{t}(h:(qT t.aH).isSome=true)x:AU (TG t x) λr=>r=aJ ((qT t.aH).getD []) x:=by
 unfold TG;cases e:qT t.aH with
 |none=>rw[e]at h;simp at h
 |some l=>
  simp only[B2];exact ct (UF l x) λv y=>bb y
def ak0:(qT la).isSome=true:=by decide+kernel
def eh{q t}(h:t∈(bU q).an):t=q.ig\/t=q.cy\/(t=jP/\q.dj=true):=by
 cases e:q.dj<;>simp[bU,e]at h
 .rcases h with h|h
  .exact .inl h
  .exact .inr (.inl h)
 .rcases h with h|h|h
  .exact .inl h
  .exact .inr (.inl h)
  .exact .inr (.inr ⟨h,rfl⟩)
def axH{q}(hq:q.ok){t}(h:t∈(bU q).an):(qT t.aH).isSome=true:=by
 rcases eh h with rfl|rfl|⟨rfl,_⟩
 .exact ak0
 .exact av0 _ hq.c
 .exact ak0
def kI q:1<=(bU q).an.length/\(bU q).an.length<=3:=by cases e:q.dj<;>simp[bU,e]
def iJ{q t}(h:t∈(bU q).an):1<=t.ae.length/\t.ae.length<=5/\t.aX.length<=1:=by
 rcases eh h with rfl|rfl|⟨rfl,_⟩
 .cases e:q.done<;>simp[DP.ig,DP.qU,e]
 .cases e:q.bh<;>cases e2:q.bR<;>simp[DP.cy,DP.iv,e,e2]
 .simp[jP]
def avy{q t}(h:t∈(bU q).an):AU (TH t) λk=>∀r∈t.aX,(bg r.ar k)=false:=by
 rcases eh h with rfl|rfl|⟨rfl,_⟩
 .exact⟨Q5,rfl,by intro r x;simp[DP.ig]at x;subst x;decide+kernel⟩
 .exact⟨Q5,rfl,by simp[DP.cy]⟩
 .exact⟨⟨#[]⟩,rfl,by decide+kernel⟩
def T97{q}(hq:q.ok){l}(hl:∀x∈l,qv x):AU (F5 (bU q) l) λx=>∃t∈(bU q).an,mF (bU q).an t x:=by
 unfold F5;have sl:=kI q;have N:∀{i n:Int}{β:Type}{f:Int->T β}{Q:β->Prop},0<n->(∀v:Int,0<=v->v<n->AU (f v) Q)->AU ((tJ l i n).bind f) Q:=λhn k=>ct (Ny hl hn) λv L=>k v L.1 L.2
 refine N OS λv2 a0 a1=>fA ⟨a0,by simpa using a1⟩ λt ht _=>?_
 have tc:=iJ ht;refine N OS λv4 b0 b1=>fA ⟨b0,by simpa using b1⟩ λc A _=>?_
 refine N VQ λv6 c0 c1=>fA ⟨c0,by simp;omega⟩ λw d _=>?_
 refine N VQ λv8 _ _=>?_
 refine ei (AU.mono (P:=λr=>∃w∈ef,r= .inl w) (cZ (λ_=>N NP λv13 o p=>fA ⟨o,by simpa using p⟩ λw d _=>bb ⟨w,d,rfl⟩) λ_=>bb ⟨w,d,rfl⟩) ?_);rintro _ ⟨w,d,rfl⟩;simp only[G5];refine N VQ λk k0 k1=>?_
 refine ei (AU.mono (P:=λr=>∃a b cs v,r= .inl (a,b,cs,v)/\mF (bU q).an t ⟨k,t.name,a,b,cs,v⟩) ?_ ?_)
 .refine cZ (λe=>?_) λe2=>cZ (λe=>?_) λe3=>cZ (λe=>?_) λe4=>cZ (λe=>?_) λe6=>?_
  .simp only[HV]at e;subst e;exact N VQ λv23 o p=>fA ⟨o,by simpa using p⟩ λv L _=>bb ⟨_,_,_,_,rfl,.add d L⟩
  .simp only[HV]at e;subst e;refine fB (λj(a:U Z)=>a.Sublist (((t.ae.take j).map (·.name)).filter λn=> !aJ t.key n&& !aJ ((qT t.aH).getD []) n)/\a.length<=j) ⟨by simp,by simp⟩ (λj y a hy C hj z=>?_) λa z=>?_
   .refine ei ?_;refine ct (UF _ _) λg h38=>ct (T18 (axH hq ht) _) λD h39=>?_
    refine ct (P:=λr=>r=(!g&& !D)) (by cases g<;>exact bb rfl) λa40 h40=>?_
    refine ct (P:=λr=>r=true->a40=true) (cZ (λh=>N VQ λv46 _ _=>bb λ_=>h) λ_=>bb NP) λa43 h43=>?_
    have e:(((t.ae.take (j+1)).map (·.name)).filter λn=> !aJ t.key n&& !aJ ((qT t.aH).getD []) n)=(((t.ae.take j).map (·.name)).filter λn=> !aJ t.key n&& !aJ ((qT t.aH).getD []) n)++(bif !g&& !D then[y.name]else[]):=by
     rw[G6,hy];congr 1;rw[h38,h39];cases hb:(!aJ t.key y.name&& !aJ ((qT t.aH).getD []) y.name)<;>simp[List.filter,hb]
    refine cZ (λh=>eT Ar (bb ?_)) λh=>bb ?_
    .refine bb ?_
     show _/\_
     rw[e];have:=h43 h;rw[h40]at this;rw[this];exact⟨List.Sublist.append z.1 (.refl _),by simp;omega⟩
    .refine bb ?_
     show _/\_
     rw[e];exact⟨z.1.trans (List.sublist_append_left _ _),by omega⟩
   .rw[Gq]at z;have hs:a∈gY (ng t):=qx z.1;refine N VQ λv49 _ _=>cZ (λ_=>eT Ar (bb ⟨_,_,_,_,rfl,.BM A d hs⟩)) λ_=>bb ⟨_,_,_,_,rfl,.split A d hs⟩
  .simp only[HV]at e;subst e;refine N OS λv53 o p=>fA ⟨o,by simpa using p⟩ λu hu _=>?_
   refine fB (λ_ _=>True) trivial (λj y _ _ C _ _=>?_) λ_ _=>bb ⟨_,_,_,_,rfl,.y7 A hu⟩
   have hr:=(iJ C).2.2;refine lm (λm(s:Int)=>0<=s/\s<=y.aX.length/\m=y.aX.length-s.toNat) (m:=y.aX.length) B9 ⟨by simp,by simp,by simp⟩ ?_;rintro m s ⟨g1,g2,rfl⟩;refine cZ (λh=>?_) λ_=>bb (bb trivial)
   simp only[B7,FW]at h;have X:IntKind.i64.wrap (s+1)=s+1:=by rw[BW];omega
   refine ei (AU.mono (fA ⟨g1,h⟩ λr hr _=>ct (avy C) λk hk=>cZ (λh=>by rw[hk r hr]at h;simp at h) λ_=>bb rfl) ?_);rintro _ rfl;refine bb ⟨_,?_,?_,?_,rfl⟩<;>omega
  .simp only[HV]at e;subst e;refine fB (λ_(a:Z)=>∃c∈t.ae,a=c.name) ⟨c,A,rfl⟩ (λj y a _ C _ z=>?_) λa z=>?_
   .refine ei ?_;refine ct (P:=λ_=>True) (cZ (λ_=>N VQ λv _ _=>bb trivial) λ_=>bb trivial) λa86 _=>cZ (λ_=>bb (bb ⟨y,C,rfl⟩)) λ_=>bb (bb z)
   .obtain⟨c',K,rfl⟩:=z;refine N VQ λv91 _ _=>cZ (λ_=>N VQ λv93 o p=>?_) λ_=>bb ⟨_,_,_,_,rfl,.sum K (by simp[vL])⟩
    have X:IntKind.i64.wrap (1+v93)=1+v93:=by rw[BW];omega
    refine hC (by rw[X];simp;omega) (bb ⟨_,_,_,_,rfl,.sum K ?_⟩);rw[X];have:v93=0\/v93=1\/v93=2:=by omega
    rcases this with rfl|rfl|rfl<;>simp[vL]
  .have:k=0\/k=1\/k=5\/k=7:=by simp only[JR,ne_eq]at e2 e3 e4 e6;omega
   exact bb ⟨_,_,_,_,rfl,.plain A d (by simpa using this)⟩
 .rintro _ ⟨a,b,cs,v,rfl,h⟩;exact bb ⟨t,ht,h⟩
def Ha(o:T At):At:=match o with
 |some b=>b
 |none=>false
def BN{o}(h:Ha o=true):o=some true:=by
 cases o with
 |none=>simp[Ha]at h
 |some b=>simp[Ha]at h;rw[h]
def Jo(o:T Int):At:=match o with
 |some i=>decide (i<0)
 |none=>false
def aj7{o}(h:Jo o=true):AU o λi=>i<0:=by
 cases o with
 |none=>simp[Jo]at h
 |some i=>exact⟨i,rfl,by simpa[Jo]using h⟩
def PZ(o:T Int):At:=match o with
 |some i=>decide (0<=i)
 |none=>false
def alu{o}(h:PZ o=true):AU o λi=>0<=i:=by
 cases o with
 |none=>simp[PZ]at h
 |some i=>exact⟨i,rfl,by simpa[PZ]using h⟩
def Y9(x:U az)(l:U af)(j:Nat):At:=match l[j]? with
 |some c=>Ha (Fj c.name)&&Ha (Vd x c.bH)&&Jo (PC (l.take j) c.name)
 |none=>true
def Za(l:U af)(ks:U Z)(j:Nat):At:=match ks[j]? with
 |some k=>PZ (PC l k)&&Jo (Py (ks.take j) k)
 |none=>true
structure Fo(ms:List aP)(ss:List az)(t:V):Prop where
 Zb:Ha (Fj t.name)=true
 aU:JK t.aH=some 0
 cl:t.ae.length<=8
 aeM:∀j,j<t.ae.length->Y9 ss t.ae j=true
 kl:1<=t.key.length/\t.key.length<=3
 aeN:∀j,j<t.key.length->Za t.ae t.key j=true
 aX:t.aX=[]\/∃r t' i c,t.aX=[r]/\PC t.ae r.ar=some i/\0<=i/\t.ae[i.toNat]?=some c/\QZ ms r.ai=some (t',true)/\F85 t' c.bH=some true
def Q8{x:Type}(l:U x)(j:Nat):(l.drop (0:Int).toNat).take ((j:Int).toNat-(0:Int).toNat)=l.take j:=by simp
def Np{ms n t}(h:Fo ms n t):AU (Mf ms n (iW t)) λr=>r=([],false):=by
 unfold Mf
 show AU ((Fj t.name).bind _) _
 rw[BN h.Zb];simp only[B2,iW,h.aU,GU,FM,GY,G5];have C:=h.cl;refine ei (AU.mono (cZ (λe=>by simp at e;omega) λ_=>bb rfl) ?_);rintro _ rfl;refine fB (λ_ s=>s=([],false)) rfl (λj c s d f y z=>?_) λs z=>?_
 .subst z;have b:=h.aeM j y;unfold Y9 at b;rw[d]at b;simp only[BR]at b;obtain⟨⟨p,q⟩,b3⟩:=b;rw[BN p];refine ei (AU.mono (P:=λr=>r= .inl ([],false)) ?_ ?_)
  .refine hC Ar ?_;rw[Q8];refine ct (aj7 b3) λi o=>?_
   refine ei (AU.mono (cZ (λe=>by simp at e;omega) λ_=>bb rfl) ?_);rintro _ rfl;rw[BN q];exact bb rfl
  .rintro _ rfl;exact bb rfl
 .subst z;have kl:=h.kl;refine ct (P:=λr=>r=false) (cZ (λe=>by simp at e;omega) λ_=>bb Ar) λa u=>?_
  subst u;refine fB (λ_ s=>s=([],false)) rfl (λj k s d f y z=>?_) λs z=>?_
  .subst z;have b:=h.aeN j y;unfold Za at b;rw[d]at b;simp only[BR]at b;refine ei (AU.mono (P:=λr=>r= .inl ([],false)) ?_ ?_)
   .refine ct (alu b.1) λi o=>?_
    refine ei (AU.mono (cZ (λe=>by simp at e;omega) λ_=>bb rfl) ?_);rintro _ rfl;refine hC Ar ?_;rw[Q8];refine ct (aj7 b.2) λi o=>?_
    exact cZ (λe=>by simp at e;omega) λ_=>bb rfl
   .rintro _ rfl;exact bb rfl
  .subst z;rcases h.aX with e|⟨r,D,i,c,e,e1,e2,e3,e4,v⟩
   .rw[e];exact bb rfl
   .rw[e];refine fB (λ_ s=>s=([],false)) rfl (λj k s d f y z=>?_) λs z=>bb (by rw[z])
    subst z;have w:k=r:=by simpa using f
    have g:j=0:=by simp at y;exact y
    subst w g;rw[e1];simp only[B2];refine ei (AU.mono (P:=λr=>r= .inl ([],false)) ?_ ?_)
    .refine lm (λm(s:At×Int)=>s=(false,0)) (m:=0) VQ rfl ?_;rintro m s rfl;refine cZ (λe=>by simp at e) λ_=>bb ?_
     rw[e4];have A:decide (i<0)=false:=by simp;omega
     have l:decide (i>=0)=true:=by simp;omega
     simp only[B2,GU,FM,A,G5,G1,l];have K:=(LI.1 e3).1;refine ei (AU.mono (P:=λr=>r= .inl false) (fA ⟨e2,by omega⟩ λx _ hx=>?_) ?_)
     .rw[e3]at hx;cases hx;rw[v];exact bb rfl
     .rintro _ rfl;exact bb rfl
    .rintro _ rfl;exact bb rfl
def av4:∀c∈fb,JK c=some 0:=by decide+kernel
def oJ{n p}(h:((List.range n).all p)=true):∀j,j<n->p j=true:=λj x=>H0.1 h j (KY.2 x)
def avx{q:DP}(h:q.ok)ms:Fo ms q.aT q.cy:=by
 obtain⟨a,cj,sh,k,c,bh,bR,done,dj⟩:=q;have y:k=0\/k=1:=by have:=h.k;dsimp only at this;omega
 have z:a=0\/a=1\/a=2:=by have:=h.a;dsimp only at this;omega
 have x:=h.c;refine⟨by kernel_rfl,av4 _ x,by cases bh<;>cases bR<;>simp[DP.cy,DP.iv],?_,by simp[DP.cy],?_,.inl rfl⟩
 .cases bh
  .rcases y with rfl|rfl<;>cases bR<;>exact oJ ZF
  .rcases y with rfl|rfl<;>rcases z with rfl|rfl|rfl<;>cases cj<;>cases bR<;>exact oJ ZF
 .cases bh<;>exact oJ ZF
def aiD{n t a b f}(g:a.cx.length<=1000/\∀d∈a.cx,d.ah≠1)(i:b.cx.length<=1000/\∀d∈b.cx,d.ah≠1)(c:QZ [f] n=some (t,true)):QZ [a,b,f] n=some (t,true):=by
 have skip:∀{m:aP}{ρ:Type},(m.cx.length<=1000/\∀d∈m.cx,d.ah≠1)->
  aV (λy=>(bif decide (y<((m.cx.map bC.aq).length:Int))then((aA m.cx y).bind λx=>(bif (x.ah==1)then(some (bg x.name n))else(some false)).bind (λz=>bif z then(some (.inr (.inr (.inr (.inr (x.ai,true))))))else(some (.inl (IntKind.i64.wrap (y+1))))))else(some (.inr (.inl ()))):T (Int⊕(Unit⊕(Unit⊕(Unit⊕(V×At))))))) 1000000 0=some (.inl ()):=by
  intro m ρ j;have:AU (aV (λy=>(bif decide (y<((m.cx.map bC.aq).length:Int))then((aA m.cx y).bind λx=>(bif (x.ah==1)then(some (bg x.name n))else(some false)).bind (λz=>bif z then(some (.inr (.inr (.inr (.inr (x.ai,true))))))else(some (.inl (IntKind.i64.wrap (y+1))))))else(some (.inr (.inl ()))):T (Int⊕(Unit⊕(Unit⊕(Unit⊕(V×At))))))) 1000000 0) λr=>r= .inl ():=by
   refine AU.aV (λk(s:Int)=>0<=s/\s<=m.cx.length/\k=m.cx.length-s.toNat) (m:=m.cx.length) B9 ⟨by simp,by simp,by simp⟩ ?_;rintro k s ⟨l,q,rfl⟩;refine cZ (λe=>?_) λ_=>bb rfl
   simp at e;have o:IntKind.i64.wrap (s+1)=s+1:=by rw[BW];omega
   refine fA ⟨l,e⟩ λd hd _=>?_
   have p:(d.ah==1)=false:=by simpa using j.2 d hd
   rw[p];refine bb ⟨_,?_,?_,?_,rfl⟩<;>omega
  obtain⟨r,e,rfl⟩:=this;exact e
 unfold QZ at c |-;simp only[bo]at c |-;rw[skip g (ρ:=Unit),skip i (ρ:=Unit)];exact c
def AA.G0{r q x bd}(h:AA r q x bd):x.length<=1000/\∀d∈x,d.ah=2\/d.ah=3:=⟨by have:=h.al;omega,λd hd=>(h.app d hd).2⟩
def AA.Ul{r q x bd}(h:AA r q x bd):((q.aT.drop 1).map gX++bd).length<=1000/\∀d∈(q.aT.drop 1).map gX++bd,d.ah≠1:=by
 have y:=h.bl;have z:(q.aT.drop 1).length<=1:=by cases e:q.sh<;>simp[DP.aT,e]
 refine⟨by simp only[G7,B7];omega,λd hd=>?_⟩;rcases Hy.1 hd with hd|hd
 .obtain⟨s,_,rfl⟩:=Hr.1 hd;simp[gX]
 .have:=(h.bV d hd).2;omega
def axP{r q z bd}(h:AA r q z bd):Fo r.2 q.aT q.ig:=by
 have x:QZ r.2 dw=some (q.cy,true):=by
  rw[h.GX];refine aiD ⟨h.G0.1,λd hd=>by have:=h.G0.2 d hd;omega⟩ h.Ul ?_;obtain⟨a,cj,sh,k,c,bh,bR,done,dj⟩:=q;cases dj<;>kernel_rfl
 have y:q.k=0\/q.k=1:=by have:=h.ok.k;omega
 refine⟨by kernel_rfl,(by decide+kernel:JK la=some 0),by cases e:q.done<;>simp[DP.ig,DP.qU,e],?_,by simp[DP.ig],?_,.inr ⟨⟨tO,dw⟩,q.cy,0,⟨tO,oe q.k⟩,rfl,by kernel_rfl,by decide,rfl,x,?_⟩⟩
 all_goals
  obtain⟨a,cj,sh,k,c,bh,bR,done,dj⟩:=q
 .rcases y with rfl|rfl<;>cases done<;>exact oJ ZF
 .cases done<;>exact oJ ZF
 .rcases y with rfl|rfl<;>kernel_rfl
def ajR{r q y bd}(h:AA r q y bd):Fo r.2 q.aT jP:=by
 have x:QZ r.2 gW=some (q.ig,true):=by
  rw[h.GX];refine aiD ⟨h.G0.1,λd hd=>by have:=h.G0.2 d hd;omega⟩ h.Ul ?_;obtain⟨a,cj,sh,k,c,bh,bR,done,dj⟩:=q;cases dj<;>kernel_rfl
 refine⟨by kernel_rfl,E3,by decide,oJ ZF,by decide,oJ ZF,.inr ⟨⟨gW,gW⟩,q.ig,0,⟨gW,oe 0⟩,rfl,by kernel_rfl,by decide,rfl,x,by kernel_rfl⟩⟩
def BO(l:U az):U az×U Z×U Z:=(l,l.map (·.name),l.flatMap λs=>s.bQ.map (·.name))
def alq{X:Type}(x y:X)(i:Nat):X:=match i with
 |0=>x
 |_+1=>y
def T32{r q u bd}(h:AA r q u bd):AU (Mg r.2) λs=>s=q.aT:=by
 rw[h.GX];have A:=h.G0;have L:=h.bl;have l:=λd hd=>(h.bV d hd).2
 have o:=h.ok;clear h;obtain⟨a,cj,sh,k,c,bh,bR,done,dj⟩:=q;have N:a=0\/a=1\/a=2:=by have:=o.a;dsimp only at this;omega
 have hsh:sh=none\/sh=some 0\/sh=some 1:=by
  have:=o.sh;cases sh with
  |none=>exact .inl rfl
  |some b=>
   have:=this b rfl;right;have:b=0\/b=1:=by omega
   rcases this with rfl|rfl
   .exact .inl rfl
   .exact .inr rfl
 clear o;have e3:∃n nm Q,BO ((DP.aT ⟨a,cj,sh,k,c,bh,bR,done,dj⟩).drop 1)=(n,nm,Q)/\n.length<=1:=⟨_,_,_,rfl,by rcases hsh with rfl|rfl|rfl<;>simp[DP.aT]⟩;refine fB (λj s=>match j with
  |0=>s=_
  |1=>s=([],[],[])
  |2=>s=BO ((DP.aT ⟨a,cj,sh,k,c,bh,bR,done,dj⟩).drop 1)
  |_=>s.1=DP.aT ⟨a,cj,sh,k,c,bh,bR,done,dj⟩) rfl (λj m s x hm X y=>?_) λs y=>?_
 .match j,x,y with
  |0,x,y=>
   simp at x;subst x y;refine ei (AU.mono (P:=λr=>r= .inl ([],[],[])) (AU.aV (λk(s:U az×U Z×U Z×Int)=>0<=s.2.2.2/\s.2.2.2<=u.length/\k=u.length-s.2.2.2.toNat/\s.1=[]/\s.2.1=[]/\s.2.2.1=[]) (m:=u.length) B9 ⟨by simp,by simp,by simp,rfl,rfl,rfl⟩ ?_) ?_)
   .rintro k ⟨C,D,K,i⟩ ⟨g,p,rfl,rfl,rfl,rfl⟩;dsimp only at g p |-;refine cZ (λe=>?_) λ_=>bb rfl
    simp at e;have z:IntKind.i64.wrap (i+1)=i+1:=by rw[BW];omega
    refine ei (fA ⟨g,e⟩ λd hd _=>?_);have t:(d.ah !=(0:Int))=true:=by have:=A.2 d hd;simp;omega
    rw[t];refine bb (bb ⟨_,?_,?_,?_,rfl,rfl,rfl,rfl⟩)<;>(try simp)<;>omega
   .rintro _ rfl;exact bb rfl
  |1,x,y=>
   simp at x;subst x y;refine ei (AU.mono (P:=λr=>r= .inl (BO ((DP.aT ⟨a,cj,sh,k,c,bh,bR,done,dj⟩).drop 1))) ?_ ?_)
   .rcases hsh with rfl|hsh
    .refine AU.aV (λk(s:U az×U Z×U Z×Int)=>0<=s.2.2.2/\s.2.2.2<=bd.length/\k=bd.length-s.2.2.2.toNat/\s.1=[]/\s.2.1=[]/\s.2.2.1=[]) (m:=bd.length) B9 ⟨by simp,by simp,by simp,rfl,rfl,rfl⟩ ?_;rintro k ⟨C,D,K,i⟩ ⟨g,p,rfl,rfl,rfl,rfl⟩;dsimp only at g p |-;refine cZ (λe=>?_) λ_=>bb rfl
     have e:i<bd.length:=by simpa[DP.aT]using e
     have z:IntKind.i64.wrap (i+1)=i+1:=by rw[BW];omega
     refine ei (fA ⟨g,by simpa[DP.aT]using e⟩ λd hd _=>?_)
     have t:(d.ah !=(0:Int))=true:=by have:=l d hd;simp;omega
     rw[t];refine bb (bb ⟨_,?_,?_,?_,rfl,rfl,rfl,rfl⟩)<;>(try simp)<;>omega
    .have w:∃b,sh=some b/\(b=0\/b=1):=by rcases hsh with rfl|rfl;exact⟨_,rfl,.inl rfl⟩;exact⟨_,rfl,.inr rfl⟩
     obtain⟨b,rfl,w⟩:=w;refine AU.aV (λk(s:U az×U Z×U Z×Int)=>0<=s.2.2.2/\s.2.2.2<=bd.length+1/\k=bd.length+1-s.2.2.2.toNat/\(s.1,s.2.1,s.2.2.1)=alq _ (BO ((DP.aT ⟨a,cj,some b,k,c,bh,bR,done,dj⟩).drop 1)) s.2.2.2.toNat) (m:=bd.length+1) B9 ⟨by simp,by simp;omega,by simp,rfl⟩ ?_;rintro k ⟨C,D,K,i⟩ ⟨g,p,rfl,f⟩;dsimp only at g p f |-;refine cZ (λe=>?_) λe=>bb ?_
     .have e:i<bd.length+1:=by simpa[DP.aT]using e
      have z:IntKind.i64.wrap (i+1)=i+1:=by rw[BW];omega
      by_cases i0:i=0
      .subst i0;cases f;refine ei (AU.mono (P:=λr=>r= .inl (BO ((DP.aT ⟨a,cj,some b,k,c,bh,bR,done,dj⟩).drop 1))) ⟨_,by rcases w with rfl|rfl<;>kernel_rfl,rfl⟩ ?_);rintro _ rfl;refine bb ⟨_,?_,?_,?_,rfl,rfl⟩<;>(try simp only[z])<;>omega
      .have v:i.toNat=(i.toNat-1)+1:=by omega
       rw[v]at f;cases f;refine ei (fA ⟨g,by simpa[DP.aT]using e⟩ λd _ hd=>?_);have hd:d∈bd:=by
        rw[v]at hd;exact K3 hd
       have t:(d.ah !=(0:Int))=true:=by have:=l d hd;simp;omega
       rw[t];refine bb (bb ⟨_,?_,?_,?_,rfl,?_⟩)
       .simp;omega
       .simp;omega
       .simp;omega
       .simp only[z];have:(i+1).toNat=i.toNat+1:=by omega
        rw[this];rfl
     .have e:¬i<bd.length+1:=by simpa[DP.aT]using e
      have v:i.toNat=(i.toNat-1)+1:=by omega
      rw[v]at f;cases f;rfl
   .rintro _ rfl;exact bb rfl
  |2,x,y=>
   simp at x;subst x y;refine ei (AU.mono (P:=λr=>r= .inl (DP.aT ⟨a,cj,sh,k,c,bh,bR,done,dj⟩,((DP.aT ⟨a,cj,sh,k,c,bh,bR,done,dj⟩).drop 1).map (·.name)++[iD],(((DP.aT ⟨a,cj,sh,k,c,bh,bR,done,dj⟩).drop 1).flatMap λs=>s.bQ.map (·.name))++(DP.bQ ⟨a,cj,sh,k,c,bh,bR,done,dj⟩).map (·.name))) ⟨_,?_,rfl⟩ ?_)
   .rcases N with rfl|rfl|rfl<;>rcases hsh with rfl|rfl|rfl<;>cases cj<;>cases dj<;>kernel_rfl
   .rintro _ rfl;exact bb rfl
  |j+3,x,y=>simp at x
 .exact bb y
def tS:Z:=⟨#[116,97,103]⟩
def T14{r q N bd}(h:AA r q N bd):AU (Mi r.2) λs=>s=(bU q,[]):=by
 have Lz:=T32 h;have p:=avx h.ok r.2;have t:=axP h;have u:=ajR h;have m1:=h.G0;have m2:=h.Ul;unfold Mi;refine ct Lz λss e=>?_
 subst e;have Q:=h.GX;clear Lz h;generalize hms:r.2=ms at*
 suffices hh:∀l:U aP,l=ms->AU ((bo _ _ 0 l ([],[],[])).bind _) _ from hh ms rfl
 intro l hl;rw[Q]at hl;subst hl;refine fB (λj s=>match j with
  |0=>s=([],[],[])
  |1=>s=([],[],[])
  |2=>s=([],[],[])
  |_=>s.1=[]/\s.2.2=(bU q).an) rfl (λj m s z Q hlt f=>?_) λs f=>?_
 .match j,z,f with
  |0,z,f=>
   simp only[agG,Hs]at z;subst z f;refine ei (AU.mono (P:=λr=>r= .inl ([],[],[])) (AU.aV (λk(s:U cz×U Z×Int×U V)=>0<=s.2.2.1/\s.2.2.1<=N.length/\k=N.length-s.2.2.1.toNat/\s.1=[]/\s.2.1=[]/\s.2.2.2=[]) (m:=N.length) B9 ⟨by simp,by simp,by simp,rfl,rfl,rfl⟩ ?_) ?_)
   .rintro k ⟨w,A,i,C⟩ ⟨g,D,rfl,rfl,rfl,rfl⟩;dsimp only at g D |-;refine cZ (λe=>?_) λ_=>bb rfl
    simp only[B7,FW]at e;have o:IntKind.i64.wrap (i+1)=i+1:=by rw[BW];omega
    refine ei (fA ⟨g,e⟩ λd hd _=>?_);have X:(d.ah !=(1:Int))=true:=by have:=m1.2 d hd;simp;omega
    rw[X];refine bb (bb ⟨_,?_,?_,?_,rfl,rfl,rfl,rfl⟩)<;>(try simp only[o])<;>omega
   .rintro _ rfl;exact bb rfl
  |1,z,f=>
   simp only[ahb,agG,Hs]at z;subst z f;generalize hd2:(q.aT.drop 1).map gX++bd=ds at*;refine ei (AU.mono (P:=λr=>r= .inl ([],[],[])) (AU.aV (λk(s:U cz×U Z×Int×U V)=>0<=s.2.2.1/\s.2.2.1<=ds.length/\k=ds.length-s.2.2.1.toNat/\s.1=[]/\s.2.1=[]/\s.2.2.2=[]) (m:=ds.length) B9 ⟨by simp,by simp,by simp,rfl,rfl,rfl⟩ ?_) ?_)
   .rintro k ⟨w,A,i,C⟩ ⟨g,D,rfl,rfl,rfl,rfl⟩;dsimp only at g D |-;refine cZ (λe=>?_) λ_=>bb rfl
    simp only[B7,FW]at e;have o:IntKind.i64.wrap (i+1)=i+1:=by rw[BW];omega
    refine ei (fA ⟨g,e⟩ λd hd _=>?_);have X:(d.ah !=(1:Int))=true:=by have:=m2.2 d hd;simp;omega
    rw[X];refine bb (bb ⟨_,?_,?_,?_,rfl,rfl,rfl,rfl⟩)<;>(try simp only[o])<;>omega
   .rintro _ rfl;exact bb rfl
  |2,z,f=>
   simp at z;subst z f
   let n:Nat:=3+cond q.dj 1 0
   let st:Nat->U cz×U Z×U V:=λi=>match i with
    |0=>([],[],[])
    |1=>([],[],[])
    |2=>([],[dw],[q.cy])
    |3=>([],[dw,gW],[q.ig,q.cy])
    |_=>([],[dw,gW,tS],[q.ig,q.cy,jP])
   refine ei (AU.mono (P:=λr=>r= .inl (st n)) (AU.aV (λk(s:U cz×U Z×Int×U V)=>0<=s.2.2.1/\s.2.2.1<=n/\k=n-s.2.2.1.toNat/\(s.1,s.2.1,s.2.2.2)=st s.2.2.1.toNat) (m:=n) (by cases e:q.dj<;>simp[n,e]) ⟨by simp,by simp,by simp,rfl⟩ ?_) ?_)
   .rintro k ⟨w,A,i,C⟩ ⟨g,D,rfl,y⟩;dsimp only at g D y |-;have b:(gX ⟨iD,q.bQ⟩::q.an.map iW).length=n:=by cases e:q.dj<;>simp[n,e,DP.an]
    refine cZ (λe=>?_) λe=>?_
    .simp only[B7,FW]at e;have e:i<n:=by rw[<-b];exact e
     have hn4:n<=4:=by cases e:q.dj<;>simp[n,e]
     have o:IntKind.i64.wrap (i+1)=i+1:=by rw[BW];omega
     have hi:i=0\/i=1\/i=2\/i=3:=by omega
     refine ei (fA ⟨g,by rw[b];exact e⟩ λd hd x=>?_);rcases hi with rfl|rfl|rfl|rfl
     .simp at x;cases y;subst x;refine bb (bb ⟨_,?_,?_,?_,rfl,rfl⟩)<;>(try simp only[o])<;>omega
     .have x:iW q.cy=d:=by simpa[DP.an]using x
      cases y;subst x;refine ct (P:=λr=>r=false) ⟨_,by kernel_rfl,rfl⟩ λa K=>?_
      subst K;refine cZ (λh=>by cases h) λ_=>eT (J1 rfl) (ct (Np p) λv L=>?_)
      subst L;refine AU.mono (P:=λr=>r= .inl (st 2)) ⟨_,by kernel_rfl,rfl⟩ ?_;rintro _ rfl;refine bb ⟨_,?_,?_,?_,rfl,rfl⟩<;>(try simp only[o])<;>omega
     .have x:iW q.ig=d:=by simpa[DP.an]using x
      have y:=y;cases y;subst x;refine ct (P:=λr=>r=false) ⟨_,by kernel_rfl,rfl⟩ λa K=>?_
      subst K;refine cZ (λh=>by cases h) λ_=>eT (J1 rfl) (ct (Np t) λv L=>?_)
      subst L;refine AU.mono (P:=λr=>r= .inl (st 3)) ⟨_,by kernel_rfl,rfl⟩ ?_;rintro _ rfl;refine bb ⟨_,?_,?_,?_,rfl,rfl⟩<;>(try simp only[o])<;>omega
     .have ajz:q.dj=true:=by cases et:q.dj with
       |true=>rfl
       |false=>simp[n,et]at e
      have x:iW jP=d:=by simpa[DP.an,ajz]using x
      cases y;subst x;refine ct (P:=λr=>r=false) ⟨_,by kernel_rfl,rfl⟩ λa K=>?_
      subst K;refine cZ (λh=>by cases h) λ_=>eT (J1 rfl) (ct (Np u) λv L=>?_)
      subst L;refine AU.mono (P:=λr=>r= .inl (st 4)) ⟨_,by kernel_rfl,rfl⟩ ?_;rintro _ rfl;refine bb ⟨_,?_,?_,?_,rfl,rfl⟩<;>(try simp only[o])<;>omega
    .simp only[B7,Ic]at e;have e:¬i<n:=by rw[<-b];exact e
     have:i.toNat=n:=by omega
     rw[this]at y;simp only[<-y];exact bb rfl
   .rintro _ rfl;refine bb ?_;cases et:q.dj<;>simp[st,n,et,bU]
  |j+3,z,f=>simp at z
 .obtain⟨w,A,C⟩:=s;obtain⟨rfl,h3⟩:=f;subst h3;dsimp only;obtain⟨a,cj,sh,k,c,bh,bR,done,dj⟩:=q;refine ei (AU.mono (P:=λr=>r= .inl (bU ⟨a,cj,sh,k,c,bh,bR,done,dj⟩).an) ⟨_,by cases dj<;>kernel_rfl,rfl⟩ ?_);rintro _ rfl;exact bb rfl
def P1(t:am):Prop:=(0<=t.ah/\t.ah<=2)\/t=am.mk 3 iD 0 [] []
def qy{q}(hq:q.ok){t}(h:t∈(bU q).an){c}(x:c∈t.ae):P1 c.bH:=by
 have y:=hq.k;rcases eh h with rfl|rfl|⟨rfl,_⟩
 .cases e:q.done<;>simp[DP.ig,DP.qU,e]at x
  .rcases x with rfl|rfl|rfl<;>(left;dsimp only;omega)
  .rcases x with rfl|rfl|rfl|rfl<;>(left;dsimp only;omega)
 .cases e:q.bh<;>cases e2:q.bR<;>simp[DP.cy,DP.iv,e,e2]at x
  .rcases x with rfl|rfl|rfl<;>(left;dsimp only;omega)
  .rcases x with rfl|rfl|rfl|rfl<;>(left;dsimp only;omega)
  .rcases x with rfl|rfl|rfl|rfl
   .left;dsimp only;omega
   .left;dsimp only;omega
   .left;dsimp only;omega
   .right;rfl
  .rcases x with rfl|rfl|rfl|rfl|rfl
   .left;dsimp only;omega
   .left;dsimp only;omega
   .left;dsimp only;omega
   .right;rfl
   .left;dsimp only;omega
 .simp[jP]at x;rcases x with rfl|rfl<;>(left;dsimp only;omega)
def vD:Nat->aF->Prop
 |0,_=>False
 |d+1,v=>v.au.length<=1/\v.ay.length<=8/\∀k∈v.au,vD d k
def Q9{s t n k}(h:0<=t.ah/\t.ah<=2)(y:0<=k):AU (BB (n+1) s t k) (vD 1):=by
 have z:∀{a b:Int}{x:Z},vD 1 (aF.mk a b x [] []):=by intro a b x;exact⟨by simp,by simp,by simp⟩
 unfold BB;refine cZ (λ_=>hC VQ (bb z)) λe0=>cZ (λ_=>hC VQ (fA ⟨La _ y,?_⟩ λ_ _ _=>bb z)) λe1=>cZ (λ_=>hC VQ (bb z)) λe2=>?_
 .have:=LZ k (b:=5) VQ;simpa using this
 .simp only[JR,ne_eq]at e0 e1 e2;omega
def aeP{q:DP}(hq:q.ok){ts t n k}(h:P1 t)(b:0<=k/\k<=1000000):AU (BB (n+2) ⟨q.aT,ts⟩ t k) (vD 2):=by
 rcases h with h|rfl
 .refine(Q9 h b.1).mono λv y=>⟨y.1,y.2.1,λx hx=>(y.2.2 x hx).elim⟩
 .unfold BB;refine cZ (λe=>by cases e) λ_=>cZ (λe=>by cases e) λ_=>cZ (λe=>by cases e) λ_=>?_
  have o:=hq.a;have key:∀c∈q.bQ,0<=c.arg.ah/\c.arg.ah<=2:=by
   intro c z;cases d:q.cj<;>simp[DP.bQ,d]at z
   .rcases z with rfl|rfl<;>(dsimp only;omega)
   .rcases z with rfl|rfl|rfl<;>(dsimp only;omega)
  have p:2<=q.bQ.length:=by cases d:q.cj<;>simp[DP.bQ,d]
  refine fB (λj _=>j=0) rfl (λj s _ g u _ f=>?_) λ_ f=>by simp[DP.aT]at f
  subst f;have hs:s=⟨iD,q.bQ⟩:=by simpa[DP.aT]using g.symm
  subst hs;refine cZ (λ_=>?_) λe=>by simp at e
  refine cZ (λ_=>?_) λe=>by simp only[B7,Ic]at e;omega
  have lp:(0:Int)<((q.bQ.map aG.aq).length:Int):=by simp only[B7];omega
  refine hC (show((q.bQ.map aG.aq).length:Int)≠0 by omega) (fA ⟨La _ b.1,by have:=LZ k lp;simp only[B7]at this |-;exact this⟩ λc z _=>?_);refine ei (AU.mono (P:=λr=>∃l,r= .inl l/\l.length<=1/\∀x∈l,vD 1 x) (cZ (λ_=>hC VQ ?_) λ_=>bb ⟨[],rfl,by simp,by simp⟩) ?_)
  .have:0<=k.tdiv 7:=Int.tdiv_nonneg b.1 VQ;have w:k.tdiv 7<=k:=Oo _ b.1;exact ct (Q9 (key c z) (by rw[BW];omega)) λv y=>bb ⟨[v],rfl,by simp,by simpa using y⟩
  .rintro _ ⟨l,rfl,i,m⟩;exact bb (bb ⟨i,by simp,m⟩)
def aeQ{q:DP}(hq:q.ok){ts t k}(h:P1 t)(y:qv k):AU (PD ⟨q.aT,ts⟩ t k) (vD 2):=by
 unfold PD;exact ct (MS y VQ) λv x=>ct (aeP hq (n:=999998) h ⟨x.1,by omega⟩) λv x=>bb x
def BP{a n:Int}(h:0<=a)(x:0<n):0<=a.tmod n/\a.tmod n<n:=⟨La _ h,LZ _ x⟩
def Js{a n:Int}(h:0<=a/\a<=1000000)(x:0<n):0<=IntKind.i64.wrap (a.tdiv n)/\IntKind.i64.wrap (a.tdiv n)<=1000000:=by
 have y:0<=a.tdiv n:=Int.tdiv_nonneg h.1 B9;have z:a.tdiv n<=a:=Oo _ h.1;rw[BW];omega
def avp l n:(l.any λy=>bg n y)=aJ l n:=by
 congr 1;funext y;exact lM _ _
def aeR l n:AU (Bj l n) λr=>decide (r>=0)=aJ l n:=by
 refine fB (λj _=>aJ (l.take j) n=false) (by simp[aJ]) (λj y s z a b x=>?_) λs x=>bb (by rw[Gq]at x;rw[x];rfl)
 refine cZ (λh=>bb ?_) λh=>bb ?_
 .refine bb ?_;have:aJ l n=true:=by rw[<-avp];exact It.2 ⟨y,a,h⟩
  rw[this];simp
 .have e:l.take (j+1)=l.take j++[y]:=by rw[G6,z];rfl
  rw[e];unfold aJ at x |-;rw[KW,x];rw[lM]at h;simp[h]
def Ra l n:AU (lj l n) λr=>r=aJ l n:=ct (aeR l n) λv x=>bb x
def P2 l n:AU (qq l n) λr=>decide (r<0)= !aJ l n:=by
 refine fB (λj _=>aJ (l.take j) n=false) (by simp[aJ]) (λj y s z a b x=>?_) λs x=>bb (by rw[Gq]at x;rw[x];rfl)
 refine cZ (λh=>bb ?_) λh=>bb ?_
 .refine bb ?_;have:aJ l n=true:=It.2 ⟨y,a,h⟩;rw[this];simp
 .have e:l.take (j+1)=l.take j++[y]:=by rw[G6,z];rfl
  rw[e];unfold aJ at x |-;rw[KW,x];simp[h]
def Uo a b:AU (BE a b) λr=>r=a.any λx=>aJ b x:=by
 refine fB (λj _=>((a.take j).any λx=>aJ b x)=false) NP (λj y s f g i c=>?_) λs c=>bb (by rw[<-c,Gq])
 refine ct (P2 b y) λv d=>?_
 have z:decide (v>=0)=aJ b y:=by
  cases h:aJ b y<;>rw[h]at d<;>simp at d
  .simp;omega
  .simp;omega
 refine cZ (λh=>bb ?_) λh=>bb ?_
 .rw[z]at h;exact bb (It.2 ⟨y,g,h⟩).symm
 .have e:a.take (j+1)=a.take j++[y]:=by rw[G6,f];rfl
  rw[e,KW,c];rw[z]at h;simp[h]
def yr l b:AU (rV l b) λr=>r=l.any λj=>aJ b j.ai:=by
 refine ct ?_ λv z=>bb z
 refine fB (λj _=>((l.take j).any λx=>aJ b x.ai)=false) NP (λj y s c d f a=>?_) λs a=>bb (by rw[Gq]at a;rw[a];rfl)
 have:AU (rU y b) λr=>r=aJ b y.ai:=by unfold rU;exact ct (Ra _ _) λv z=>bb z
 refine ct this λv z=>?_
 subst z;refine cZ (λh=>bb ?_) λh=>bb ?_
 .refine bb ?_;rw[It.2 ⟨y,d,h⟩];simp
 .have e:l.take (j+1)=l.take j++[y]:=by rw[G6,c];rfl
  rw[e,KW,a];simp[h]
def dU(e:J)(i:Nat):U Z:=if e.ah=11 then(if i=1 then[e.name]else[])else if e.ah=13 then(if i=0 then[]else(e.binds[i-1]?).toList)else if e.ah=10 then(if i=0 then e.ay else e.ay.take (i-1))else[]
def jf(x:Z):At:=bg x (⟨#[]⟩:Z)
def nz(l:U Z):U Z:=l.filter λx=> !jf x
def kJ{d e}(h:wB (d+1) e)i:(dU e i).length<=8:=by
 have x:=h.2.2.1;unfold dU
 repeat' split
 .simp
 .simp
 .simp
 .have:=Option.length_toList_le (o:=e.binds[i-1]?);omega
 .exact x
 .simp;omega
 .simp
def ib(i k:Nat):((i:Int)==k)=decide (i=k):=by
 by_cases h:i=k
 .simp[h]
 .simp[h];omega
def NC(i:Nat):((i:Int)==1)=decide (i=1):=ib i 1
def Vj(i:Nat):((i:Int)==0)=decide (i=0):=ib i 0
def UA{d e i b}(h:wB (d+1) e)(s:i<e.au.length)(t:b.length<=100000):AU (Hg e i b) λr=>r=b++dU e i:=by
 have w:=h.2.2.2.2.1;refine ct (P:=λr=>r=b) akw λv l=>?_
 subst l;refine ei (AU.mono (P:=λr=>r= .inl (v++dU e i)) ?_ ?_)
 .refine ct (P:=λr=>r=decide (e.ah=11/\i=1)) (cZ (λc=>bb ?_) λc=>bb ?_) λa g=>?_
  .simp at c;rw[NC];simp[c]
  .simp at c;simp[c]
  .subst g;refine cZ (λc=>?_) λc=>?_
   .simp at c;exact eT Ar (bb (by simp[dU,c.1,c.2]))
   .simp only[Ic]at c;refine ct (P:=λr=>r=decide (e.ah=13/\0<i)) (cZ (λc=>bb ?_) λc=>bb ?_) λa g=>?_
    .simp at c;simp[c]
    .simp at c;simp[c]
    .subst g;refine cZ (λz=>?_) λz=>?_
     .simp at z;have m:=h.2.1 z.1;have j:IntKind.i64.wrap (i-1)=((i-1:Nat):Int):=by rw[BW];omega
      rw[j];refine fA ⟨by omega,by omega⟩ λx _ hx=>eT Ar (bb ?_)
      have:e.binds[i-1]?=some x:=by simpa using hx
      simp[dU,z.1,this];omega
     .simp only[Ic]at z;refine ct (P:=λr=>r=decide (e.ah=10/\i=0)) (cZ (λc=>bb ?_) λc=>bb ?_) λa g=>?_
      .simp at c;rw[Vj];simp[c]
      .simp at c;simp[c]
      .subst g;have A:=h.2.2.1;refine cZ (λf=>?_) λf=>?_
       .simp at f;exact eT B9 (bb (by simp[dU,f.1,f.2]))
       .simp only[Ic]at f;refine cZ (λy=>?_) λy=>bb ?_
        .simp at y;have n:=h.1 y;have i0:i≠0:=λo=>f ⟨y,o⟩
         have j:IntKind.i64.wrap (i-1)=((i-1:Nat):Int):=by rw[BW];omega
         rw[j];have p:(e.ay.drop (0:Int).toNat).take (((i-1:Nat):Int).toNat-(0:Int).toNat)=e.ay.take (i-1):=by simp
         refine hC Ar (eT Ar (bb ?_));simp[dU,y,i0]
        .simp at y;have:dU e i=[]:=by
          unfold dU;by_cases k1:e.ah=11
          .have:i≠1:=λq=>c ⟨k1,q⟩
           simp[k1,this]
          .by_cases k:e.ah=13
           .have:i=0:=by apply L3;intro q;exact z ⟨k,by omega⟩
            simp[k,this]
           .simp[k1,k,y]
         rw[this];simp
 .rintro _ rfl;exact bb rfl
def BQ a b:nz (a++b)=nz a++nz b:=by unfold nz;exact L8 ..
def ahn x:nz [x]=cond (jf x) [] [x]:=by
 unfold nz;cases h:jf x<;>simp[h]
def Uq{p v}(h:p.length<=1000):AU (GM p v) λr=>r.map (·.name)=p.map (·.name)++nz [v.name]:=by
 refine eT Ar ?_;refine ei (AU.mono (P:=λr=>∃l:U aO,r= .inl l/\l.map (·.name)=p.map (·.name)++nz [v.name]) (cZ (λc=>eT Ar (bb ⟨_,rfl,?_⟩)) λc=>bb ⟨_,rfl,?_⟩) ?_)
 .have c:(!jf v.name)=true:=c;rw[ahn];simp at c;simp[c]
 .have c:(!jf v.name)=false:=c;rw[ahn];simp at c;simp[c]
 .rintro _ ⟨l,rfl,x⟩;exact bb x
def oK l:(nz l).length<=l.length:=LY _ _
def Zc{d e i w}(h:wB (d+1) e)(hi:i<e.au.length):AU (I3 w e i []) λr=>r.map (·.name)=nz (dU e i):=by
 have hk:=h.2.2.2.2.1;have u:∀{n:Z}{k:Int}{D:Type}{f:aO->T D}{Q:D->Prop},(∀s:aO,s.name=n->AU (f s) Q)->AU ((I0 w n k).bind f) Q:=λk=>k _ rfl
 refine ct (P:=λr=>r=decide (e.ah=11/\i=1)) (cZ (λc=>bb ?_) λc=>bb ?_) λa g=>?_
 .simp at c;rw[NC];simp[c]
 .simp at c;simp[c]
 .subst g;refine cZ (λc=>?_) λc=>?_
  .simp at c;refine u λs hs=>ct (Uq NP) λv o=>bb ?_
   rw[o,hs];simp[dU,c.1,c.2]
  .simp only[Ic]at c;refine ct (P:=λr=>r=decide (e.ah=13/\0<i)) (cZ (λc=>bb ?_) λc=>bb ?_) λa g=>?_
   .simp at c;simp[c]
   .simp at c;simp[c]
   .subst g;refine cZ (λz=>?_) λz=>?_
    .simp at z;have N:=h.2.1 z.1;have A:IntKind.i64.wrap ((i:Int)-1)=((i-1:Nat):Int):=by rw[BW];omega
     rw[A];refine fA ⟨by omega,by omega⟩ λx _ hx=>fA ⟨by omega,by omega⟩ λy _ _=>u λs hs=>ct (Uq NP) λv o=>bb ?_
     have:e.binds[i-1]?=some x:=by simpa using hx
     rw[o,hs];have i0:i≠0:=by omega
     simp[dU,z.1,this,i0]
    .simp only[Ic]at z;refine ei (AU.mono (P:=λr=>∃l:U aO,r= .inl l/\l.map (·.name)=nz (dU e i)) (cZ (λb=>?_) λb=>bb ⟨[],rfl,?_⟩) ?_)
     .simp at b;have X:=h.1 b
      let m:Nat:=if i=0 then e.ay.length else i-1
      have hm:m<=e.ay.length:=by simp only[m];split<;>omega
      refine lm (λk(s:U aO×Int)=>0<=s.2/\s.2<=m/\k=m-s.2.toNat/\s.1.map (·.name)=nz (e.ay.take s.2.toNat)) (m:=m) B9 ⟨by simp,by simp,by simp,by simp[nz]⟩ ?_;rintro k ⟨l,j⟩ ⟨K,g2,rfl,t⟩;have L:l.length<=100:=by
       have:(l.map (·.name)).length=(nz (e.ay.take j.toNat)).length:=by rw[t]
       have h2:=oK (e.ay.take j.toNat);simp at this h2;omega
      have A:IntKind.i64.wrap (j+1)=j+1:=by rw[BW];omega
      refine ct (P:=λr=>r=decide (j<m)) (cZ (λc=>cZ (λp=>bb ?_) λp=>bb ?_) λc=>bb ?_) λa g=>?_
      .simp at c;rw[Vj,FW]at p;have:j<m:=by simp only[m,p,J0];exact c
       simp[this]
      .rw[Vj,Ic]at p;have e1:IntKind.i64.wrap ((i:Int)-1)=((i-1:Nat):Int):=by rw[BW];omega
       rw[e1];simp only[m,p,JU]
      .simp at c;have:¬j<m:=by omega
       simp[this]
      .subst g;refine cZ (λc=>?_) λc=>bb (bb ⟨_,rfl,?_⟩)
       .simp at c;refine fA ⟨K,by omega⟩ λx _ hx=>?_
        rw[A];refine fA ⟨by omega,by omega⟩ λy _ _=>u λs hs=>ct (Uq B9) λv o=>bb ⟨_,?_,?_,?_,rfl,?_⟩
        .omega
        .omega
        .omega
        .have:(j+1).toNat=j.toNat+1:=by omega
         rw[o,hs,t,this,G6,hx,BQ];rfl
       .simp at c;have:j.toNat=m:=by omega
        rw[t,this];simp only[dU,b,m];split
        .simp
        .simp
     .simp at b;have:dU e i=[]:=by
       unfold dU;by_cases k1:e.ah=11
       .have:i≠1:=λq=>c ⟨k1,q⟩
        simp[k1,this]
       .by_cases C:e.ah=13
        .have:i=0:=by apply L3;intro q;exact z ⟨C,by omega⟩
         simp[C,this]
        .simp[k1,C,b]
      rw[this];rfl
     .rintro _ ⟨l,rfl,L⟩;exact bb L
def T8{d e i b}(h:wB (d+1) e)(c:i<e.au.length)(k:b.length<=100000):AU (JO e i b) λr=>r=b++nz (dU e i):=by
 refine ct (Zc h c) λl z=>?_
 have m:=kJ h i;have n:=oK (dU e i);have o:l.length=(nz (dU e i)).length:=by rw[<-z];simp
 refine ct (P:=λr=>r=b) (by unfold gu;exact eT Ar (eT Ar (bb NP))) λv f=>?_
 subst f;refine fB (λj a=>a=v++(l.take j).map (·.name)) NP (λj y a g p q x=>eT (by rw[x];simp;omega) (bb ?_)) λa x=>bb ?_
 .show a++[y.name]=_
  rw[x,G6,g];simp
 .rw[x,Gq,z]
def aiH l:nz (nz l)=nz l:=by unfold nz;simp
def ave{a b}(h:(bg a b)=true):jf a=jf b:=by
 unfold jf bg;rw[eq_of_beq h]
def yt{l n}(h:jf n=false):aJ l n=aJ (nz l) n:=by
 induction l with
 |nil=>rfl
 |cons x l y=>
  have e1:aJ (x::l) n=((bg x n)||aJ l n):=rfl;have e2:nz (x::l)=cond (jf x) (nz l) (x::nz l):=by unfold nz;cases hx:jf x<;>simp[hx]
  rw[e1,e2,y];cases hx:jf x with
  |true=>
   have:(bg x n)=false:=by
    cases z:(bg x n)with
    |false=>rfl
    |true=>rw[ave z,h]at hx;simp at hx
   rw[this];rfl
  |false=>rfl
def nR{l l' n}(h:jf n=false)(e:nz l=nz l'):aJ l n=aJ l' n:=by
 rw[yt h,yt (l:=l') h,e]
def vK:Nat->J->Prop
 |0,_=>False
 |d+1,e=>(e.ah=3->e.au=[])/\∀k∈e.au,vK d k
def L0:U Z:=JP++[⟨#[114,111,119]⟩,⟨#[114,111,119,49]⟩,⟨#[111,116,104,101,114,49]⟩,⟨#[111,116,104,101,114,50]⟩]
def vN:Nat->J->Prop
 |0,_=>False
 |d+1,e=>(e.ah=3->e.name∈L0)/\∀k∈e.au,vN d k
theorem vN.mono:∀{d e},vN d e->vN (d+1) e
 |0,_,h=>h.elim
 |d+1,_,h=>⟨h.1,λx hx=>(h.2 x hx).mono⟩
def vN.le{d x e}(h:vN d e)(l:d<=x):vN x e:=by
 induction l with
 |refl=>exact h
 |step _ y=>exact y.mono
theorem vK.mono:∀{d e},vK d e->vK (d+1) e
 |0,_,h=>h.elim
 |d+1,_,h=>⟨h.1,λx hx=>(h.2 x hx).mono⟩
def vK.le{d x e}(h:vK d e)(l:d<=x):vK x e:=by
 induction l with
 |refl=>exact h
 |step _ y=>exact y.mono
def wV(D:Nat)(a e:J):Prop:=wB D a/\vK D a/\vN D a/\(e.ah≠3->a.au.length=e.au.length)
def VR(gw:ax)(m:U (Z×aB))(w:aL):Prop:=∀n,(cv m n=none/\oS w n=some false)\/
 ∃v e js b,cv m n=some v/\oS w n=some true/\pr gw m n=some e/\MW w n=some e/\(wB 8 e/\vK 8 e/\vN 8 e)/\Q1 w n=some js/\I8 w n=some b/\v.bV=b/\v.bK.map (·.ai)=js/\js.length<=8/\jf n=false/\jf b=false/\∀j∈js,jf j=false
theorem dE.mono:∀{d e},dE d e->dE (d+1) e
 |0,_,h=>h.elim
 |d+1,e,h=>λk x=>(h k x).mono
def dE.le{d x e}(h:dE d e)(l:d<=x):dE x e:=by
 induction l with
 |refl=>exact h
 |step _ y=>exact y.mono
def iX e:J.mk e.ah e.name e.n e.s e.ay e.binds e.au e.pos e.dG=e:=by cases e;rfl
def zE:J:=J.mk (0:Int) (⟨#[]⟩) (0:Int) (⟨#[]⟩) [] [] [] (0:Int) (0:Int)
def AG(gw:ax)(m:U (Z×aB))(w:aL)(n n':Nat)(b b':U Z)(e:J)(D:Nat):Prop:=∃a k,BF n w b' e=some (a,k)/\((k=0/\wV D a e/\∀x,gA n' e b gw m x=some (a,x))\/(k=15/\a=zE/\∀x,∃y,gA n' e b gw m x=some (y,15)))
def axO{gw m w n n' d D b b' e}(h:wB (d+1) e)(hvk:vK (d+1) e)(hvn:vN (d+1) e)(hb:b.length<=90000)(hb':b'.length<=90000)(ih:∀i k,e.au[i]?=some k->AG gw m w n n' (b++dU e i) (b'++nz (dU e i)) k D):
 ∃a k,(bo (λ i17 v=>λ y=>((JO e i17 b').bind λv25=>(BF n w v25 v).bind λz=>bif (z.2 !=0)then(some (.inr (.inr ((J.mk 0 (⟨#[]⟩) 0 (⟨#[]⟩) [] [] [] 0 0),z.2))))else((ck (y.length+([z.1]:U J).length) 136).bind λv28=>some (.inl (y++[z.1]))):T ((U J)⊕((U J)⊕(J×Int))))) (λ y=>y) 0 e.au []).bind (Sum.elim (λ c22=>some ((J.mk e.ah e.name e.n e.s e.ay e.binds c22 e.pos e.dG),0)) some)=some (a,k)/\
  (
   (k=0/\wV (D+1) a e/\∀L,((fG e.au).bind λv3=>(bo (λ g v7=>λ((u,A):U J×Int)=>((Hg e g b).bind λN=>(gA n' v7 N gw m A).bind λl=>(aU (0<=(g:Int)/\g<((v3.map J.aq).length:Int))).bind λv17=>(aA u g).bind λv=>some (.inl ((u.set ((g:Int).toNat) l.1),l.2)):T ((U J×Int)⊕((U J×Int)⊕(J×Int))))) (λ((u,A):U J×Int)=>(u,A)) 0 e.au (v3,L)).bind (Sum.elim (λ((o,P):U J×Int)=>(aU ((o.map J.aq).length=(v3.map J.aq).length)).bind λv19=>some ((J.mk e.ah e.name e.n e.s e.ay e.binds o e.pos e.dG),P)) some))=some (a,L))\/
   (k=15/\a=zE/\∀L,∃e',((fG e.au).bind λv3=>(bo (λ g v7=>λ((u,A):U J×Int)=>((Hg e g b).bind λN=>(gA n' v7 N gw m A).bind λl=>(aU (0<=(g:Int)/\g<((v3.map J.aq).length:Int))).bind λv17=>(aA u g).bind λv=>some (.inl ((u.set ((g:Int).toNat) l.1),l.2)):T ((U J×Int)⊕((U J×Int)⊕(J×Int))))) (λ((u,A):U J×Int)=>(u,A)) 0 e.au (v3,L)).bind (Sum.elim (λ((o,P):U J×Int)=>(aU ((o.map J.aq).length=(v3.map J.aq).length)).bind λv19=>some ((J.mk e.ah e.name e.n e.s e.ay e.binds o e.pos e.dG),P)) some))=some (e',15))):=by
 have hk9:=h.2.2.2.2.1
 let K:Nat->Int:=λi=>((BF n w (b'++nz (dU e i)) (e.au.getD i e)).getD (e,0)).2
 let a0:Nat->J:=λi=>((BF n w (b'++nz (dU e i)) (e.au.getD i e)).getD (e,0)).1
 have hget:∀{i k},e.au[i]?=some k->e.au.getD i e=k:=λhx=>by simp[List.getD,hx]
 have hF:∀{i k},e.au[i]?=some k->BF n w (b'++nz (dU e i)) k=some (a0 i,K i)/\((K i=0/\wV D (a0 i) k/\∀L,gA n' k (b++dU e i) gw m L=some (a0 i,L))\/(K i=15/\a0 i=zE/\∀L,∃e',gA n' k (b++dU e i) gw m L=some (e',15))):=by
  intro i k hx;obtain⟨a,q,h1,h2⟩:=ih i k hx;have e1:a0 i=a:=by simp only[a0,hget hx,h1,Kj]
  have e2:K i=q:=by simp only[K,hget hx,h1,Kj]
  rw[e1,e2];exact⟨h1,h2⟩
 have YH:∀{i},i<e.au.length->JO e (i:Int) b'=some (b'++nz (dU e i)):=λX=>by
  obtain⟨r,h1,h2⟩:=T8 (b:=b') h X B9;rw[h1,h2]
 have XL:∀{i},i<e.au.length->Hg e (i:Int) b=some (b++dU e i):=λX=>by
  obtain⟨r,h1,h2⟩:=UA (b:=b) h X B9;rw[h1,h2]
 have tcl:fG e.au=some e.au:=by
  obtain⟨r,h1,h2⟩:=(show AU (fG e.au) λr=>r=e.au by unfold fG;exact eT Ar (bb rfl));rw[h1,h2]
 by_cases ai8:∀i,i<e.au.length->K i=0
 .have r1:=fB (f:=λ(i17:Nat)(v:J)=>λ(y:U J)=>((JO e (i17:Int) b').bind λv25=>(BF n w v25 v).bind λz=>bif (z.2 !=(0:Int))then(some (.inr (.inr ((J.mk (0:Int) (⟨#[]⟩) (0:Int) (⟨#[]⟩) [] [] [] (0:Int) (0:Int)),z.2))))else((ck (y.length+([z.1]:U J).length) 136).bind λv28=>some (.inl (y++[z.1]))):T ((U J)⊕((U J)⊕(J×Int)))))
   (p:=λ(y:U J)=>y) (f':=λ(c22:U J)=>some ((J.mk e.ah e.name e.n e.s e.ay e.binds c22 e.pos e.dG),(0:Int))) (g':=some) (xs:=e.au) (s:=[]) (I:=λj a=>a=(List.range j).map a0) (Q:=λr=>r=_) rfl
   (λj k a hx hm hj t=>by
    rw[YH hj];simp only[B2];rw[(hF hx).1];simp only[B2];rw[ai8 j hj];refine cZ (λc=>by simp at c) λ_=>eT (by rw[t];simp;omega) (bb ?_)
    show _=_
    rw[t,Lp,HO];rfl)
   (λa t=>bb (by rw[t]))
  obtain⟨r,e1,e2⟩:=r1;refine⟨_,_,by rw[e1,e2],.inl ⟨rfl,?_,λL=>?_⟩⟩
  .have hR:∀{i k},e.au[i]?=some k->wV D (a0 i) k:=λ{i k}hx=>by
    rcases(hF hx).2 with⟨_,hd,_⟩|⟨C,_⟩
    .exact hd
    .rw[ai8 i (LI.1 hx).1]at C;simp at C
   have hm:∀k∈(List.range e.au.length).map a0,wB D k/\vK D k/\vN D k:=λk hk=>by
    obtain⟨i,X,rfl⟩:=Hr.1 hk;have:=hR (K6 (KY.1 X));exact⟨this.1,this.2.1,this.2.2.1⟩
   have hl:((List.range e.au.length).map a0).length=e.au.length:=by simp
   refine⟨⟨λq=>hl.trans (h.1 q),λq=>by show List.length _<=_;rw[hl];exact h.2.1 q,h.2.2.1,h.2.2.2.1,by show List.length _<=_;rw[hl];exact hk9,λk hk=>(hm k hk).1⟩,⟨λq=>KE (by rw[hl,hvk.1 q];rfl),λk hk=>(hm k hk).2.1⟩,⟨hvn.1,λk hk=>(hm k hk).2.2⟩,λ_=>hl⟩
  .rw[tcl];simp only[B2];have r2:=fB (f:=λ(g:Nat)(v7:J)=>λ((u,A):U J×Int)=>((Hg e (g:Int) b).bind λN=>(gA n' v7 N gw m A).bind λl=>(aU (0<=(g:Int)/\(g:Int)<((e.au.map J.aq).length:Int))).bind λv17=>(aA u (g:Int)).bind λv=>some (.inl ((u.set ((g:Int).toNat) l.1),l.2))))
    (p:=λ((u,A):U J×Int)=>(u,A)) (f':=λ((o,P):U J×Int)=>(aU ((o.map J.aq).length=(e.au.map J.aq).length)).bind λv19=>some ((J.mk e.ah e.name e.n e.s e.ay e.binds o e.pos e.dG),P)) (g':=some) (xs:=e.au) (s:=(e.au,L))
    (I:=λj a=>a=((List.range j).map a0++e.au.drop j,L)) (Q:=λr=>r=(J.mk e.ah e.name e.n e.s e.ay e.binds ((List.range e.au.length).map a0) e.pos e.dG,L)) rfl
    (λj k a hx hm hj t=>by
     subst t;dsimp only;rw[XL hj];simp only[B2];have hf:=(hF hx).2;rcases hf with⟨_,_,hf⟩|⟨C,_⟩
     .rw[hf L];simp only[B2];refine hC ⟨by omega,by simpa using hj⟩ (fA ⟨by omega,by simp;omega⟩ λx _ _=>bb ?_)
      show _=_
      have e3:e.au.drop j=k::e.au.drop (j+1):=by
       rw[NW hj];congr 1;have:=K6 hj;rw[hx]at this;simpa using this.symm
      rw[e3,JX,List.set_append_right _ _ NP,Lp,HO];simp
     .rw[ai8 j hj]at C;simp at C)
    (λa t=>by
     subst t;exact hC NP (bb NP))
   obtain⟨r,e3,e4⟩:=r2;rw[e3,e4]
 .have aoC:∃i,i<e.au.length/\K i≠0:=by
   apply L3;intro hn;exact ai8 λi X=>L3 λhc=>hn ⟨i,X,hc⟩
  have r1:=fB (f:=λ(i17:Nat)(v:J)=>λ(y:U J)=>((JO e (i17:Int) b').bind λv25=>(BF n w v25 v).bind λz=>bif (z.2 !=(0:Int))then(some (.inr (.inr ((J.mk (0:Int) (⟨#[]⟩) (0:Int) (⟨#[]⟩) [] [] [] (0:Int) (0:Int)),z.2))))else((ck (y.length+([z.1]:U J).length) 136).bind λv28=>some (.inl (y++[z.1]))):T ((U J)⊕((U J)⊕(J×Int)))))
   (p:=λ(y:U J)=>y) (f':=λ(c22:U J)=>some ((J.mk e.ah e.name e.n e.s e.ay e.binds c22 e.pos e.dG),(0:Int))) (g':=some) (xs:=e.au) (s:=[]) (I:=λj a=>a.length=j/\∀i,i<j->K i=0) (Q:=λr=>r=(zE,15)) ⟨rfl,λi X=>absurd X B9⟩
   (λj k a hx hm hj t=>by
    rw[YH hj];simp only[B2];rw[(hF hx).1];simp only[B2];refine cZ (λc=>bb (bb ?_)) λc=>eT Ar (bb ⟨by simp[t.1],λi X=>?_⟩)
    .simp only[KZ,ne_eq]at c;rcases(hF hx).2 with⟨h0,_⟩|⟨C,_⟩
     .exact absurd h0 c
     .show(_,K j)=_;rw[C];rfl
    .simp only[bne_eq_false_iff_eq]at c;by_cases e:i=j
     .subst e;exact c
     .exact t.2 i B9)
   (λa t=>by
    obtain⟨i,X,hc⟩:=aoC;exact absurd (t.2 i X) hc)
  obtain⟨r,e1,e2⟩:=r1;subst e2;refine⟨zE,15,e1,.inr ⟨rfl,rfl,λL=>?_⟩⟩;rw[tcl];simp only[B2];have r2:=fB (f:=λ(g:Nat)(v7:J)=>λ((u,A):U J×Int)=>((Hg e (g:Int) b).bind λN=>(gA n' v7 N gw m A).bind λl=>(aU (0<=(g:Int)/\(g:Int)<((e.au.map J.aq).length:Int))).bind λv17=>(aA u (g:Int)).bind λv=>some (.inl ((u.set ((g:Int).toNat) l.1),l.2)):T ((U J×Int)⊕((U J×Int)⊕(J×Int)))))
   (p:=λ((u,A):U J×Int)=>(u,A)) (f':=λ((o,P):U J×Int)=>(aU ((o.map J.aq).length=(e.au.map J.aq).length)).bind λv19=>some ((J.mk e.ah e.name e.n e.s e.ay e.binds o e.pos e.dG),P)) (g':=some) (xs:=e.au) (s:=(e.au,L))
   (I:=λj a=>a.1.length=e.au.length/\((∃i,i<j/\K i≠0)->a.2=15)) (Q:=λr=>r.2=15) ⟨rfl,λ⟨i,X,_⟩=>absurd X B9⟩
   (λj k a hx hm hj t=>by
    obtain⟨u,A⟩:=a;dsimp only at t |-;rw[XL hj];simp only[B2];rcases(hF hx).2 with⟨h0,_,hf⟩|⟨C,_,hf⟩
    .rw[hf A];simp only[B2];refine hC ⟨by omega,by simpa using hj⟩ (fA ⟨by omega,by omega⟩ λx _ _=>bb ⟨by simp[t.1],λ⟨i,X,hc⟩=>t.2 ⟨i,?_,hc⟩⟩);by_cases e:i=j
     .subst e;exact absurd h0 hc
     .omega
    .obtain⟨e',hf⟩:=hf A;rw[hf];simp only[B2];exact hC ⟨by omega,by simpa using hj⟩ (fA ⟨by omega,by omega⟩ λx _ _=>bb ⟨by simp[t.1],λ_=>rfl⟩))
   (λa t=>by
    obtain⟨u,A⟩:=a;dsimp only at t |-;have:=t.2 aoC;subst this;exact hC (by simp[t.1]) (bb rfl))
  obtain⟨⟨r,k⟩,e3,e4⟩:=r2;dsimp only at e4;subst e4;exact⟨r,e3⟩
def cF{y:Type}{o}{x:y}(h:AU o λr=>r=x):o=Option.some x:=by
 obtain⟨a,e,r⟩:=h;rw[e,r]
def Ze{gw m w}(hv:VR gw m w):∀{d n n' b b' e},wB d e->vK d e->vN d e->d<=n->d<=n'->b.length+9*d<=90000->b'.length+9*d<=90000->nz b=nz b'->AG gw m w n n' b b' e (d+8)
 |0,_,_,_,_,_,h,_,_,_,_,_,_,_=>h.elim
 |d+1,0,_,_,_,_,_,_,_,l,_,_,_,_=>absurd l B9
 |d+1,_+1,0,_,_,_,_,_,_,_,l,_,_,_=>absurd l B9
 |d+1,n+1,n'+1,b,b',e,h,u,A,hn,hn',hb,hb',C=>by
  have L:=axO (gw:=gw) (m:=m) (w:=w) (n:=n) (n':=n') (D:=d+8) (b:=b) (b':=b') h u A B9 B9 (λi k hk=>by
   have h8:=kJ h i;have hz:=oK (dU e i);exact Ze hv (h.2.2.2.2.2 k (K3 hk)) (u.2 k (K3 hk)) (A.2 k (K3 hk)) B9 B9 Ar Ar (by rw[BQ,BQ,aiH,C]))
  obtain⟨a,k,l1,l2⟩:=L;have dG:BF (n+1) w b' e=(bo (λ(i17:Nat)(K:J)=>λ(z:U J)=>((JO e (i17:Int) b').bind λv25=>(BF n w v25 K).bind λc=>bif (c.2 !=(0:Int))then(some (.inr (.inr ((J.mk (0:Int) (⟨#[]⟩) (0:Int) (⟨#[]⟩) [] [] [] (0:Int) (0:Int)),c.2))))else((ck (z.length+([c.1]:U J).length) 136).bind λv28=>some (.inl (z++[c.1]))))) (λ(z:U J)=>z) 0 e.au []).bind (Sum.elim (λ(c22:U J)=>some ((J.mk e.ah e.name e.n e.s e.ay e.binds c22 e.pos e.dG),(0:Int))) some)->
   (∀y,gA (n'+1) e b gw m y=((fG e.au).bind λv3=>(bo (λ(N:Nat)(v7:J)=>λ((a4,a5):U J×Int)=>((Hg e (N:Int) b).bind λv15=>(gA n' v7 v15 gw m a5).bind λP=>(aU (0<=(N:Int)/\(N:Int)<((v3.map J.aq).length:Int))).bind λv17=>(aA a4 (N:Int)).bind λK=>some (.inl ((a4.set ((N:Int).toNat) P.1),P.2)))) (λ((a4,a5):U J×Int)=>(a4,a5)) 0 e.au (v3,y)).bind (Sum.elim (λ((Q,c12):U J×Int)=>(aU ((Q.map J.aq).length=(v3.map J.aq).length)).bind λv19=>some ((J.mk e.ah e.name e.n e.s e.ay e.binds Q e.pos e.dG),c12)) some)))->
   AG gw m w (n+1) (n'+1) b b' e (d+1+8):=by
   intro q1 q2;refine⟨a,k,by rw[q1];exact l1,?_⟩;rcases l2 with⟨x1,x2,x3⟩|⟨x1,x4,x3⟩
   .exact .inl ⟨x1,by rw[show d+1+8=d+8+1 by omega];exact x2,λy=>by rw[q2];exact x3 y⟩
   .exact .inr ⟨x1,x4,λy=>by rw[q2];exact x3 y⟩
  rcases hv e.name with⟨h1,h2⟩|⟨v,ex,js,p,h1,h2,h3,h4,⟨h5,h5b,h5c⟩,h6,h7,h8,h9,h10,h11,h12,X⟩
  .refine dG ?_ λy=>?_
   .show(oS w e.name).bind _=_
    rw[h2];simp only[B2];cases(e.ah==3)<;>rfl
   .show(kX e b gw m y).bind _=_
    unfold kX;rw[h1];cases(e.ah !=3)<;>rfl
  .have hbe:=nR h11 C;have um:=P2 b' e.name;obtain⟨r70,e70,r⟩:=um;have lS:=cF (Ra b e.name);by_cases t:e.ah=3/\aJ b e.name=false
   .have c3:(e.ah==3)=true:=by simp[t.1]
    have c4:(e.ah !=3)=false:=by simp[t.1]
    rw[t.2]at lS;rw[<-hbe,t.2]at r;have aqz:(js++[p]).any (λx=>aJ b' x)=((v.bK.any λj=>aJ b j.ai)||aJ b p):=by
     rw[KW,<-h9,List.any_map];have:(v.bK.any ((λx=>aJ b' x)∘λx=>x.ai))=v.bK.any λj=>aJ b j.ai:=by
      rw[M8,It,It];constructor
      .rintro⟨x,hx,hy⟩;exact⟨x,hx,by rw[nR (X _ (by rw[<-h9];exact Hr.2 ⟨x,hx,rfl⟩)) C];exact hy⟩
      .rintro⟨x,hx,hy⟩;exact⟨x,hx,by rw[nR (X _ (by rw[<-h9];exact Hr.2 ⟨x,hx,rfl⟩)) C]at hy;exact hy⟩
     rw[this,nR h12 C];simp
    have PJ:=cF (Uo (js++[p]) b');rw[aqz]at PJ;have t26:=cF (yr v.bK b);have aoD:=cF (Ra b v.bV);rw[h8]at aoD;have f:BF (n+1) w b' e=bif ((v.bK.any λj=>aJ b j.ai)||aJ b p)then some ((J.mk (0:Int) (⟨#[]⟩) (0:Int) (⟨#[]⟩) [] [] [] (0:Int) (0:Int)),(15:Int))else some (ex,0):=by
     show(oS w e.name).bind _=_
     rw[h2];simp only[B2];rw[c3];simp only[G1,B2];rw[e70];simp only[B2,r,H9,G1];rw[h6,h7];simp only[B2];have hck:∀{k:Nat},k<=9->ck k 16=some ():=λhk=>by unfold ck;rw[BX B9]
     rw[hck Ar];simp only[B2];rw[PJ,h4];simp only[B2]
    have g:∀y,gA (n'+1) e b gw m y=some (ex,bif ((v.bK.any λj=>aJ b j.ai)||aJ b p)then 15 else y):=by
     intro y
     show(kX e b gw m y).bind _=_
     unfold kX kb;rw[h1];simp only[Option.elim];rw[c4];simp only[FM,B2];rw[lS];simp only[FM,B2];rw[t26];simp only[B2];rw[h8,aoD,h3];cases(v.bK.any λj=>aJ b j.ai)<;>cases aJ b p<;>rfl
    cases o:(_||aJ b p)with
    |false=>
     rw[o]at f g;exact⟨ex,0,f,.inl ⟨rfl,⟨h5.le B9,h5b.le B9,h5c.le B9,λq=>absurd t.1 q⟩,λy=>g y⟩⟩
    |true=>
     rw[o]at f g;exact⟨_,15,f,.inr ⟨rfl,rfl,λy=>⟨ex,g y⟩⟩⟩
   .refine dG ?_ λy=>?_
    .show(oS w e.name).bind _=_
     rw[h2];simp only[B2];cases c3:(e.ah==3)with
     |false=>rfl
     |true=>
      simp only[G1,B2];rw[e70];simp only[B2,r];have:aJ b' e.name=true:=by
       rw[<-hbe];cases hq:aJ b e.name with
       |true=>rfl
       |false=>exact absurd ⟨by simpa using c3,hq⟩ t
      rw[this];rfl
    .show(kX e b gw m y).bind _=_
     unfold kX;rw[h1];cases c3:(e.ah !=3)with
     |true=>rfl
     |false=>
      simp only[FM,B2];have:aJ b e.name=true:=by
       cases hq:aJ b e.name with
       |true=>rfl
       |false=>exact absurd ⟨by simpa using c3,hq⟩ t
      rw[lS,this];rfl
def Nk{gw m w}(y:VR gw m w){b e}(h:wB 12 e)(z:vK 12 e)(c:vN 12 e)(f:b.length<=100):
 ∃a k,pD gw m b e=some (a,k)/\BF 1000000 w b e=some (a,k)/\(k=0->wV 20 a e):=by
 obtain⟨a,k,d,x⟩:=Ze (b:=b) y h z c (by decide:12<=1000000) (by decide:12<=1000000) B9 B9 rfl;refine⟨a,k,?_,d,?_⟩
 .unfold pD;rcases x with⟨rfl,_,q⟩|⟨rfl,rfl,q⟩
  .rw[q 0];rfl
  .obtain⟨g,q⟩:=q 0;rw[q];rfl
 .rintro rfl;rcases x with⟨_,q,_⟩|⟨q,_⟩
  .exact q
  .cases q
def nT(gw:ax)(w:aL)(n:Z):Prop:=∃t x:V,iC gw.yG n=some (t,true)/\iC w.yG n=some (x,true)/\t.ae.map (·.name)=x.ae.map (·.name)/\t.ae.length<=1000/\t.key.length<=1000/\t.aX.length<=1000
def fD{a b}(h:bg a b=true):a=b:=by
 have:=eq_of_beq h;obtain⟨⟨l⟩⟩:=a;simp only at this;rw[this]
def iY{l x}(h:aJ l x=true):x∈l:=by
 obtain⟨y,z,e⟩:=It.1 h;exact fD e▸z
def G2{x:Type}(f:x->x->At):U x->U x->At
 | [],[]=>true
 |a::r,b::q=>f a b&&G2 f r q
 |_,_=>false
def oL{x:Type}{f}(y:∀a b,f a b=true->a=b):{l k:U x}->G2 f l k=true->l=k
 | [],[],_=>rfl
 |a::r,b::q,h=>by
  simp[G2]at h;rw[y _ _ h.1,oL y h.2]
 | [],_::_,h=>by simp[G2]at h
 |_::_,[],h=>by simp[G2]at h
def Zf:Nat->J->J->At
 |0,_,_=>false
 |d+1,⟨k,n,v,s,ns,bs,ks,p,f⟩,⟨a,n',b,c,x,y,z,e,f'⟩=>k==a&&bg n n'&&v==b&&bg s c&&G2 bg ns x&&G2 bg bs y&&G2 (Zf d) ks z&&p==e&&f==f'
def IB{y:Type}{f}:{l k:U y}->G2 f l k=true->∀a∈l,∃b,f a b=true
 |a::r,b::q,h,x,hx=>by
  simp[G2]at h;rcases BV.1 hx with rfl|hx
  .exact⟨b,h.1⟩
  .exact IB h.2 x hx
 | [],_,_,x,hx=>by simp at hx
def BS:∀{d a b},Zf d a b=true->a=b/\dE d a
 |0,_,_,h=>by simp[Zf]at h
 |d+1,⟨k,n,v,s,ns,bs,ks,p,f⟩,⟨u,n',w,A,z,c,e,C,f'⟩,h=>by
  simp[Zf]at h;obtain⟨⟨⟨⟨⟨⟨⟨⟨g,i⟩,j⟩,l⟩,m⟩,h6⟩,y⟩,o⟩,q⟩:=h;have r:=oL (λa b h=>(BS h).1) y;refine⟨by rw[g,fD i,j,fD l,oL (λ_ _=>fD) m,oL (λ_ _=>fD) h6,r,o,q],λx hx=>?_⟩;obtain⟨b,t⟩:=IB y x hx;exact(BS t).2
def Zg:Nat->J->At
 |0,_=>false
 |d+1,e=>(e.ah !=10||e.au.length==e.ay.length+1)&&((e.ah !=13||decide (e.au.length<=e.binds.length+1))&&(decide (e.ay.length<=8)&&(decide (e.binds.length<=8)&&(decide (e.au.length<=9)&&((e.ah !=3||(e.au.isEmpty&&aJ L0 e.name))&&e.au.all (Zg d))))))
def ahk:∀{d e},Zg d e=true->wB d e/\vK d e/\vN d e
 |0,_,h=>by simp[Zg]at h
 |d+1,e,h=>by
  simp[Zg]at h;obtain⟨z,a,b,c,f,h6,g⟩:=h;have q:=λk x=>ahk (g k x)
  exact⟨⟨λq=>z.resolve_left λn=>n q,λq=>a.resolve_left λn=>n q,b,c,f,λk x=>(q k x).1⟩,⟨λq=>(h6.resolve_left λn=>n q).1,λk x=>(q k x).2.1⟩,⟨λp=>by
   obtain⟨y,i,e⟩:=It.1 (h6.resolve_left λn=>n p).2;exact fD e▸i,λk x=>(q k x).2.2⟩⟩
def Zh(gw:ax)(m:U (Z×aB))(w:aL)(n:Z):At:=
 match cv m n,oS w n with
 |none,some b=> !b
 |some v,some b=>b&&match pr gw m n,MW w n with
  |some e,some x=>(Zf 30 e x&&Zg 8 e)&&match Q1 w n,I8 w n with
   |some js,some b=>bg v.bV b&&G2 bg (v.bK.map (·.ai)) js&&decide (js.length<=8)&& !jf n&& !jf b&&js.all λj=> !jf j
   |_,_=>false
  |_,_=>false
 |_,_=>false
def N6(gw:ax)(m:U (Z×aB))(w:aL):At:=(w.gj.an.all λt=>Zh gw m w t.name)&&m.all λp=>w.gj.an.any λt=>bg t.name p.1
def tT{x:Type}{n}:{m:U (Z×x)}->(∀p∈m,p.1≠n)->cv m n=none
 | [],_=>rfl
 |p::r,h=>by
  have y:(bg n p.1)=false:=by
   cases z:(bg n p.1)with
   |false=>rfl
   |true=>exact absurd (fD z).symm (h p NP)
  show cond (bg n p.1) _ _=_
  rw[y];exact tT λq hq=>h q DS
def aeV{s n}(h:∀t∈s.an,t.name≠n):AU (iC s n) λr=>r.2=false:=by
 refine fB (λ_ _=>True) trivial (λj y a z x b d=>?_) λ_ _=>bb rfl
 exact cZ (λc=>absurd (fD c) (h y x)) λ_=>bb trivial
def aiJ{gw m w}(h:N6 gw m w=true):VR gw m w:=by
 unfold N6 at h;rw[BR,H0,H0]at h;intro n;by_cases d:∃t∈w.gj.an,t.name=n
 .obtain⟨t,y,rfl⟩:=d;have x:=h.1 t y;unfold Zh at x;split at x
  .rename_i e1 e2;simp at x;subst x;exact .inl ⟨e1,e2⟩
  .rename_i v b e1 e2;rw[BR]at x;obtain⟨rfl,x⟩:=x;split at x
   .rename_i e s e3 e4;rw[BR]at x;obtain⟨a,x⟩:=x;simp at a;obtain⟨a,c⟩:=a;obtain⟨rfl,_⟩:=BS a;have hd:=ahk c;split at x
    .rename_i js b f g;simp at x;obtain⟨⟨⟨⟨⟨i,j⟩,k⟩,l⟩,o⟩,q⟩:=x;exact .inr ⟨v,e,js,b,e1,e2,e3,e4,hd,f,g,fD i,oL (λ_ _=>fD) j,k,l,o,q⟩
    .simp at x
   .simp at x
  .simp at x
 .have z:=λt y e=>d ⟨t,y,e⟩
  left;refine⟨tT λp hp e=>?_,?_⟩
  .have:=h.2 p hp;rw[It]at this;obtain⟨t,y,e2⟩:=this;exact z t y (by rw[fD e2,e])
  .unfold oS;obtain⟨r,e1,e2⟩:=aeV z;rw[e1];simp[e2]
def OB(s:aj)(x:GStep):T (Int×U az×U V):=
 let i:=Hf s x
 let u:=s.an.getD i aQ
 bif decide (x.ah=5)then xB s.aT s.an i u x else bif decide (x.ah=0)then xn s.aT s.an i u x else bif decide (x.ah=1)then xt s.aT s.an i u x else
 bif decide (x.ah=2)then xw s.aT s.an i u x else bif decide (x.ah=3)then xz s.aT s.an i u x else bif decide (x.ah=4)then xA s.aT s.an i u x else
 bif decide (x.ah=6)then xD s.aT s.an i u x else bif decide (x.ah=7)then xE s.aT s.an i u x else none
def OA(s:aj)(x:GStep):T (aj×Int):=
 bif (x.ah==(0:Int))then TK s x else bif (x.ah==(1:Int))then TN s x else bif (x.ah==(2:Int))then TQ s x else bif (x.ah==(3:Int))then TR s x else
 bif (x.ah==(4:Int))then TT s x else bif (x.ah==(5:Int))then TV s x else bif (x.ah==(6:Int))then TW s x else TX s x
def BT(s:aj)(ts:U V):U Z:=(s.an++ts).map (·.name)
def Zi(gw:ax)(x:GStep):T (U (Z×aB)):=
 bif decide (x.ah=0)then mj gw []else bif decide (x.ah=1)then ml gw []else bif decide (x.ah=2)then mm gw []else bif decide (x.ah=3)then mn gw []else
 bif decide (x.ah=4)then none else bif decide (x.ah=5)then some []else bif decide (x.ah=6)then mo gw []else bif decide (x.ah=7)then kW gw []else none
def P4(a b:aj)(n:Z):At:=match iC a n,iC b n with
 |some (t,c),some (x,y)=>(c&&y)&&(G2 bg (t.ae.map (·.name)) (x.ae.map (·.name))&&(decide (t.ae.length<=1000)&&(decide (t.key.length<=1000)&&decide (t.aX.length<=1000))))
 |_,_=>false
def anm{gw w n}(h:P4 gw.yG w.yG n=true):nT gw w n:=by
 unfold P4 at h;split at h
 .rename_i t c x d e1 e2;simp at h;obtain⟨⟨rfl,rfl⟩,y,z,a,b⟩:=h;exact⟨t,x,e1,e2,oL (λ_ _=>fD) y,z,a,b⟩
 .cases h
structure RW(s:aj)(x:GStep)(gw:ax)(m:List (ByteArray×aB))(w:aL):Prop where
 o1:gw.gj=s
 o2:w.gj=s
 x1:gw.x=x
 x2:w.x=x
 us:gw.eJ=w.u
 ul:w.u.length<=s.an.length+8
 h25:Zi gw x=some m
 nt:x.ah≠0->nT gw w x.ai
 nn:x.ah=3->nT gw w x.name
 h6:x.ah=6->2<=x.ae.length/\x.ae.length<=8
 uL:∀n∈w.u,n∈L0
def AB(s:aj)(x:GStep):Prop:=(∃k w,k≠0/\Ox s x=some (.inl k)/\TY s x=some (w,k))\/∃gw m w,Ox s x=some (.inr (gw,m))/\TY s x=some (w,0)/\VR gw m w/\RW s x gw m w
def lT(s:aj)(x:GStep):At:=match OB s x,OA s x with
 |some (k,z,ts),some (a,b)=>k==b&&(k !=0||match GO a with
  |some y=>(decide (y.an.length<=8)&&(G2 bg (ts.map (·.name)) (y.an.map (·.name))&&((x.ah==0||P4 ⟨z,ts⟩ y x.ai)&&((x.ah !=3||P4 ⟨z,ts⟩ y x.name)&&((x.ah !=6||(decide (2<=x.ae.length)&&decide (x.ae.length<=8)))&&(BT s y.an).all (aJ L0))))))&&(decide (ts.length<=8)&&match Zi (ax.mk s ⟨z,ts⟩ x (BT s ts)) x with
   |some m=>N6 (ax.mk s ⟨z,ts⟩ x (BT s ts)) m (aL.mk s y x (BT s y.an))
   |none=>false)
  |none=>false)
 |_,_=>false
def T60{a b}(m:a.length<=100)(n:b.length<=100):Z4 [a,b]=some (a++b):=by
 refine cF ?_;have w:∀{z:Int},0<=z->z<=1000->IntKind.i64.wrap z=z:=λh k=>by rw[BW];omega
 refine fB (λj(s:Int)=>0<=s/\s<=100*j) ⟨by simp,by simp⟩ (λj y s f d g x=>?_) λs x=>?_
 .have f:y.length<=100:=by
   simp at d;rcases d with rfl|rfl<;>assumption
  simp at g;have e:IntKind.i64.wrap (s+((y.map V.aq).length))=s+y.length:=by rw[B7];exact w B9 B9
  rw[e];refine cZ (λc=>?_) λ_=>bb ?_
  .simp at c;omega
  .show _/\_
   omega
 .simp at x;refine ct (by unfold xF;exact hC B9 (bb rfl)) λv i=>?_
  subst i;refine fB (λj s=>s=([a,b].take j).flatten) rfl (λj y s f d g x=>?_) λs x=>bb (by rw[x];simp)
  have l:y.length<=100:=by
   simp at d;rcases d with rfl|rfl<;>assumption
  simp at g;refine eT ?_ (bb ?_)
  .have:(([a,b].take j).flatten).length<=200:=by
    have:j=0\/j=1:=by omega
    rcases this with rfl|rfl<;>simp<;>omega
   rw[x];omega
  .show _=_
   rw[x,G6,f];simp
def oM{γ:Type}{xs acc f' g'}{Q:γ->Prop}(d:xs.length<=200)(e:acc.length<=200)(k:AU (f' (acc++xs.map (·.name))) Q):
 AU ((bo (λ f(a:V)=>λ x=>((ck (x.length+([a.name]:U Z).length) 16).bind λb=>some (.inl (x++[a.name])):T ((U Z)⊕((U Z)⊕γ)))) (λ x=>x) 0 xs acc).bind (Sum.elim f' g')) Q:=by
 refine fB (λj s=>s=acc++(xs.take j).map (·.name)) NP (λj y s c g i z=>?_) λs z=>by rw[z,Gq];exact k
 refine eT (by rw[z];simp;omega) (bb ?_)
 rw[z,G6,c];simp
def axN{q:DP}(hq:q.ok):Nr (bU q)=some 0:=by
 have z:=hq.c;have x:=hq.a;have y:=hq.k;have hs:=hq.sh;obtain⟨a,cj,sh,k,c,bh,bR,done,dj⟩:=q;simp only[fb,BV,G9,G8]at z;simp only at x y hs;have x:a=0\/a=1\/a=2:=by omega
 have y:k=0\/k=1:=by omega
 have hs:sh=none\/sh=some 0\/sh=some 1:=by
  cases sh with
  |none=>exact .inl rfl
  |some b=>have:=hs b rfl;rcases(show b=0\/b=1 by omega)with rfl|rfl<;>simp
 clear hq;have e0:xe (bU ⟨a,cj,sh,k,c,bh,bR,done,dj⟩).an=some true:=by
  clear z x y hs;cases bh<;>cases bR<;>cases done<;>cases dj<;>(show _=some true)<;>as_aux_lemma=>kernel_rfl
 have e1:Sw (bU ⟨a,cj,sh,k,c,bh,bR,done,dj⟩)=some true:=by
  clear z x y hs e0;cases sh<;>cases cj<;>cases bh<;>cases bR<;>cases done<;>cases dj<;>(show _=some true)<;>as_aux_lemma=>kernel_rfl
 have e2:SE (bU ⟨a,cj,sh,k,c,bh,bR,done,dj⟩)=some true:=by
  clear z x y hs e0 e1;cases sh<;>cases cj<;>cases bh<;>cases bR<;>cases done<;>cases dj<;>(show _=some true)<;>as_aux_lemma=>kernel_rfl
 have e3:ST (bU ⟨a,cj,sh,k,c,bh,bR,done,dj⟩)=some true:=by
  clear y e0 e1 e2;rcases x with rfl|rfl|rfl<;>rcases hs with rfl|rfl|rfl<;>rcases z with rfl|rfl|rfl|rfl|rfl<;>cases cj<;>cases dj<;>(show _=some true)<;>as_aux_lemma=>kernel_rfl
 have e4:SU (bU ⟨a,cj,sh,k,c,bh,bR,done,dj⟩)=some true:=by
  clear z x y hs e0 e1 e2 e3;cases bh<;>cases bR<;>cases done<;>cases dj<;>(show _=some true)<;>as_aux_lemma=>kernel_rfl
 have d:SY (bU ⟨a,cj,sh,k,c,bh,bR,done,dj⟩)=some true:=by
  clear z e0 e1 e2 e3 e4;rcases x with rfl|rfl|rfl<;>rcases y with rfl|rfl<;>rcases hs with rfl|rfl|rfl<;>cases cj<;>cases bh<;>cases bR<;>cases done<;>cases dj<;>(show _=some true)<;>as_aux_lemma=>kernel_rfl
 have e:SZ (bU ⟨a,cj,sh,k,c,bh,bR,done,dj⟩)=some true:=by
  clear z x hs e0 e1 e2 e3 e4 d;rcases y with rfl|rfl<;>cases bh<;>cases bR<;>cases done<;>cases dj<;>(show _=some true)<;>as_aux_lemma=>kernel_rfl
 unfold Nr;rw[e0,e1,e2,e3,e4,d,e];clear e0 e1 e2 e3 e4 d e z x y hs;cases dj<;>rfl
def axM{q:DP}(hq:q.ok):PH (bU q)=some 0:=by
 have z:=hq.c;have x:=hq.a;have y:=hq.k;have hs:=hq.sh;obtain⟨a,cj,sh,k,c,bh,bR,done,dj⟩:=q;simp only[fb,BV,G9,G8]at z;simp only at x y hs;have x:a=0\/a=1\/a=2:=by omega
 have y:k=0\/k=1:=by omega
 have hs:sh=none\/sh=some 0\/sh=some 1:=by
  cases sh with
  |none=>exact .inl rfl
  |some b=>have:=hs b rfl;rcases(show b=0\/b=1 by omega)with rfl|rfl<;>simp
 clear hq;have e0:PG (bU ⟨a,cj,sh,k,c,bh,bR,done,dj⟩)=some []:=by
  refine cF ?_;unfold PG;refine ei (AU.mono (P:=λr=>r= .inl (false,false,(DP.mk a cj sh k c bh bR done dj).aT.map (·.name),(DP.mk a cj sh k c bh bR done dj).aT.flatMap λs=>s.bQ.map (·.name))) ⟨_,?_,rfl⟩ ?_)
  .clear z y;rcases x with rfl|rfl|rfl<;>rcases hs with rfl|rfl|rfl<;>cases cj<;>(show _=some _)<;>as_aux_lemma=>kernel_rfl
  rintro _ rfl;refine ei (AU.mono (P:=λr=>r= .inl (false,false,false,false,false,false,false,(bU (DP.mk a cj sh k c bh bR done dj)).an.map (·.name))) ⟨_,?_,rfl⟩ ?_)
  .clear hs;cases bh with
   |false=>clear x;rcases z with rfl|rfl|rfl|rfl|rfl<;>rcases y with rfl|rfl<;>cases bR<;>cases done<;>cases dj<;>(show _=some _)<;>as_aux_lemma=>kernel_rfl
   |true=>rcases z with rfl|rfl|rfl|rfl|rfl<;>rcases y with rfl|rfl<;>cases bR<;>cases done<;>cases dj<;>rcases x with rfl|rfl|rfl<;>cases cj<;>(show _=some _)<;>as_aux_lemma=>kernel_rfl
  rintro _ rfl;refine⟨_,?_,rfl⟩;clear z y x hs;cases cj<;>cases sh<;>cases dj<;>(show _=some _)<;>as_aux_lemma=>kernel_rfl
 unfold PH;rw[e0];rfl
def alY(t:V):At:=(match m7 t.aH with
 |some l=>match pt l t with|some b=> !b|none=>false
 |none=>false)&&match qT t.aH with
 |some l=>l.all λn=>match lJ t n with|some i=>decide (0<=i)|none=>false
 |none=>false
def tU{q:DP}(hq:q.ok){t:V}(h:t∈(bU q).an):(∃l,m7 t.aH=some l/\pt l t=some false)/\∃l,qT t.aH=some l/\l.all (λn=>match lJ t n with|some i=>decide (0<=i)|none=>false)=true:=by
 have y:alY t=true:=by
  rcases eh h with rfl|rfl|⟨rfl,_⟩
  .clear h;obtain⟨a,cj,sh,k,c,bh,bR,done,dj⟩:=q;clear hq;cases done<;>(show _=true)<;>as_aux_lemma=>kernel_rfl
  .clear h;have d:=hq.c;obtain⟨a,cj,sh,k,c,bh,bR,done,dj⟩:=q;clear hq;simp only[fb,BV,G9,G8]at d;rcases d with rfl|rfl|rfl|rfl|rfl<;>cases bh<;>cases bR<;>(show _=true)<;>as_aux_lemma=>kernel_rfl
  .kernel_rfl
 unfold alY at y;rw[BR]at y;obtain⟨x,z⟩:=y;constructor
 .split at x
  .rename_i l e;refine⟨l,e,?_⟩;split at x
   .rename_i b e2;rw[e2];simp only[Ko]at x;rw[x]
   .simp at x
  .simp at x
 .split at z
  .rename_i l e;exact⟨l,e,z⟩
  .simp at z
def axL{s:aj}{i:Nat}(hs:s.aT.length<=100)(c:s.an.length<=100)(m:∀t∈s.an,t.ae.length<=100/\t.key.length<=100/\t.aX.length<=100):LF i s=some (s.aT,s.an,s.an.getD i aQ)/\rH i s=some (s.aT,s.an,s.an.getD i aQ):=by
 have al:∀{f g:V->T Unit},(∀t∈s.an,f t=some ()/\g t=some ())->uy (λ(e:Nat)(z:V)=>bif decide (e=i)then f z else g z) 0 s.an=some ():=by
  intro f g h;have:∀(l:U V)(j:Nat),(∀t∈l,f t=some ()/\g t=some ())->uy (λ(e:Nat)(z:V)=>bif decide (e=i)then f z else g z) j l=some ():=by
   intro l
   induction l with
   |nil=>intro j _;rfl
   |cons a r n=>
    intro j h;have x:=h a NP;have y:=n (j+1) λt c=>h t (by simp[c])
    unfold uy;cases decide (j=i)
    .simp only[FM,x.2,B2];exact y
    .simp only[G1,x.1,B2];exact y
  exact this _ _ h
 have cl:∀{d:Type}{l:U d}{b:Nat},l.length<=100->b<=300->ck (([]:U d).length+l.length) b=some ():=by
  intro d l b h o;have x:(([]:U d).length+l.length)*b<=100*300:=Nat.mul_le_mul Do o;unfold ck;rw[BX B9]
 constructor
 .refine cF ?_;unfold LF pv pw;rw[cl hs VQ,cl c VQ];simp only[B2];refine hC B9 ?_;rw[al λt h=>?_]
  .exact bb rfl
  .obtain⟨x,y,k⟩:=m t h;unfold nF pu xd zR qm zT;simp only[cl x (show 96<=300 by decide),cl y (show 16<=300 by decide),cl k (show 32<=300 by decide),B2,and_self]
 .refine cF ?_;unfold rH pv pw;rw[cl hs VQ,cl c VQ];simp only[B2];refine hC B9 ?_;rw[al λt h=>?_]
  .exact bb rfl
  .obtain⟨x,y,k⟩:=m t h;unfold nF pu xc zR qm zT;simp only[cl x (show 96<=300 by decide),cl y (show 16<=300 by decide),cl k (show 32<=300 by decide),B2,and_self]
def tW{q:DP}(hq:q.ok):(bU q).aT.length<=100/\(bU q).an.length<=100/\∀t∈(bU q).an,t.ae.length<=100/\t.key.length<=100/\t.aX.length<=100:=by
 refine⟨?_,?_,λt h=>?_⟩
 .simp only[bU];cases e:q.sh<;>simp[DP.aT,e]
 .have:=(kI q).2;omega
 .have x:=iJ h;refine⟨by omega,?_,by omega⟩;rcases eh h with rfl|rfl|⟨rfl,_⟩
  .simp[DP.ig]
  .simp[DP.cy]
  .simp[jP]
def L59{q:DP}(hq:q.ok){x:GStep}(z:x.ah∈([0,1,2,3,4,5,6,7]:U Int)):Z3 (bU q) x=(OB (bU q) x).bind λr=>bif r.1 !=0 then some (⟨[],[]⟩,r.1)else some (⟨r.2.1,r.2.2⟩,0):=by
 have y:=tW hq;obtain⟨d,e⟩:=axL (i:=Hf (bU q) x) y.1 y.2.1 y.2.2;unfold Z3;rw[axN hq,d,e];have f:(bo (λ(m:Nat)(c:V)=>λ(_:Unit)=>((m7 c.aH).bind λa=>(pt a c).bind λb=>bif b then none else(some (.inl ())):T (Unit⊕(Unit⊕(aj×Int))))) (λ(_:Unit)=>()) 0 (bU q).an ())=some (.inl ()):=by
  refine cF ?_;refine AU.bo (λ_ _=>True) trivial (λj t s _ g _=>?_) λ_ _=>rfl
  have k:t∈(bU q).an:=K3 g;obtain⟨l,e1,e2⟩:=(tU hq k).1;rw[e1];simp only[B2];rw[e2];exact bb trivial
 rw[f];have hd:decide (x.ah<(0:Int))=false/\decide (x.ah>=(8:Int))=false/\aU (0<=x.ah/\x.ah<(8:Int))=some ():=by
  simp only[BV,G9,G8]at z;rcases z with h|h|h|h|h|h|h|h<;>rw[h]<;>exact⟨rfl,rfl,rfl⟩
 rw[hd.1,hd.2.1,hd.2.2];unfold OB;simp only[BV,G9,G8]at z;rcases z with h|h|h|h|h|h|h|h<;>rw[h]<;>rfl
def L27{q:DP}(hq:q.ok){x:GStep}(a:x.ah∈([0,1,2,3,4,5,6,7]:U Int)):MX (bU q) x=(OA (bU q) x).bind λr=>bif r.2 !=0 then some (⟨[],[]⟩,r.2)else(GO r.1).bind λs=>some (s,0):=by
 unfold MX;rw[axM hq];have p:(bo (λ(C:Nat)(m:V)=>λ(_:Unit)=>((qT m.aH).bind λb=>(bo (λ(u:Nat)(d:Z)=>λ(_:Unit)=>((lJ m d).bind λe=>bif decide (e<(0:Int))then none else(some (.inl ())):T (Unit⊕(Unit⊕(Unit⊕(Unit⊕(aj×Int))))))) (λ(_:Unit)=>()) 0 b ()).bind (Sum.elim (λ(_:Unit)=>some (.inl ())) some):T (Unit⊕(Unit⊕(aj×Int))))) (λ(_:Unit)=>()) 0 (bU q).an ())=some (.inl ()):=by
  refine cF ?_;refine AU.bo (λ_ _=>True) trivial (λj t s _ v _=>?_) λ_ _=>rfl
  have w:t∈(bU q).an:=K3 v;obtain⟨l,e1,e2⟩:=(tU hq w).2;rw[e1];simp only[B2];rw[H0]at e2;refine fB (λ_ _=>True) trivial (λj n s _ A _ _=>?_) λ_ _=>bb trivial
  have e3:=e2 n A;cases e4:lJ t n with
  |none=>rw[e4]at e3;simp at e3
  |some i=>
   rw[e4]at e3;simp only[FW]at e3;exact cZ (λc=>by simp only[FW]at c;omega) λ_=>bb trivial
 rw[p];have hd:decide (x.ah<(0:Int))=false/\decide (x.ah>(7:Int))=false:=by
  simp only[BV,G9,G8]at a;rcases a with h|h|h|h|h|h|h|h<;>rw[h]<;>exact⟨rfl,rfl⟩
 rw[hd.1,hd.2];unfold OA;have dG:∀o:T (aj×Int),((o.bind λy=>some (.inl (y.2,y.1.aT,y.1.an)):T ((Int×U az×U V)⊕(aj×Int))).bind (Sum.elim (λ((z,f,g):Int×U az×U V)=>bif (z !=(0:Int))then(some ((aj.mk [] []),z))else((GO (aj.mk f g)).bind λk=>some (k,(0:Int)))) some))=o.bind λr=>bif r.2 !=0 then some (⟨[],[]⟩,r.2)else(GO r.1).bind λs=>some (s,0):=by
  intro o;cases o<;>rfl
 simp only[BV,G9,G8]at a;rcases a with h|h|h|h|h|h|h|h<;>rw[h]<;>exact dG _
def qz{q:DP}(hq:q.ok){x:GStep}(e:x.ah∈([0,1,2,3,4,5,6,7]:U Int))(h:lT (bU q) x=true):AB (bU q) x:=by
 have z:=L59 hq e;have y:=L27 hq e;have g:=tW hq;unfold lT at h;split at h
 .rename_i k A ts C D e1 e2;rw[e1]at z;rw[e2]at y;simp only[B2]at z y;rw[BR,HV]at h;obtain⟨rfl,h⟩:=h;cases f:(k !=0)with
  |true=>
   rw[f]at z y;simp only[G1]at z y;have c:∃w,TY (bU q) x=some (w,k):=by
    unfold TY;rw[y];simp only[B2,f,G1];exact⟨_,rfl⟩
   obtain⟨w,c⟩:=c;refine .inl ⟨k,w,by simpa using f,?_,c⟩;unfold Ox;rw[z];simp only[B2,f,G1]
  |false=>
   have k0:k=0:=by simpa using f
   subst k0;rw[f]at h;rw[Bool.false_or]at h;simp only[GY,FM]at z y;split at h
   .rename_i K e3;rw[e3]at y;simp only[B2]at y;simp only[BR,K5,HV,KZ,ne_eq,FW]at h;obtain⟨⟨s,d,i,j,l,o⟩,t,h⟩:=h;have d:=oL (λ_ _=>fD) d;split at h
    .rename_i m e4;refine .inr ⟨_,m,_,?_,?_,aiJ h,⟨rfl,rfl,rfl,rfl,by simp[BT,d],by simp[BT];omega,e4,λk=>anm (i.resolve_left k),λk=>anm (j.resolve_left λn=>n k),λk=>l.resolve_left λn=>n k,λn u=>iY (H0.1 o n u)⟩⟩
     .unfold Ox;rw[z];simp only[B2,GY,FM];rw[T60 g.2.1 B9];simp only[B2];refine cF (oM Ar NP ?_);have p:aU (0<=x.ah/\x.ah<(8:Int))=some ():=by
       simp only[BV,G9,G8]at e;rcases e with h|h|h|h|h|h|h|h<;>rw[h]<;>rfl
      rw[p];unfold OC;simp only[B2,LW];simp only[BV,G9,G8]at e;unfold Zi at e4;rcases e with h|h|h|h|h|h|h|h<;>rw[h]at e4 |-
      .have a:mj _ _=some m:=e4
       show AU ((mj _ _).bind _) _
       exact ct (P:=λr=>r=m) ⟨m,a,rfl⟩ λv b=>bb Eh
      .have a:ml _ _=some m:=e4
       show AU ((ml _ _).bind _) _
       exact ct (P:=λr=>r=m) ⟨m,a,rfl⟩ λv b=>bb Eh
      .have a:mm _ _=some m:=e4
       show AU ((mm _ _).bind _) _
       exact ct (P:=λr=>r=m) ⟨m,a,rfl⟩ λv b=>bb Eh
      .have a:mn _ _=some m:=e4
       show AU ((mn _ _).bind _) _
       exact ct (P:=λr=>r=m) ⟨m,a,rfl⟩ λv b=>bb Eh
      .cases(show none=some m from e4)
      .have a:some []=some m:=e4;exact⟨_,rfl,by rw[<-GZ a];rfl⟩
      .have a:mo _ _=some m:=e4
       show AU ((mo _ _).bind _) _
       exact ct (P:=λr=>r=m) ⟨m,a,rfl⟩ λv b=>bb Eh
      .have a:kW _ _=some m:=e4
       show AU ((kW _ _).bind _) _
       exact ct (P:=λr=>r=m) ⟨m,a,rfl⟩ λv b=>bb Eh
     .unfold TY;rw[y];simp only[B2,GY,FM];refine cF (oM B9 NP (oM B9 Ar (bb ?_)));simp[BT]
    .simp at h
   .simp at h
 .simp at h
def BU(s:ak):At:= !jf s.name
def axK p:AU (pA p) λr=>(r= -1/\p.filter BU=p)\/∃k:Nat,r=k/\k<p.length/\(p.take k).filter BU=p.take k/\∃s,p[k]?=some s/\BU s=false:=by
 unfold pA;refine fB (λj _=>(p.take j).filter BU=p.take j) NP (λj s a hs z y x=>cZ (λc=>bb (bb (.inr ⟨j,rfl,y,x,s,hs,by unfold BU jf;rw[c];rfl⟩))) λc=>bb ?_) λ_ x=>bb (.inl ⟨rfl,by rwa [Gq]at x⟩)
 show(p.take (j+1)).filter BU=_
 rw[G6,hs,L8,x];have:BU s=true:=by unfold BU jf;rw[c];rfl
 simp[List.filter,this]
def axJ{p}(h:p.length<=1000):AU (mq p) λr=>r.1=p.filter BU:=by
 unfold mq;refine ct (axK p) λv g=>?_
 rcases g with⟨rfl,g⟩|⟨k,rfl,C,q,s,hs,t⟩
 .refine cZ (λ_=>hC NP (bb ?_)) λc=>by simp at c
  simp[g]
 .refine cZ (λc=>?_) λ_=>?_
  .have:((k:Int)== -1)=false:=by simp
   rw[this]at c;cases c
  .have e:∀j:Nat,j<=1001->IntKind.i64.wrap ((j:Int)+1)=((j+1:Nat):Int):=λj l=>by rw[BW];omega
   refine lm (m:=p.length-(k+1)) (λc(s:Int×Int×U ak)=>∃i j:Nat,s.1=i/\s.2.1=j/\i<j/\j<=p.length/\c=p.length-j/\s.2.2.length=p.length/\s.2.2.take i=(p.take j).filter BU/\s.2.2.drop j=p.drop j) B9 ⟨k,k+1,rfl,e k B9,by omega,by omega,rfl,rfl,?_,rfl⟩ ?_
   .rw[G6,hs,L8,q];simp[List.filter,t]
   rintro c ⟨_,_,a⟩ ⟨i,j,rfl,rfl,u,w,rfl,z,b,hd⟩;dsimp only at z b hd |-;refine cZ (λc=>?_) λc=>bb ?_
   .simp only[B7,FW]at c;have l:j<p.length:=by omega
    refine ei (hC Ar (fA ⟨by omega,by omega⟩ λx hx f=>?_));have d:p[j]?=some x:=by
     have:(a.drop j)[0]?=(p.drop j)[0]?:=by rw[hd]
     simpa[L1,f]using this.symm.trans (by simpa[L1]using f)
    have hD:a.drop (j+1)=p.drop (j+1):=by
     have:=JV (List.drop 1) hd;simpa[NL,LL]using this
    have A:((p.take j).filter BU).length=i:=by rw[<-b,JB];omega
    refine cZ (λn=>?_) λn=>?_
    .refine hC Ar (fA ⟨by omega,by omega⟩ λy _ _=>?_);refine bb (bb ⟨p.length-(j+1),by omega,i+1,j+1,e i B9,e j B9,by omega,by omega,rfl,by simpa using z,?_,?_⟩)
     .show((a.set i x).take (i+1))=_
      have o:BU x=true:=n;have e1:(a.set i x).take i=a.take i:=by rw[List.take_set,NV Ar]
      have e2:(a.set i x)[i]?=some x:=M7 B9;rw[G6,e1,e2,G6,d,L8,<-b];simp[List.filter,o]
     .show(a.set i x).drop (j+1)=_
      rw[List.drop_set_of_lt B9,hD]
    .refine bb (bb ⟨p.length-(j+1),by omega,i,j+1,rfl,e j B9,by omega,by omega,rfl,z,?_,hD⟩)
     .have o:BU x=false:=n;rw[G6,d,L8,b];simp[List.filter,o]
   .simp only[B7,Ic]at c;have l:j=p.length:=by omega
    have f:a.take i=p.filter BU:=by rw[b,l,Gq]
    refine hC Ar (hC (by simp[z]) ?_);dsimp only;refine hC Ar (hC (by simp[z];omega) (hC Ar (bb ?_)))
    show(List.take _ _)=_
    simp only[JX,Nat.sub_zero,MI];rw[NO Ar,List.take_take,Nat.min_self,f]
def apS(p:U ak):(p.filter BU).map (·.name)=nz (p.map (·.name)):=by
 unfold nz;rw[List.filter_map];rfl
def apL{d e i o1 o2}(h:wB (d+1) e)(hi:i<e.au.length):AU (rM o1 o2 e i) λr=>r.map (·.name)=nz (dU e i)/\r.length<=8:=by
 have h8:=kJ h i;have hz:=oK (dU e i);have len:∀{r:U ak},r.map (·.name)=nz (dU e i)->r.map (·.name)=nz (dU e i)/\r.length<=8:=λ{r}q=>⟨q,by have:=JV List.length q;simp only[B7]at this;omega⟩
 have dG:∀{p:U ak},p.length<=8->p.map (·.name)=dU e i->AU ((mq p).b λv=>some v.1) λr=>r.map (·.name)=nz (dU e i)/\r.length<=8:=λ{p}hp q=>ct (axJ B9) λv l=>bb (len (by rw[l,apS,q]))
 have nil:dU e i=[]->AU ((nI).b λv=>some v) λr=>r.map (·.name)=nz (dU e i)/\r.length<=8:=λq=>by
  refine ct (P:=λr=>r=[]) ?_ λv l=>bb (len (by rw[l,q];rfl))
  unfold nI;exact ct (P:=λr=>r= -1) ⟨-1,rfl,rfl⟩ λv l=>cZ (λ_=>bb rfl) λc=>by rw[l]at c;cases c
 have hk:=h.2.2.2.2.1;unfold rM;refine ct (P:=λr=>r=decide (e.ah=11/\i=1)) (cZ (λc=>bb ?_) λc=>bb ?_) λa n=>?_
 .simp only[HV]at c;rw[NC];simp[c]
 .simp only[JR,ne_eq]at c;simp[c]
 .subst n;refine cZ (λc=>?_) λc=>?_
  .simp only[FW]at c;exact ct (P:=λr=>r.name=e.name) ⟨_,rfl,rfl⟩ λs hs=>eT NP (dG NP (by simp[dU,c.1,c.2,hs]))
  .simp only[Ic]at c;refine ct (P:=λr=>r=decide (e.ah=13/\0<i)) (cZ (λc=>bb ?_) λc=>bb ?_) λa n=>?_
   .simp only[HV]at c;simp[c]
   .simp only[JR,ne_eq]at c;simp[c]
   .subst n;refine cZ (λg=>?_) λg=>?_
    .simp only[FW]at g;have K:=h.2.1 g.1;have t:IntKind.i64.wrap ((i:Int)-1)=((i-1:Nat):Int):=by rw[BW];omega
     rw[show w6 ((i:Int)-1)=((i-1:Nat):Int)from t];refine fA ⟨by omega,by omega⟩ λx _ hx=>fA ⟨by omega,by omega⟩ λy _ _=>ct (P:=λr=>r.name=x) ⟨_,rfl,rfl⟩ λs hs=>eT NP (dG NP ?_)
     have:e.binds[i-1]?=some x:=by simpa using hx
     have i0:i≠0:=by omega
     simp[dU,g.1,this,i0,hs]
    .simp only[Ic]at g;have hn:=h.2.2.1;refine cZ (λk=>?_) λk=>nil ?_
     .simp only[HV]at k;have L:=h.1 k
      let m:Nat:=if i=0 then e.ay.length else i-1
      have D:m<=e.ay.length:=by simp only[m];split<;>omega
      have hA:dU e i=e.ay.take m:=by by_cases w:i=0<;>simp[dU,k,m,w]
      refine fB (λj(s:Unit⊕U ak)=>Sum.elim (λ_=>e.ay.take (min j m)=[]) (λa=>a.map (·.name)=e.ay.take (min j m)/\a≠ []) s) NP (λj x s hx N Q z=>?_) λs z=>?_
      .have q:AU (Y ((i:Int)==0) (some true) (some (decide ((j:Int)<w6 ((i:Int)-1))))) λr=>r=decide (j<m):=by
        refine cZ (λc=>bb ?_) λc=>bb ?_
        .rw[Vj,FW]at c;have:j<m:=by simp only[m,c,J0];exact Q
         simp[this]
        .rw[Vj,Ic]at c;have e1:w6 ((i:Int)-1)=((i-1:Nat):Int):=by show IntKind.i64.wrap _=_;rw[BW];omega
         rw[e1];simp only[m,c,JU];simp
       have t:w6 ((j:Int)+1)=((j+1:Nat):Int):=by show IntKind.i64.wrap _=_;rw[BW];omega
       have st:j<m->e.ay.take (min (j+1) m)=e.ay.take (min j m)++[x]:=λA=>by
        rw[Nat.min_eq_left B9,Nat.min_eq_left B9,G6,hx];rfl
       have ns:¬j<m->min (j+1) m=min j m:=λA=>by omega
       cases s with
       |inl u=>
        refine ct q λa n=>?_
        subst n;refine cZ (λc=>?_) λc=>bb ?_
        .simp only[FW]at c;rw[t];refine fA ⟨by omega,by omega⟩ λy _ _=>ct (P:=λr=>r.name=x) ⟨_,rfl,rfl⟩ λs hs=>eT NP (bb ?_)
         show _/\_
         have z:e.ay.take (min j m)=[]:=z;rw[st c,z];simp[hs]
        .simp only[Ic]at c
         show e.ay.take (min (j+1) m)=[]
         rw[ns c];exact z
       |inr a=>
        obtain⟨z,f⟩:a.map (·.name)=e.ay.take (min j m)/\a≠ []:=z;have o:a.length<=8:=by have:=JV List.length z;simp only[B7,JB]at this;omega
        refine ct q λb X=>?_
        subst X;refine cZ (λc=>?_) λc=>bb ?_
        .simp only[FW]at c;rw[t];refine fA ⟨by omega,by omega⟩ λy _ _=>ct (P:=λr=>r.name=x) ⟨_,rfl,rfl⟩ λs hs=>hC (by simp;exact KS.2 f) (eT Ar (bb ?_))
         show _/\_
         rw[st c,<-z];simp[hs]
        .simp only[Ic]at c
         show _/\_
         rw[ns c];exact⟨z,f⟩
      .cases s with
       |inl u=>
        have z:e.ay.take (min e.ay.length m)=[]:=z;rw[Nat.min_eq_right D]at z;exact nil (hA.trans z)
       |inr a=>
        obtain⟨z,f⟩:a.map (·.name)=e.ay.take (min e.ay.length m)/\a≠ []:=z;rw[Nat.min_eq_right D]at z;have o:a.length<=8:=by have:=JV List.length z;simp only[B7,JB]at this;omega
        exact dG o (z.trans hA.symm)
     .simp only[JR,ne_eq]at k;unfold dU;by_cases k1:e.ah=11
      .have:i≠1:=λq=>c ⟨k1,q⟩
       simp[k1,this]
      .by_cases C:e.ah=13
       .have:i=0:=by apply L3;intro q;exact g ⟨C,by omega⟩
        simp[C,this]
       .simp[k1,C,k]
def ij a b x:aJ (a++b) x=(aJ a x||aJ b x):=KW
def Qd l x:AU (BC l x) λr=>r=aJ l x:=by
 unfold BC;refine fB (λj _=>aJ (l.take j) x=false) (by simp[aJ]) (λj y s a b d z=>cZ (λc=>bb (bb ?_)) λc=>bb ?_) λs z=>bb (by rw[Gq]at z;rw[z])
 .exact(It.2 ⟨y,b,c⟩).symm
 .show aJ (l.take (j+1)) x=false
  rw[G6,a,ij,z];simp[aJ,c]
def anc{d e i o1 o2 s}(h:wB (d+1) e)(c:i<e.au.length):AU (rO o1 o2 e i s) λr=>∀x,(py r x).2=(aJ (nz (dU e i)) x||(py s x).2):=by
 unfold rO;refine ct (apL h c) λv⟨b,n⟩=>?_
 refine fB (λj a=>∀x,(py a x).2=(aJ ((v.take j).map (·.name)) x||(py s x).2)) (by simp[aJ]) (λj y a f g o z=>?_) λa z=>bb λx=>by rw[z,Gq,b]
 have k:jf y.name=false:=by
  have:y.name∈nz (dU e i):=by rw[<-b];exact Hr.2 ⟨y,g,rfl⟩
  simpa[nz]using(Lk.1 this).2
 refine ct (P:=λr=>r=y::a) ?_ λr l=>bb ?_
 .unfold S3
  show AU (cond (jf y.name) none (some (y::a))) _
  rw[k];exact bb rfl
 .subst l;intro x;rw[G6,f,HO,ij]
  show(cond (bg y.name x) (y,true) (py a x)).2=_
  have:=z x;cases m:bg y.name x<;>simp[aJ,m,this]<;>simpa[aJ]using this
def aeY{d e i b}(h:wB (d+1) e)(c:i<e.au.length)(g:b.length<=100000):AU (PF e i b) λr=>r=b++nz (dU e i):=by
 unfold PF;refine ct (Zc h c) λl z=>?_
 have k:=kJ h i;have m:=oK (dU e i);have n:l.length=(nz (dU e i)).length:=by rw[<-z];simp
 refine eT Ar ?_;refine fB (λj a=>a=b++(l.take j).map (·.name)) NP (λj y a f o p x=>eT (by rw[x];simp;omega) (bb ?_)) λa x=>bb ?_
 .show a++[y.name]=_
  rw[x,G6,f];simp
 .rw[x,Gq,z]
def pR(e:J)(j:Nat):Nat:=if e.ah=10 then(j+1) % e.au.length else j
def yu{e j}(h:j<e.au.length):pR e j<e.au.length:=by
 unfold pR;split
 .exact Nat.mod_lt _ B9
 .exact h
def Zj{e}(h:e.au.length<=9):AU (Nz e) λr=>r.length=e.au.length/\∀j,j<e.au.length->r[j]?=some (pR e j:Int):=by
 unfold Nz;refine fB (λj(a:U Int)=>a=(List.range j).map λ(i:Nat)=>(i:Int)) NP (λj y a k l f z=>eT (by rw[z];simp;omega) (bb ?_)) λa z=>?_
 .show a++[(j:Int)]=_
  rw[z,Lp,HO];rfl
 .have x:a.length=e.au.length:=by rw[z];simp
  refine ct (P:=λr=>r=decide (e.ah=10/\0<e.au.length)) (cZ (λc=>bb ?_) λc=>bb ?_) λb g=>?_
  .simp only[HV]at c;simp[c,x]
  .simp only[JR,ne_eq]at c;simp[c]
  .subst g;refine ei (cZ (λc=>?_) λc=>bb (bb ⟨x,λj f=>?_⟩))
   .simp only[FW]at c;refine hC (by simp only[ZR,CU,B7,x];omega) (eT (by simp[x];omega) (bb (bb ⟨by simp[x];omega,λj f=>?_⟩)))
    show(a.drop 1++[0])[j]?=_
    unfold pR;rw[BX c.1];by_cases d:j+1<e.au.length
    .rw[Nat.mod_eq_of_lt d,Ld Ar,L1,z];have:1+j=j+1:=by omega
     rw[this,K9,List.getElem?_range d];rfl
    .have e1:j+1=e.au.length:=by omega
     rw[e1,Nat.mod_self,P5 Ar];have:j-(a.drop 1).length=0:=by simp;omega
     rw[this];rfl
   .simp only[Ic]at c;unfold pR;rw[BY (λq=>c ⟨q,by omega⟩),z,K9,List.getElem?_range f];rfl
def Ju{c:Type}[DecidableEq c]:{a b:U c}->a.Nodup->(∀x∈a,x∈b)->a.length<=b.length
 | [],_,_,_=>K8 _
 |x::a,b,nd,h=>by
  have hx:=h x NP;have z:=MF.1 nd;have:=Ju z.2 λy d=>(List.mem_erase_of_ne (λq:y=x=>z.1 (q▸d))).2 (h y (by simp[d]))
  rw[List.length_erase_of_mem hx]at this;have:=List.length_pos_of_mem hx;simp;omega
def Jv(l:U Z):Prop:=l.Nodup/\∀x∈l,x∈L0
def Jv.len{l}(h:Jv l):l.length<=98:=KV (Ju h.1 h.2) VQ
def var_eq{e s b acc}(hs:∀x,jf x=false->(py s x).2=aJ b x)(d:Jv acc)(j:e.name∈L0)(k:e.ah=3)n':
 ∃r,Jv r/\JN (n'+1) e b acc=some r/\
  AU (Y (e.ah==3) ((S4 s e.name).b λl=>(Y (!l.2) (some (!bg e.name bk)) (some false)).bind (λm=>(Y m ((lj acc e.name).b λf=>some (!f)) (some false)).bind (λn=>Y n ((ck (acc.length+([e.name]:U Z).length) 16).b λo=>il (acc++[e.name])) (il acc)))) (il acc:T (U Z⊕U Z))) λx=>x= .inl r:=by
 let r:=cond (!jf e.name&& !aJ b e.name&& !aJ acc e.name) (acc++[e.name]) acc
 have i:(e.ah==3)=true:=by simp[k]
 have p:=d.len;have z:(acc.length+([e.name]).length)*16<=140737488355328:=by simp;omega
 refine⟨r,?_,?_,?_⟩
 .simp[r];cases hq:(!jf e.name&& !aJ b e.name&& !aJ acc e.name)
  .exact d
  .simp at hq;refine⟨Lc.2 ⟨d.1,by simp,λx hx y q=>?_⟩,λx hx=>?_⟩
   .rintro rfl;have:x=e.name:=by simpa using q
    subst this;have:aJ acc e.name=true:=It.2 ⟨_,hx,gO _⟩;rw[hq.2]at this;cases this
   .rcases Hy.1 hx with hx|hx
    .exact d.2 x hx
    .have:x=e.name:=by simpa using hx
     subst this;exact j
 .refine cF ?_;refine cZ (λ_=>?_) λc=>by rw[i]at c;cases c
  refine ct (Qd _ _) λv a=>?_
  subst a;refine ct (P:=λx=>x=(aJ b e.name||aJ acc e.name)) (cZ (λc=>bb (by simp[c])) λc=>ct (Qd _ _) λw t=>bb (by simp[c,t])) λx hx=>?_
  refine ct (P:=λx=>x=(! _&& !jf e.name)) (cZ (λc=>bb CE) λc=>bb CE) λx hx=>?_
  refine ei (AU.mono (P:=λx=>x= .inl r) (cZ (λc=>eT z (bb ?_)) λc=>bb ?_) ?_)
  .simp[r];cases g:jf e.name<;>simp_all
  .simp[r];cases g:jf e.name<;>cases u:aJ b e.name<;>simp_all
  .rintro _ rfl;exact bb rfl
 .refine cZ (λ_=>?_) λc=>by rw[i]at c;cases c
  refine ct ⟨_,rfl,rfl⟩ λv a=>?_
  subst a;refine ct (P:=λx=>x=(!(py s e.name).2&& !jf e.name)) (cZ (λc=>bb CE) λc=>bb CE) λx hx=>?_
  subst hx;refine ct (P:=λx=>x=((!(py s e.name).2&& !jf e.name)&& !aJ acc e.name)) (cZ (λc=>ct (Ra _ _) λv a=>bb (by rw[c,a];rfl)) λc=>bb CE) λx hx=>?_
  subst hx;have hq:((!(py s e.name).2&& !jf e.name)&& !aJ acc e.name)=(!jf e.name&& !aJ b e.name&& !aJ acc e.name):=by
   cases g:jf e.name
   .rw[hs _ g];cases aJ b e.name<;>simp
   .simp
  refine cZ (λc=>eT z (bb ?_)) λc=>bb ?_
  .rw[hq]at c;simp only[r,c];rfl
  .rw[hq]at c;simp only[r,c];rfl
def Rb{o1 o2}:∀{d n n' e s b acc},wB d e->vK d e->vN d e->d<=n->d<=n'->b.length+8*d<=90000->Jv acc->(∀x,jf x=false->(py s x).2=aJ b x)->
 ∃r,mr n e s acc o1 o2=some r/\JN n' e b acc=some r/\Jv r
 |0,_,_,_,_,_,_,h,_,_,_,_,_,_,_=>h.elim
 |d+1,0,_,_,_,_,_,_,_,_,h,_,_,_,_=>absurd h B9
 |d+1,_,0,_,_,_,_,_,_,_,_,h,_,_,_=>absurd h B9
 |d+1,n+1,n'+1,e,s,b,acc,h,hv,q,hn,hn',hb,ha,hs=>by
  have t:=h.2.2.2.2.1;by_cases A:e.ah=3
  .obtain⟨r,C,D,L⟩:=var_eq hs ha (q.1 A) A n';have h0:=hv.1 A;refine⟨r,cF ?_,D,C⟩;refine ei (L.mono ?_);rintro _ rfl;refine ct (Zj t) λv⟨N,_⟩=>?_
   have:v=[]:=KE (by rw[N,h0];rfl);subst this;exact bb rfl
  .have u:(e.ah==3)=false:=by simp[A]
   let K:Nat->J:=λj=>e.au.getD (pR e j) e
   let B:Nat->U Z:=λj=>b++nz (dU e (pR e j))
   let a0:Nat->U Z:=λj=>Nat.rec acc (λj g=>(JN n' (K j) (B j) g).getD []) j
   have Q:∀{j},j<e.au.length->e.au[pR e j]?=some (K j):=λl=>by
    have:=yu l;simp only[K,LG,K6 this,Kj]
   have hB:∀j,(B j).length+8*d<=90000:=λj=>by
    have h8:=kJ h (pR e j);have hz:=oK (dU e (pR e j));simp only[B,G7];omega
   have step:∀{j:Nat}{f:U ak},j<e.au.length->Jv (a0 j)->_->
    mr n (K j) f (a0 j) o1 o2=some (a0 (j+1))/\JN n' (K j) (B j) (a0 j)=some (a0 (j+1))/\Jv (a0 (j+1)):=λ{j f}l hg z=>by
    have w:=K3 (Q l);obtain⟨r,r1,r2,r3⟩:=Rb (h.2.2.2.2.2 _ w) (hv.2 _ w) (q.2 _ w) (by omega:d<=n) (by omega:d<=n') (hB j) hg z;have e1:a0 (j+1)=r:=by show(JN n' (K j) (B j) (a0 j)).getD []=r;rw[r2];rfl
    exact⟨by rw[e1,r1],by rw[e1,r2],by rw[e1];exact r3⟩
   have X:∀j,j<=e.au.length->Jv (a0 j):=λj=>by
    induction j with
    |zero=>intro _;exact ha
    |succ j ih=>
     intro l;obtain⟨f,z⟩:∃f:U ak,∀x,jf x=false->(py f x).2=aJ (B j) x:=⟨(B j).map λn=>ak.mk 7 bk bk n 0,λx _=>by
      induction B j with
      |nil=>rfl
      |cons y r ih=>
       show(cond (bg y x) _ _:ak×At).2=(bg y x||aJ r x)
       cases bg y x
       .exact ih
       .rfl⟩
     exact(step B9 (ih B9) z).2.2
   refine⟨a0 e.au.length,cF ?_,cF ?_,?_⟩
   .refine ei (AU.mono (cZ (λc=>by rw[u]at c;cases c) λc=>bb rfl) ?_);rintro _ rfl;refine ct (Zj t) λv⟨N,hvj⟩=>?_
    refine fB (λj a=>a=a0 j) rfl (λj y a hy w l p=>?_) λa p=>bb (by rw[p,N])
    have m:j<e.au.length:=by omega
    have:y=((pR e j:Nat):Int):=by have:=hvj j m;rw[hy]at this;exact GZ this
    subst this;have o:=yu m;refine fA ⟨by omega,by omega⟩ λk hkm i=>?_
    have ek:k=K j:=by have:=Q m;rw[JX]at i;rw[i]at this;exact GZ this
    subst ek;refine ct (anc h o) λf z=>?_
    subst p;refine ct (P:=λr=>r=a0 (j+1)) ⟨_,(step m (X j B9) λx hx=>?_).1,rfl⟩ λr hr=>bb hr
    rw[z x,hs x hx,ij,Bool.or_comm]
   .refine cZ (λc=>by rw[u]at c;cases c) λ_=>?_
    refine fB (λj a=>a=a0 j) rfl (λj y a hy w l p=>?_) λa p=>bb p
    have ew:w6 ((j:Int)+1)=((j+1:Nat):Int):=by show IntKind.i64.wrap _=_;rw[BW];omega
    refine ei (AU.mono (P:=λx=>x= .inl ((pR e j:Nat):Int)) (cZ (λc=>hC Ez (bb ?_)) λc=>bb ?_) ?_)
    .simp at c;rw[ew];simp only[gn,CU,B7,pR,c,J0];rfl
    .simp at c;simp only[pR,c,JU]
    .rintro _ rfl;have o:=yu l;refine fA ⟨by omega,by omega⟩ λk hkm i=>?_
     have ek:k=K j:=by have:=Q l;rw[JX]at i;rw[i]at this;exact GZ this
     subst ek;refine ct (aeY h o B9) λb' hb'=>?_
     subst hb' p;obtain⟨f,z⟩:∃f:U ak,∀x,jf x=false->(py f x).2=aJ (B j) x:=by
      obtain⟨f,_,z⟩:=anc (o1:=o1) (o2:=o2) (s:=s) h o;exact⟨f,λx hx=>by rw[z x,hs x hx,ij,Bool.or_comm]⟩
     exact ct (P:=λr=>r=a0 (j+1)) ⟨_,(step l (X j B9) z).2.1,rfl⟩ λr hr=>bb hr
   .exact X e.au.length (Hq _)
def ahi{d e}(h:wB d e)(y:vK d e)(z:vN d e)(hd:d<=1000):∃r,m7 e=some r/\qT e=some r/\Jv r:=by
 obtain⟨r,a,c,f⟩:=Rb (n:=1000000) (n':=1000000) (s:=[]) (b:=[]) h y z B9 B9 Ar ⟨List.nodup_nil,by simp⟩ λx _=>rfl
 refine⟨r,cF ?_,cF ?_,f⟩
 .exact ct (P:=λv=>v=r) ⟨r,a,rfl⟩ λv y=>bb y
 .exact ct (P:=λv=>v=r) ⟨r,c,rfl⟩ λv y=>bb y
def Fs(p b:Z):Z:=p.extract 0 (if w6 (16-(b.size:Int))<(p.size:Int)then w6 (16-(b.size:Int))else(p.size:Int)).toNat++b
def jQ(p:Z):Nat->Z
 |0=>p
 |k+1=>Fs p ((IT ((k+1:Nat):Int)).getD bk)
def Rc(p:Z)(k:Nat):At:=
 match Iq (jQ p k),Br (jQ p k)with
 |some false,some false=> !jf (jQ p k)&&decide ((jQ p k).size<=16)&&(k==0||match KO (k:Int),IT (k:Int)with
  |some a,some b=>bg a b&&decide (1<=a.size/\a.size<=2)
  |_,_=>false)
 |_,_=>false
def Ft:U Z->At
 | []=>true
 |x::r=> !aJ r x&&Ft r
def yv(p:Z):At:=decide (1<=p.size/\p.size<=8)&&(List.range 100).all (Rc p)&&Ft ((List.range 100).map (jQ p))
def qC:yv ww=true:=by decide+kernel
def nh:yv mh=true:=by decide+kernel
def ajU:∀{l},Ft l=true->l.Nodup
 | [],_=>List.nodup_nil
 |x::r,h=>by
  simp[Ft]at h;refine MF.2 ⟨λy=>?_,ajU h.2⟩;have:aJ r x=true:=It.2 ⟨x,y,gO x⟩;rw[h.1]at this;cases this
def gK{P:Nat->At}:∀k,P k=true->∃j,j<=k/\P j=true/\∀i,i<j->P i=false
 |k,h=>by
  by_cases x:∃i,i<k/\P i=true
  .obtain⟨i,y,z⟩:=x;obtain⟨j,c,a,b⟩:=gK i z;exact⟨j,by omega,a,b⟩
  .refine⟨k,Hq _,h,λi y=>?_⟩;cases hq:P i
   .rfl
   .exact absurd ⟨i,y,hq⟩ x
def qD{p}(hp:yv p=true){l l'}(L:U Z)(hL:L.length<=98)(hl:∀x∈l,x∈L)(he:∀x,aJ l x=aJ l' x):
 ∃r,mM p l=some r/\qr p l'=some r/\aJ l r=false/\jf r=false/\r.size<=16:=by
 simp only[yv,BR,FW,H0,KY]at hp;obtain⟨⟨hps,o⟩,hd⟩:=hp;have g:∀k,k<100->Iq (jQ p k)=some false/\Br (jQ p k)=some false/\jf (jQ p k)=false/\(jQ p k).size<=16/\(k≠0->∃b,KO (k:Int)=some b/\IT (k:Int)=some b/\jQ p k=Fs p b/\1<=b.size/\b.size<=2):=λk z=>by
  have h:=o k z;unfold Rc at h;split at h
  .rename_i e1 e2;simp at h;refine⟨e1,e2,h.1.1,h.1.2,λe=>?_⟩;rcases h.2 with h2|h2
   .exact absurd h2 e
   .split at h2
    .rename_i a b e3 e4;simp only[BR,FW]at h2;have:=fD h2.1;subst this;refine⟨a,e3,e4,?_,h2.2.1,h2.2.2⟩;cases k with
     |zero=>exact absurd rfl e
     |succ k=>show Fs p _=_;rw[e4];rfl
    .cases h2
  .cases h
 have A:∃k,k<=98/\(!aJ l (jQ p k))=true:=by
  apply L3;intro hn;have C:∀k,k<=98->jQ p k∈L:=λk z=>hl _ (iY (by
   cases hq:aJ l (jQ p k)
   .exact absurd ⟨k,z,by rw[hq];rfl⟩ hn
   .rfl))
  have nd:(((List.range 100).map (jQ p)).take 99).Nodup:=(ajU hd).sublist (List.take_sublist _ _);have:=Ju nd λx hx=>by
   rw[<-MC,List.take_range]at hx;obtain⟨k,z,rfl⟩:=Hr.1 hx;exact C k (by have:=KY.1 z;omega)
  simp at this;omega
 obtain⟨k1,hk1,D⟩:=A;obtain⟨k0,e,d,K⟩:=gK (P:=λk=> !aJ l (jQ p k)) k1 D
 simp only[Ko]at d;have N:=λi hi=>by have:=K i hi;simpa using this
 have first:∀{k},k<=k0->aJ l (jQ p k)=false->k=k0:=λ{k}h1 h2=>by
  apply L3;intro q;rw[N k B9]at h2;cases h2
 have n:∀{b:Z},1<=b.size->b.size<=2->w6 (16-(b.size:Int))=16-(b.size:Int):=λh1 h2=>by show IntKind.i64.wrap _=_;rw[BW];omega
 refine⟨jQ p k0,cF ?_,cF ?_,d,(g k0 B9).2.2.1,(g k0 B9).2.2.2.1⟩
 .have t:∀k,k<100->AU (po (jQ p k) l) λr=>r=aJ l (jQ p k):=λk z=>by
   unfold po;refine ct (Ra _ _) λv y=>ct (P:=λr=>r=v) (cZ (λc=>bb c.symm) λc=>?_) λw j=>bb (j.trans y)
   rw[(g k z).1];exact bb c.symm
  unfold mM;refine ct (t 0 B9) λv y=>cZ (λc=>bb ?_) λc=>?_
  .have:k0=0:=(first B9 (by rw[<-y];simpa using c)).symm;rw[this];rfl
  .have h0:k0≠0:=λq=>by rw[q,<-y]at d;rw[d]at c;cases c
   refine lm (m:=k0-1) (λm(a:Int)=>∃k:Nat,a=k/\1<=k/\k<=k0/\m=k0-k) B9 ⟨1,rfl,by omega,by omega,rfl⟩ ?_;rintro m _ ⟨k,rfl,h1,h2,rfl⟩;obtain⟨b,e1,e2,e3,Q,X⟩:=(g k B9).2.2.2.2 B9;have w:=n Q X;refine ct (P:=λr=>r=b) ⟨b,e1,rfl⟩ λv y=>?_
   subst y;have f:(p.extract 0 (if w6 (16-(v.size:Int))<(p.size:Int)then w6 (16-(v.size:Int))else(p.size:Int)).toNat).size+v.size<=9223372036854775807:=by
    rw[ByteArray.size_extract];omega
   refine hC (by rw[w];split<;>omega) (kp f ?_);have t':=t k B9;rw[e3]at t';refine ct t' λw j=>cZ (λc=>bb ?_) λc=>bb ?_
   .have:k=k0:=first h2 (by rw[e3,<-j];simpa using c)
    show AU (some (Fs p v)) _
    rw[<-e3,this];exact bb rfl
   .have hlt:k≠k0:=λq=>by rw[<-q,e3,<-j]at d;rw[d]at c;cases c
    refine⟨k0-(k+1),by omega,k+1,?_,by omega,by omega,rfl⟩
    show IntKind.i64.wrap _=_;rw[BW];omega
 .unfold qr;have kw:∀k,k<100->AU (Y (aJ l (jQ p k)) (some true) ((Br (jQ p k)).b λv=>some v)) λr=>r=aJ l (jQ p k):=λk z=>cZ (λc=>bb c.symm) λc=>by rw[(g k z).2.1];exact bb c.symm
  refine ct (Qd _ _) λv y=>?_
  rw[<-he]at y;subst y;refine ct (kw 0 B9) λw j=>?_
  subst j;refine lm (m:=k0) (λm(s:Z×Int×At)=>∃k:Nat,s=(jQ p k,(k:Int),aJ l (jQ p k))/\k<=k0/\m=k0-k) B9 ⟨0,rfl,by omega,rfl⟩ ?_;rintro m _ ⟨k,rfl,h2,rfl⟩;dsimp only;refine cZ (λc=>?_) λc=>bb (bb (by rw[first h2 c]))
  have hlt:k≠k0:=λq=>by rw[<-q]at d;rw[d]at c;cases c
  have ew:w6 ((k:Int)+1)=((k+1:Nat):Int):=by show IntKind.i64.wrap _=_;rw[BW];omega
  obtain⟨b,e1,e2,e3,Q,X⟩:=(g (k+1) B9).2.2.2.2 B9;have w:=n Q X;rw[ew];refine ct (P:=λr=>r=b) ⟨b,e2,rfl⟩ λv y=>?_
  subst y;have f:(p.extract 0 (if w6 (16-(v.size:Int))<(p.size:Int)then w6 (16-(v.size:Int))else(p.size:Int)).toNat).size+v.size<=9223372036854775807:=by
   rw[ByteArray.size_extract];omega
  refine hC (by rw[w];split<;>omega) (kp f ?_);have k1:=kw (k+1) B9;rw[e3]at k1;refine ct (Qd _ _) λu hu=>?_
  rw[<-he]at hu;subst hu;refine ct k1 λu hu=>bb ⟨k0-(k+1),by omega,k+1,?_,by omega,rfl⟩
  subst hu;rw[e3];rfl
def G3{ls}(f:ls.length<=10)(h:∀l∈ls,l.length<=10000):AU (pp ls) λr=>r=ls.flatten:=by
 unfold pp;have z:∀j,j<=ls.length->((ls.take j).map List.length).sum<=j*10000:=λj=>by
  induction j with
  |zero=>intro _;simp
  |succ j d=>
   intro c;have hx:ls[j]?=some ls[j]:=K6 B9;rw[G6,hx,HO,On];have g:=d B9;have i:=h ls[j] (Ot _);simp only[aaK,Hx,Lb,List.sum_cons,List.sum_nil];omega
 refine fB (λj(a:Int)=>a=(((ls.take j).map List.length).sum:Nat)) NP (λj x a hx b c y=>?_) λa y=>?_
 .have e1:w6 (a+gL x)=((((ls.take (j+1)).map List.length).sum:Nat):Int):=by
   have:=z j B9;have:=h x b
   show IntKind.i64.wrap _=_
   rw[G6,hx,HO,On,y,BW];simp only[gL,CU,B7,aaK,Hx,Lb,List.sum_cons,List.sum_nil];omega
  show AU (cond (decide (w6 (a+gL x)<0)) none (some (Sum.inl (w6 (a+gL x)):Int⊕(Int⊕U Z)))) _
  rw[e1];have:decide ((((((ls.take (j+1)).map List.length).sum:Nat):Int))<0)=false:=by simp
  rw[this];exact bb rfl
 .have:=z ls.length (Hq _);rw[Gq]at y this;refine ct (P:=λr=>r=[]) (by unfold wF;exact hC B9 (bb rfl)) λv e=>?_
  subst e;refine fB (λj(a:U Z)=>a=(ls.take j).flatten/\a.length=((ls.take j).map List.length).sum) NP (λj x a hx b c y=>?_) λa y=>bb (by rw[y.1,Gq])
  have:=z j B9;have:=h x b;refine eT B9 (bb ?_)
  show _/\_
  rw[G6,hx,List.flatten_append,HO,On];simp[y.1,y.2]
def nY{a b}(x:a.length<=100000)(y:b.length<=100000):AU (gu a b) λr=>r=a++b:=by
 unfold gu;exact eT Ar (eT Ar (bb NP))
structure VS(w:aL)(n:ByteArray)(v:aB):Prop where
 Zk:iC w.gj n=some (v.ai,true)
 js:Q1 w n=some (v.bK.map (·.ai))
 bV:I8 w n=some v.bV
 Rd:v.bK.length<=1
 jn:∃k0,kg w=some k0/\∀(i:Nat)(j:bT),v.bK[i]?=some j->if w.x.ah=7 then j.ar=w.x.ar/\∃cs,tK v.ai w.x.ai=some cs/\cs[i]?=some j.bV else j.ar=k0/\j.bV=k0
 np:∀nm l,l.length=v.bK.length->∃e,rf v nm l=some e/\tM w n nm l=some e/\wB 4 e
def partners{w n v}(i:VS w n v){u u'}(hu:∀x,aJ u x=aJ u' x)(D:u.length<=1000)(z:∀x∈u,x∈L0)(o:u'.length<=10000):
 ∃l,wG v u=some l/\I9 w n u'=some l/\l.length=v.bK.length:=by
 let X:Nat->U Z:=λj=>Nat.rec [] (λ_ g=>g++[(mM mh (u++g)).getD bk]) j
 have y:∀j,(X j).length=j:=λj=>by
  induction j with
  |zero=>rfl
  |succ j p=>show(X j++_).length=_;simp[p]
 have fr:∀j,j<1->mM mh (u++X j)=some ((mM mh (u++X j)).getD bk)/\qr mh (u'++X j)=some ((mM mh (u++X j)).getD bk):=λj q=>by
  have:j=0:=by omega
  subst this;obtain⟨r,A,d,_⟩:=qD nh (l:=u++X 0) (l':=u'++X 0) L0 VQ (show∀x∈u++[],x∈L0 by simpa using z) λx=>by rw[ij,ij,hu]
  rw[A];exact⟨rfl,d⟩
 have Rd:=i.Rd;have k:∀j:Nat,j<=8->w6 ((j:Int)+1)=((j+1:Nat):Int):=λj q=>by show IntKind.i64.wrap _=_;rw[BW];omega
 refine⟨X v.bK.length,cF ?_,cF ?_,y _⟩
 .unfold wG;refine lm (m:=v.bK.length) (λm(s:U Z×Int)=>∃j:Nat,s=(X j,(j:Int))/\j<=v.bK.length/\m=v.bK.length-j) B9 ⟨0,rfl,by omega,rfl⟩ ?_;rintro m _ ⟨j,rfl,d,rfl⟩;dsimp only;refine cZ (λc=>?_) λc=>bb (bb ?_)
  .simp only[Ks,CU,B7,FW]at c;refine ct (G3 NP JY) λa e=>?_
   subst e;have e1:[u,X j].flatten=u++X j:=by simp
   rw[e1];refine ct (P:=λr=>r=(mM mh (u++X j)).getD bk) ⟨_,(fr j B9).1,rfl⟩ λb f=>?_
   subst f;refine eT JY (bb ⟨v.bK.length-(j+1),by omega,j+1,?_,by omega,rfl⟩);rw[k j B9]
  .simp only[Ks,CU,B7,Ic]at c;have:j=v.bK.length:=by omega
   rw[this]
 .unfold I9;refine lm (m:=v.bK.length) (λm(s:U Z×Int)=>∃j:Nat,s=(X j,(j:Int))/\j<=v.bK.length/\m=v.bK.length-j) B9 ⟨0,rfl,by omega,rfl⟩ ?_;rintro m _ ⟨j,rfl,d,rfl⟩;dsimp only;refine ct (P:=λr=>r=v.bK.map (·.ai)) ⟨_,i.js,rfl⟩ λt C=>?_
  subst C;refine cZ (λc=>?_) λc=>bb (bb ?_)
  .simp only[gL,CU,B7,FW]at c;refine ct (nY B9 JY) λa e=>?_
   subst e;refine ct (P:=λr=>r=(mM mh (u++X j)).getD bk) ⟨_,(fr j B9).2,rfl⟩ λb f=>?_
   subst f;refine eT JY (bb ⟨v.bK.length-(j+1),by omega,j+1,?_,by omega,rfl⟩);rw[k j B9]
  .simp only[gL,CU,B7,Ic]at c;have:j=v.bK.length:=by omega
   rw[this]
def jC(j:bT)(o r:Z):J:=bL 14 jT [(bL 8 j.ar [(cw 3 o)]),(bL 8 j.bV [(cw 3 r)])]
def Hj(l:U Z):U Z:=l.flatMap λo=>[o,bk]
def Vk(js:U bT)(l:U Z)(r:Z):U J:=(js.zip l).flatMap λp=>[cw 3 p.1.ai,jC p.1 p.2 r]
def anV{nm x a b c d ns bs ks p q}(z:ns.length<=1000)(y:0<ks.length)(e:ks.length<=1000):
 AU (kU nm x a b c d ns bs ks p q) λr=>r=(ns++[nm],ks++[x]):=by
 unfold kU;refine eT Ar (hC Ee (eT Ar (hC ?_ (hC NP (bb rfl)))));simp only[gn,CU,B7,B0,B1];omega
def aiF{z c:Type}{a:U z}{b j x}{y:c}(d:a[j]?=some x)(e:b[j]?=some y):(a.zip b).take (j+1)=(a.zip b).take j++[(x,y)]:=by
 rw[G6];have:(a.zip b)[j]?=some (x,y):=by rw[List.getElem?_zip_eq_some];exact⟨d,e⟩
 rw[this];rfl
def aie{w n v}(i:VS w n v){e r l}(hl:l.length=v.bK.length):
 Iw v e r false l=some (ip 10 (Hj l) (e::Vk v.bK l r))/\Jc w (bL 10 bk [e]) n r l=some (ip 10 (Hj l) (e::Vk v.bK l r)):=by
 have Rd:=i.Rd;have A:∀j,(Hj (l.take j)).length<=16:=λj=>by
  have:(Hj (l.take j)).length=2*(l.take j).length:=by unfold Hj;induction l.take j<;>simp_all[P8];omega
  rw[this,JB];omega
 have lk:∀j,((v.bK.zip l).take j |>.flatMap λp=>[cw 3 p.1.ai,jC p.1 p.2 r]).length<=16:=λj=>by
  have:∀q:U (bT×Z),(q.flatMap λp=>[cw 3 p.1.ai,jC p.1 p.2 r]).length=2*q.length:=λq=>by induction q<;>simp_all[P8];omega
  rw[this];simp only[JB,List.length_zip];omega
 refine⟨cF ?_,cF ?_⟩
 .unfold Iw;refine cZ (λc=>by cases c) λ_=>?_
  refine fB (λj(s:U Z×U J)=>s=(Hj (l.take j),e::((v.bK.zip l).take j).flatMap λp=>[cw 3 p.1.ai,jC p.1 p.2 r])) rfl (λj x s hx N C f=>?_) λs f=>?_
  .subst f;dsimp only;have Q:=A j;have X:=lk j;refine fA ⟨by omega,by omega⟩ λo _ d=>?_
   rw[JX]at d;refine ct (anV B9 NP (by simp only[B0];omega)) λa k=>?_
   subst k;refine fA ⟨by omega,by omega⟩ λo2 _ z=>?_
   rw[JX,d]at z;obtain rfl:=GZ z;refine ct (anV Ar NP OM) λa k=>bb ?_
   subst k
   show _=_
   rw[aiF hx d,G6,d];simp[Hj,jC,List.flatMap_append]
  .subst f;have e1:(v.bK.zip l).take v.bK.length=v.bK.zip l:=L6 Ar;rw[e1,L6 B9];exact bb rfl
 .obtain⟨k0,g,m⟩:=i.jn;unfold Jc;refine ct (P:=λq=>q=(v.ai,true)) ⟨_,i.Zk,rfl⟩ λq hq=>?_
  subst hq;refine ct (P:=λq=>q=v.bK.map (·.ai)) ⟨_,i.js,rfl⟩ λq hq=>?_
  subst hq;refine fB (λj(s:U Z×U J)=>s=(Hj (l.take j),e::((v.bK.zip l).take j).flatMap λp=>[cw 3 p.1.ai,jC p.1 p.2 r])) rfl (λj x s hx N C f=>?_) λs f=>?_
  .subst f;dsimp only;rw[B7]at C;rw[K9]at hx;obtain⟨y,D,rfl⟩:=LU.1 hx;have Q:=A j;have X:=lk j;have hq:=m j y D;refine fA ⟨by omega,by omega⟩ λo _ d=>?_
   rw[JX]at d;refine ct (P:=λq=>q=k0) ⟨_,g,rfl⟩ λk1 t=>ct (P:=λq=>q=k0) ⟨_,g,rfl⟩ λk2 u=>?_
   subst t u;refine ei (AU.mono (P:=λq=>q= .inl [(bL 8 y.ar [(cw 3 o)]),(bL 8 y.bV [(cw 3 r)])]) (cZ (λc=>?_) λc=>bb ?_) ?_)
   .simp only[HV]at c;rw[BX c]at hq;obtain⟨q1,cs,q2,K⟩:=hq;refine fA ⟨by omega,by omega⟩ λo2 _ z=>?_
    rw[JX,d]at z;obtain rfl:=GZ z;refine ct (P:=λq=>q=cs) ⟨_,q2,rfl⟩ λq hq=>?_
    subst hq;have hlt:=(LI.1 K).1;refine fA ⟨by omega,by omega⟩ λb _ L=>bb ?_
    rw[JX,K]at L;obtain rfl:=GZ L;rw[q1]
   .simp only[JR,ne_eq]at c;rw[BY c]at hq;rw[hq.1,hq.2]
   .rintro _ rfl;refine fA ⟨by omega,by omega⟩ λo2 _ z=>?_
    rw[JX,d]at z;obtain rfl:=GZ z;refine eT OM (eT OM (bb ?_))
    show _=_
    rw[aiF D d,G6,d];simp[Hj,jC,List.flatMap_append]
  .subst f;have e1:(v.bK.zip l).take (v.bK.map (·.ai)).length=v.bK.zip l:=L6 Ar;rw[e1,L6 Ar];exact bb rfl
end Go.Ab

/- What the functions compute. -/
import Derived.Test.YtlahelaeeahggaaGreatDoorV5
set_option linter.all false
set_option maxRecDepth 100000
set_option maxHeartbeats 20000000
set_option synthInstance.maxHeartbeats 400000
set_option synthInstance.maxSize 2000
open Go Go.RowKit Go.Proofs
namespace Go.Ab
def xY(a:amx ac):amy (amz):=(xX a).b λd=>some (!d)
def Hi{a r}(h:xY a=some r):Ad 191 [mI a,fN 281 []] (.bool r):=en Tryz.func191 rfl<|D 0<|cG h [(1,0)] Hh M λb h=>O
def Rb(a:ar):amy (amz):=some (decide ((Uu a.bG)>0))
def WP{a r}(h:Rb a=some r):Ad 279 [ar.X a] (.bool r):=en Tryz.func279 rfl<|D 0<|sT O
def xZ(a:ar):amy (amz):=some (!decide ((Uu a.bG)>0))
def Hj{a r}(h:xZ a=some r):Ac 342 [ar.X a,pT 0 0] [Y 0 0 [fN 279 []]] [] (.bool r) []:=en Tryz.func342 rfl<|D 1<|cU (WP (rfl:Rb a=some _)) B O
def x5(d:amx ar):amy (Int):=(bg (λ(a:Nat)(e:ar)=>λ_=>((xZ e).b λf=>cd f (ir (.inr (a:Int))) (H ()))) (λ_=>()) 0 d ()).j λ_=>some (-1)
def Hk{f r}(h:x5 f=some r):Ac 357 [lM f,fN 342 [pT 0 0]] [Y 0 0 [fN 279 []]] [] (F r) []:=en Tryz.func357 rfl<|sT<|io h [0,7] (λe=>λ_=>[(1,fN 342 [pT 0 0]),(8,F (e:Int))]) [] (λ_=>λ_=>[Y 0 0 [fN 279 []]]) [] W [] (λ_=>[Y 0 0 [fN 279 []]]) J I qA (sq 0 rfl) (λb e j _ d a i h=>.inl ⟨λ_=>.inl<|nV d<|cG h o1 Hj M λk h=>bu h λh=>lx h b λh=>O,λc=>eC a c⟩) (λ_=>.inl ⟨λc=>eG c,λ_=>⟨rfl,di,tv⟩⟩) λ_ h=>O
def x6(a:amx ar):amy (amz):=(x5 a).b λd=>some (decide (d>=0))
def Hl{a r}(h:x6 a=some r):Ac 341 [lM a,fN 342 [pT 0 0]] [Y 0 0 [fN 279 []]] [] (.bool r) []:=en Tryz.func341 rfl<|cG h o1 Hk M λb h=>O
def x7(a:amx ar):amy (amz):=(x6 a).b λd=>some (!d)
def Hm{a r}(h:x7 a=some r):Ad 257 [lM a,fN 279 []] (.bool r):=en Tryz.func257 rfl<|D 0<|cG h [(1,0)] Hl M λb h=>O
mutual
def MU:Nat->ai->amy (amz)
 |0,_=>none
 |n+1,a=>(cd (a.aj==6) (some true) (cd (a.aj==5) (some (a.n != 0)) (some false))).bind (λf=>(GP a).b λo=>(cd o (some (!f)) (some false)).bind (λi=>(cd i ((x9 n a.aG).b λe=>some (!e)) (some false)).bind (λk=>some k)))
def Rc:Nat->ai->amy (amz)
 |0,_=>none
 |n+1,a=>(MU n a).b λd=>some (!d)
def x9:Nat->(amx ai)->amy (amz)
 |0,_=>none
 |n+1,a=>(ya n a).b λd=>some (decide (d>=0))
def ya:Nat->(amx ai)->amy (Int)
 |0,_=>none
 |n+1,a=>(bg (λ(l:Nat)(m:ai)=>λ_=>((Rc n m).b λp=>cd p (ir (.inr (l:Int))) (H ()))) (λ_=>()) 0 a ()).j λ_=>some (-1)
end
def Hn(n:Nat):Prop:=∀{a r},MU n a=some r->Ac 350 [ai.X a] [] [] (.bool r) []
def MV(n:Nat):Prop:=∀{a r},Rc n a=some r->Ac 403 [ai.X a] [] [] (.bool r) []
def rF(n:Nat):Prop:=∀{a r},x9 n a=some r->Ac 402 [CA a,fN 403 []] [] [] (.bool r) []
def rG(n:Nat):Prop:=∀{a r},ya n a=some r->Ac 435 [CA a,fN 403 []] [] [] (F r) []
def WQ{n:Nat}(a:rF n):Hn (n+1):=λ{i _}h=>
 en Tryz.func350 rfl<|⟨0,rfl,jb h 9 [1] (zb 16) [] W I (λh=>bi h (λh=>oj h▸qB) λh=>bj h (λh=>oj h▸qB) λh=>oj h▸qB) λd h=>S h MH λj h=>jb h 3 [1] (zb 22) [] W I (λh=>bi h (λh=>oj h▸qB) λh=>oj h▸qB) λe h=>jb h 5 [] (zb 28) [(1,0)] W I (λh=>bi h (λh=>S h (λh=>a h) λb h=>oj h▸qB) λh=>oj h▸qB) λf h=>oj h▸rW⟩
def WR{n:Nat}(a:Hn n):MV (n+1):=λ{b _}h=>
 en Tryz.func403 rfl<|⟨0,rfl,S h (λh=>a h) λd h=>oj h▸rW⟩
def Ho{n:Nat}(a:rG n):rF (n+1):=λ{b _}h=>
 en Tryz.func402 rfl<|S h (λh=>a h) λd h=>oj h▸rW
def Hq{n:Nat}(a:MV n):rG (n+1):=λ{j _}h=>
 en Tryz.func435 rfl<|⟨_,B,io h [0,7] (λf=>λ_=>[(1,fN 403 []),(8,F (f:Int))]) [] (λ_=>λ_=>[]) [] W [] W J I qA (.inl ⟨0,_,_,rfl⟩) (λd f k _ e b i h=>.inl ⟨λ_=>.inl ⟨_,B,_,mb e (ai.bq _),S h (λh=>a h) λl h=>bj h (λh=>lx h d λh=>oj h▸rW) λh=>jA h⟩,λc=>eC b c⟩) (λ_=>.inl ⟨λc=>eG c,λ_=>⟨rfl,tv,tv⟩⟩) λ_ h=>oj h▸rW⟩
def Di:(n:Nat)->Hn n/\MV n/\rF n/\rG n
 |0=>⟨no,no,no,no⟩
 |n+1=>have⟨d,e,a,b⟩:=Di n;⟨WQ a,WR d,Ho b,Hq e⟩
def WS(n:Nat):Hn n:=(Di n).1
def yb(a:amx ai)(b:amx ai):amy (amz):=cN ((wn a) !=(wn b)) ((aP (λ_=>(cN (decide (0<(wn a))) (ir (.inl ())))) 1000000 ()).j λ_=>some true)
def Hr{a b r}(h:yb a b=some r):Ad 404 [CA a,CA b,fN 351 []] (.bool r):=en Tryz.func404 rfl<|sT<|sT<|bn h λh=>sT<|lp h [1,15,16,17] (λ_=>[(2,fN 351 [])]) [] W [] W [] W I I qA (λ_ _ h=>bn h λh=>jA h) λ_ h=>O
def MW(a:ai)(d:ai):amy (amz):=(cd (a.aj==d.aj) (some (bZ a.name d.name)) (some false)).bind (λj=>(cd j (some (a.n==d.n)) (some false)).bind (λk=>(cd k ((Hd a.aF d.aF).b λf=>some f) (some false)).bind (λl=>(cd l ((yb a.aG d.aG).b λi=>some i) (some false)).bind (λe=>some e))))
def Rd{a b r}(h:MW a b=some r):Ad 351 [ai.X a,ai.X b] (.bool r):=en Tryz.func351 rfl<|gv 0 1<|jz h 6 [2,3] 16 I (λh=>bI h λh=>zB) λi h=>jz h 6 [2,3] 23 I (λh=>bI h λh=>zB) λj h=>jz h 6 [2,3] 30 I (λh=>bJ h λh=>S h MQ λe h=>zB) λk h=>jb h 6 [] (zb 37) [(1,1),(1,0)] W I (λh=>bJ h λh=>S h Hr λf h=>zB) λd h=>O
def Re(a:aB):amy (amz):=cd a.has ((MU 1000000 a.arg).b λd=>some d) ((MW a.arg nU).b λe=>some e)
def WT{a r}(h:Re a=some r):Ad 280 [aB.X a] (.bool r):=en Tryz.func280 rfl<|D 0<|bj h (λh=>S h (λh=>WS _ h) λb h=>O) λh=>cY h Rd (dr<|cn (.agg<|hE<|fh B) B) λd h=>O
def yc(a:aB):amy (amz):=(Re a).b λd=>some (!d)
def Hs{a r}(h:yc a=some r):Ac 345 [aB.X a,pT 0 0] [Y 0 0 [fN 280 []]] [] (.bool r) []:=en Tryz.func345 rfl<|D 1<|S h WT λb h=>O
def yd(d:amx aB):amy (Int):=(bg (λ(a:Nat)(e:aB)=>λ_=>((yc e).b λf=>cd f (ir (.inr (a:Int))) (H ()))) (λ_=>()) 0 d ()).j λ_=>some (-1)
def Ht{f r}(h:yd f=some r):Ac 397 [pp f,fN 345 [pT 0 0]] [Y 0 0 [fN 280 []]] [] (F r) []:=en Tryz.func397 rfl<|sT<|io h [0,7] (λe=>λ_=>[(1,fN 345 [pT 0 0]),(8,F (e:Int))]) [] (λ_=>λ_=>[Y 0 0 [fN 280 []]]) [] W [] (λ_=>[Y 0 0 [fN 280 []]]) J I qA (sq 0 rfl) (λb e j _ d a i h=>.inl ⟨λ_=>.inl<|nV d<|cG h o1 Hs M λk h=>bu h λh=>lx h b λh=>O,λc=>eC a c⟩) (λ_=>.inl ⟨λc=>eG c,λ_=>⟨rfl,di,tv⟩⟩) λ_ h=>O
def ye(a:amx aB):amy (amz):=(yd a).b λd=>some (decide (d>=0))
def Hu{a r}(h:ye a=some r):Ac 344 [pp a,fN 345 [pT 0 0]] [Y 0 0 [fN 280 []]] [] (.bool r) []:=en Tryz.func344 rfl<|cG h o1 Ht M λb h=>O
def yf(a:amx aB):amy (amz):=(ye a).b λd=>some (!d)
def Hv{a r}(h:yf a=some r):Ad 260 [pp a,fN 280 []] (.bool r):=en Tryz.func260 rfl<|D 0<|cG h [(1,0)] Hu M λb h=>O
def MX(d:amx amw):amy (amz):=(aP (λa=>(cd (decide (a>0)) ((au d a).b λe=>(au d (w6 (a - 1))).b λf=>(Fw e f).b λi=>cN i (H (w6 (a - 1)))) (ir (.inl ())))) 1000000 (w6 ((jp d) - 1))).j λ_=>some true
def Rf{a r}(h:MX a=some r):Ad 278 [N a] (.bool r):=en Tryz.func278 rfl<|sT<|lp h [0] (zi 3) [] W [] W [] W I I qA (λ_ b h=>bu h λh=>.inl<|dO ⟨E 0 9<|qt 9 1 [],[],0⟩<|nM h λd h=>nM h λe h=>S h Mp λf h=>bn h λh=>jA h) λ_ h=>O
def MY(a:ah):amy (amz):=(rD a.aN).b λo=>(MX o).b λp=>(cd p ((rE a.am).b λt=>(MX t).b λu=>some u) (some false)).bind (λl=>(cd l ((x7 a.aN).b λf=>some f) (some false)).bind (λm=>(cd m ((GZ a).b λi=>(yf i).b λj=>some j) (some false)).bind (λd=>(cd d ((xY a.am).b λk=>some k) (some false)).bind (λe=>some e))))
def WU{a r}(h:MY a=some r):Ad 195 [ah.X a] (.bool r):=en Tryz.func195 rfl<|D 0<|S h xR λm h=>S h Rf λo h=>jz h 5 [1] 12 I (λh=>bJ h λh=>S h xS λp h=>S h Rf λt h=>zB) λk h=>jz h 4 [1] 17 I (λh=>bJ h λh=>S h Hm λe h=>zB) λl h=>jz h 4 [1] 22 I (λh=>bJ h λh=>S h MI λf h=>S h Hv λi h=>zB) λb h=>jb h 4 [] (zb 27) [(1,0)] W I (λh=>bJ h λh=>S h Hi λj h=>zB) λd h=>O
def oc(b:amx ae)(d:amw):amy (ae×amz):=(bg (λ(e:Nat)(a:ae)=>λ_=>(cd (bZ a.name d) (ir (.inr (a,true))) (H ()))) (λ_=>()) 0 b ()).j λ_=>some ((ae.mk bM nU),false)
def rH{f i r}(h:oc f i=some r):Ad 285 [kd f,fN 275 [],.an i] (.bR [ae.X r.1,.bool r.2]):=en Tryz.func285 rfl<|D 0<|sT<|io h [2,6,11,12] (λe=>λ_=>[(1,fN 275 []),(13,F (e:Int))]) [] (λ_=>λ_=>[]) [6] W [] W J I qA (sq 11 rfl) (λb e j _ d a k h=>.inl ⟨λ_=>.inl<|nV d<|D 1<|cU (QM (rfl:MK j=some _)) B<|bu h λh=>lx h b λh=>O,λc=>eC a c⟩) (λ_=>.inl ⟨λc=>eG c,λ_=>⟨rfl,di,mi⟩⟩) λ_ h=>D 1 O
def rI(a:amw)(d:ac):amy (amz):=(oc d.af a).b λe=>some e.2
def yg{a b r}(h:rI a b=some r):Ac 284 [.an a,pT 0 0] [Y 0 0 (ac.C b)] [] (.bool r) []:=en Tryz.func284 rfl<|S h rH λd h=>D 1 O
def yh(d:amw)(a:ac):amy (amz):=(rI d a).b λe=>some (!e)
def Hw{b a r}(h:yh b a=some r):Ac 354 [.an b,pT 0 0] [Y 0 0 [fN 284 [pT 0 1]],Y 0 1 (ac.C a)] [] (.bool r) []:=en Tryz.func354 rfl<|cG h [(0,1)] yg M λd h=>O
def yi(e:amx amw)(a:ac):amy (Int):=(bg (λ(d:Nat)(f:amw)=>λ_=>((yh f a).b λi=>cd i (ir (.inr (d:Int))) (H ()))) (λ_=>()) 0 e ()).j λ_=>some (-1)
def Hx{i a r}(h:yi i a=some r):Ac 199 [N i,fN 354 [pT 0 0]] [Y 0 0 [fN 284 [pT 0 1]],Y 0 1 (ac.C a)] [] (F r) []:=en Tryz.func199 rfl<|sT<|io h [0,7] (λf=>λ_=>[(1,fN 354 [pT 0 0]),(8,F (f:Int))]) [] (λ_=>λ_=>[Y 0 0 [fN 284 [pT 0 1]]]) [] W [] (λ_=>[Y 0 0 [fN 284 [pT 0 1]]]) J I qA (sq 0 rfl) (λd f k _ e b j h=>.inl ⟨λ_=>.inl<|nV e<|cG h o2 Hw M λl h=>bu h λh=>lx h d λh=>O,λc=>eC b c⟩) (λ_=>.inl ⟨λc=>eG c,λ_=>⟨rfl,jR,tv⟩⟩) λ_ h=>O
def yj(d:amx amw)(a:ac):amy (amz):=(yi d a).b λe=>some (decide (e>=0))
def Hy{b a r}(h:yj b a=some r):Ac 108 [N b,fN 354 [pT 0 0]] [Y 0 0 [fN 284 [pT 0 1]],Y 0 1 (ac.C a)] [] (.bool r) []:=en Tryz.func108 rfl<|cG h o2 Hx M λd h=>O
def yk(d:amx amw)(a:ac):amy (amz):=(yj d a).b λe=>some (!e)
def Hz{b a r}(h:yk b a=some r):Ac 286 [N b,fN 284 [pT 0 0]] [Y 0 0 (ac.C a)] [] (.bool r) []:=en Tryz.func286 rfl<|D 1<|cG h [(1,1),(0,0)] Hy M λd h=>O
def yl(d:ax)(f:ah)(a:ac):amy (amz):=(BM f d.aD).b λi=>(cd i.2 ((rI d.aw a).b λj=>some j) (some false)).bind (λe=>some e)
def HB{b d a r}(h:yl b d a=some r):Ac 288 [ax.X b,pT 0 0,pT 0 1] [Y 0 0 (ah.C d),Y 0 1 [fN 284 [pT 0 2]],Y 0 2 (ac.C a)] [] (.bool r) []:=en Tryz.func288 rfl<|D 3<|S h Dh λf h=>D 4<|jb h 5 [] (zb 20) [(1,4),(1,3)] (λ_=>[Y 0 1 [fN 284 [pT 0 2]]]) I (λh=>bJ h λh=>cG h [(0,2)] yg M λi h=>zB) λe h=>O
def ym(e:ax)(d:ah)(a:ac):amy (amz):=(yl e d a).b λf=>some (!f)
def HC{d b a r}(h:ym d b a=some r):Ac 356 [ax.X d,pT 0 0] [Y 0 0 [fN 288 [pT 0 1,pT 0 2]],Y 0 1 (ah.C b),Y 0 2 [fN 284 [pT 0 3]],Y 0 3 (ac.C a)] [] (.bool r) []:=en Tryz.func356 rfl<|D 4<|cG h [(0,1),(0,2),(0,3)] HB M λe h=>O
def yn(f:amx ax)(d:ah)(a:ac):amy (Int):=(bg (λ(e:Nat)(i:ax)=>λ_=>((ym i d a).b λk=>cd k (ir (.inr (e:Int))) (H ()))) (λ_=>()) 0 f ()).j λ_=>some (-1)
def HD{j b a r}(h:yn j b a=some r):Ac 410 [jP j,fN 356 [pT 0 0]] [Y 0 0 [fN 288 [pT 0 1,pT 0 2]],Y 0 1 (ah.C b),Y 0 2 [fN 284 [pT 0 3]],Y 0 3 (ac.C a)] [] (F r) []:=en Tryz.func410 rfl<|sT<|io h [0,7] (λi=>λ_=>[(1,fN 356 [pT 0 0]),(8,F (i:Int))]) [] (λ_=>λ_=>[Y 0 0 [fN 288 [pT 0 1,pT 0 2]],Y 0 2 [fN 284 [pT 0 3]]]) [] W [] (λ_=>[Y 0 0 [fN 288 [pT 0 1,pT 0 2]],Y 0 2 [fN 284 [pT 0 3]]]) J I qA (sq 0 rfl) (λe i l _ f d k h=>.inl ⟨λ_=>.inl<|nV f<|cG h o4 HC M λm h=>bu h λh=>lx h e λh=>O,λc=>eC d c⟩) (λ_=>.inl ⟨λc=>eG c,λ_=>⟨rfl,AZ,tv⟩⟩) λ_ h=>O
def yo(e:amx ax)(d:ah)(a:ac):amy (amz):=(yn e d a).b λf=>some (decide (f>=0))
def HE{d b a r}(h:yo d b a=some r):Ac 355 [jP d,fN 356 [pT 0 0]] [Y 0 0 [fN 288 [pT 0 1,pT 0 2]],Y 0 1 (ah.C b),Y 0 2 [fN 284 [pT 0 3]],Y 0 3 (ac.C a)] [] (.bool r) []:=en Tryz.func355 rfl<|cG h o4 HD M λe h=>O
def yp(e:amx ax)(d:ah)(a:ac):amy (amz):=(yo e d a).b λf=>some (!f)
def HF{d b a r}(h:yp d b a=some r):Ac 287 [jP d,fN 288 [pT 0 0,pT 0 1]] [Y 0 0 (ah.C b),Y 0 1 [fN 284 [pT 0 2]],Y 0 2 (ac.C a)] [] (.bool r) []:=en Tryz.func287 rfl<|D 3<|cG h [(1,3),(0,0),(0,1),(0,2)] HE M λe h=>O
def yq(a:ac)(e:ah):amy (amz):=(yk a.key a).b λf=>(cd f ((yp a.aY e a).b λi=>some i) (some false)).bind (λd=>some d)
def HG{a b r}(h:yq a b=some r):Ac 283 [ac.X a,pT 0 0] [Y 0 0 (ah.C b)] [] (.bool r) []:=en Tryz.func283 rfl<|gv 1 2<|cH h [(1,1)] Hz M rfl B rfl ⟨rfl,tv⟩ tv λe h=>jb h 5 [] (zb 15) [(1,2),(1,1)] W I (λh=>bJ h λh=>cH h [(0,0),(1,2),(1,1)] HF M rfl B rfl ⟨rfl,rfl,rfl,tv⟩ tv λf h=>zB) λd h=>O
def yr(d:ac)(a:ah):amy (amz):=(yq d a).b λe=>some (!e)
def HI{b a r}(h:yr b a=some r):Ac 256 [ac.X b,pT 0 0] [Y 0 0 [fN 283 [pT 0 1]],Y 0 1 (ah.C a)] [] (.bool r) []:=en Tryz.func256 rfl<|D 2<|cG h [(0,1)] HG M λd h=>O
def yt(e:amx ac)(a:ah):amy (Int):=(bg (λ(d:Nat)(f:ac)=>λ_=>((yr f a).b λi=>cd i (ir (.inr (d:Int))) (H ()))) (λ_=>()) 0 e ()).j λ_=>some (-1)
def HJ{i a r}(h:yt i a=some r):Ac 340 [mI i,fN 256 [pT 0 0]] [Y 0 0 [fN 283 [pT 0 1]],Y 0 1 (ah.C a)] [] (F r) []:=en Tryz.func340 rfl<|sT<|io h [0,7] (λf=>λ_=>[(1,fN 256 [pT 0 0]),(8,F (f:Int))]) [] (λ_=>λ_=>[Y 0 0 [fN 283 [pT 0 1]]]) [] W [] (λ_=>[Y 0 0 [fN 283 [pT 0 1]]]) J I qA (sq 0 rfl) (λd f k _ e b j h=>.inl ⟨λ_=>.inl<|nV e<|cG h o2 HI M λl h=>bu h λh=>lx h d λh=>O,λc=>eC b c⟩) (λ_=>.inl ⟨λc=>eG c,λ_=>⟨rfl,jR,tv⟩⟩) λ_ h=>O
def yu(d:amx ac)(a:ah):amy (amz):=(yt d a).b λe=>some (decide (e>=0))
def HK{b a r}(h:yu b a=some r):Ac 255 [mI b,fN 256 [pT 0 0]] [Y 0 0 [fN 283 [pT 0 1]],Y 0 1 (ah.C a)] [] (.bool r) []:=en Tryz.func255 rfl<|cG h o2 HJ M λd h=>O
def yv(d:amx ac)(a:ah):amy (amz):=(yu d a).b λe=>some (!e)
def HM{b a r}(h:yv b a=some r):Ac 191 [mI b,fN 283 [pT 0 0]] [Y 0 0 (ah.C a)] [] (.bool r) []:=en Tryz.func191 rfl<|D 1<|cG h [(1,1),(0,0)] HK M λd h=>O
def MZ(a:ah):amy (amz):=(yv a.am a).b λd=>some d
def WV{a r}(h:MZ a=some r):Ad 196 [ah.X a] (.bool r):=en Tryz.func196 rfl<|D 0<|cH h [(1,0)] HM M rfl B rfl ⟨rfl,tv⟩ tv λb h=>O
def M0(a:ai):amy (amz):=(cd (decide (a.aj<=2)) ((GN a).b λe=>some e) (some false)).bind (λd=>some d)
def Rg{a r}(h:M0 a=some r):Ad 360 [ai.X a] (.bool r):=en Tryz.func360 rfl<|D 0<|jb h 3 [] (zb 9) [(1,0)] W I (λh=>bJ h λh=>S h MG λd h=>zB) λb h=>O
def Rh(a:aB):amy (amz):=(cd a.has ((M0 a.arg).b λe=>some (!e)) (some false)).bind (λd=>some d)
def WW{a r}(h:Rh a=some r):Ad 361 [aB.X a] (.bool r):=en Tryz.func361 rfl<|D 0<|jb h 5 [] (zb 10) [(1,0)] W I (λh=>bJ h λh=>S h Rg λd h=>zB) λb h=>O
def yw(d:amx aB):amy (Int):=(bg (λ(a:Nat)(e:aB)=>λ_=>((Rh e).b λf=>cd f (ir (.inr (a:Int))) (H ()))) (λ_=>()) 0 d ()).j λ_=>some (-1)
def HN{f r}(h:yw f=some r):Ad 397 [pp f,fN 361 []] (F r):=en Tryz.func397 rfl<|sT<|io h [0,7] (λe=>λ_=>[(1,fN 361 []),(8,F (e:Int))]) [] (λ_=>λ_=>[]) [] W [] W J I qA (sq 0 rfl) (λb e j _ d a i h=>.inl ⟨λ_=>.inl<|nV d<|S h WW λk h=>bu h λh=>lx h b λh=>O,λc=>eC a c⟩) (λ_=>.inl ⟨λc=>eG c,λ_=>⟨rfl,tv,tv⟩⟩) λ_ h=>O
def yx(a:amx aB):amy (amz):=(yw a).b λd=>some (decide (d>=0))
def HO{a r}(h:yx a=some r):Ad 344 [pp a,fN 361 []] (.bool r):=en Tryz.func344 rfl<|S h HN λb h=>O
def yy(a:ar)(b:ai):amy (amz):=some (bZ a.name b.name)
def HP{a b r}(h:yy a b=some r):Ac 358 [ar.X a,pT 0 0] [Y 0 0 (ai.C b)] [] (.bool r) []:=en Tryz.func358 rfl<|D 1 O
def yz(e:amx ar)(a:ai):amy (Int):=(bg (λ(d:Nat)(f:ar)=>λ_=>((yy f a).b λi=>cd i (ir (.inr (d:Int))) (H ()))) (λ_=>()) 0 e ()).j λ_=>some (-1)
def HQ{i a r}(h:yz i a=some r):Ac 357 [lM i,fN 358 [pT 0 0]] [Y 0 0 (ai.C a)] [] (F r) []:=en Tryz.func357 rfl<|sT<|io h [0,7] (λf=>λ_=>[(1,fN 358 [pT 0 0]),(8,F (f:Int))]) [] (λ_=>λ_=>[]) [] W [] W J I qA (sq 0 rfl) (λd f k _ e b j h=>.inl ⟨λ_=>.inl<|nV e<|cG h o1 HP M λl h=>bu h λh=>lx h d λh=>O,λc=>eC b c⟩) (λ_=>.inl ⟨λc=>eG c,λ_=>⟨rfl,di,tv⟩⟩) λ_ h=>O
def M1(d:amx ar)(a:ai):amy (amz):=(yz d a).b λe=>(cd (a.aj != 3) (some true) ((GN a).b λm=>some (!m))).bind (λk=>(cd k (some true) (some (decide (e<0)))).bind (λl=>cd l ((M0 a).b λf=>some f) ((au d e).b λi=>(yx i.bG).b λj=>some (!j))))
def Ri{a b r}(h:M1 a b=some r):Ad 291 [lM a,ai.X b] (.bool r):=en Tryz.func291 rfl<|D 0<|cH h [(1,0)] HQ M rfl B rfl ⟨rfl,tv⟩ tv λk h=>jz h 4 [0,3,5] 16 I (λh=>bI h λh=>S h MG λl h=>zB) λi h=>jz h 3 [0,3,5] 20 I (λh=>bI h λh=>zB) λj h=>bj h (λh=>S h Rg λd h=>O) λh=>nM h λe h=>S h HO λf h=>O
def yA(a:ae)(d:ah):amy (amz):=(M1 d.aN a.bx).b λe=>some e
def HR{a b r}(h:yA a b=some r):Ac 290 [ae.X a,pT 0 0] [Y 0 0 (ah.C b)] [] (.bool r) []:=en Tryz.func290 rfl<|D 1<|S h Ri λd h=>O
def yB(d:ae)(a:ah):amy (amz):=(yA d a).b λe=>some (!e)
def HS{b a r}(h:yB b a=some r):Ac 348 [ae.X b,pT 0 0] [Y 0 0 [fN 290 [pT 0 1]],Y 0 1 (ah.C a)] [] (.bool r) []:=en Tryz.func348 rfl<|D 2<|cG h [(0,1)] HR M λd h=>O
def yC(e:amx ae)(a:ah):amy (Int):=(bg (λ(d:Nat)(f:ae)=>λ_=>((yB f a).b λi=>cd i (ir (.inr (d:Int))) (H ()))) (λ_=>()) 0 e ()).j λ_=>some (-1)
def HT{i a r}(h:yC i a=some r):Ac 204 [kd i,fN 348 [pT 0 0]] [Y 0 0 [fN 290 [pT 0 1]],Y 0 1 (ah.C a)] [] (F r) []:=en Tryz.func204 rfl<|sT<|io h [0,7] (λf=>λ_=>[(1,fN 348 [pT 0 0]),(8,F (f:Int))]) [] (λ_=>λ_=>[Y 0 0 [fN 290 [pT 0 1]]]) [] W [] (λ_=>[Y 0 0 [fN 290 [pT 0 1]]]) J I qA (sq 0 rfl) (λd f k _ e b j h=>.inl ⟨λ_=>.inl<|nV e<|cG h o2 HS M λl h=>bu h λh=>lx h d λh=>O,λc=>eC b c⟩) (λ_=>.inl ⟨λc=>eG c,λ_=>⟨rfl,jR,tv⟩⟩) λ_ h=>O
def yD(d:amx ae)(a:ah):amy (amz):=(yC d a).b λe=>some (decide (e>=0))
def HU{b a r}(h:yD b a=some r):Ac 347 [kd b,fN 348 [pT 0 0]] [Y 0 0 [fN 290 [pT 0 1]],Y 0 1 (ah.C a)] [] (.bool r) []:=en Tryz.func347 rfl<|cG h o2 HT M λd h=>O
def yE(d:amx ae)(a:ah):amy (amz):=(yD d a).b λe=>some (!e)
def HV{b a r}(h:yE b a=some r):Ac 265 [kd b,fN 290 [pT 0 0]] [Y 0 0 (ah.C a)] [] (.bool r) []:=en Tryz.func265 rfl<|D 1<|cG h [(1,1),(0,0)] HU M λd h=>O
def yF(a:ac)(d:ah):amy (amz):=(yE a.af d).b λe=>some e
def HW{a b r}(h:yF a b=some r):Ac 289 [ac.X a,pT 0 0] [Y 0 0 (ah.C b)] [] (.bool r) []:=en Tryz.func289 rfl<|D 1<|cG h o1 HV M λd h=>O
def yG(d:ac)(a:ah):amy (amz):=(yF d a).b λe=>some (!e)
def HX{b a r}(h:yG b a=some r):Ac 256 [ac.X b,pT 0 0] [Y 0 0 [fN 289 [pT 0 1]],Y 0 1 (ah.C a)] [] (.bool r) []:=en Tryz.func256 rfl<|D 2<|cG h [(0,1)] HW M λd h=>O
def yH(e:amx ac)(a:ah):amy (Int):=(bg (λ(d:Nat)(f:ac)=>λ_=>((yG f a).b λi=>cd i (ir (.inr (d:Int))) (H ()))) (λ_=>()) 0 e ()).j λ_=>some (-1)
def HY{i a r}(h:yH i a=some r):Ac 340 [mI i,fN 256 [pT 0 0]] [Y 0 0 [fN 289 [pT 0 1]],Y 0 1 (ah.C a)] [] (F r) []:=en Tryz.func340 rfl<|sT<|io h [0,7] (λf=>λ_=>[(1,fN 256 [pT 0 0]),(8,F (f:Int))]) [] (λ_=>λ_=>[Y 0 0 [fN 289 [pT 0 1]]]) [] W [] (λ_=>[Y 0 0 [fN 289 [pT 0 1]]]) J I qA (sq 0 rfl) (λd f k _ e b j h=>.inl ⟨λ_=>.inl<|nV e<|cG h o2 HX M λl h=>bu h λh=>lx h d λh=>O,λc=>eC b c⟩) (λ_=>.inl ⟨λc=>eG c,λ_=>⟨rfl,jR,tv⟩⟩) λ_ h=>O
def yI(d:amx ac)(a:ah):amy (amz):=(yH d a).b λe=>some (decide (e>=0))
def HZ{b a r}(h:yI b a=some r):Ac 255 [mI b,fN 256 [pT 0 0]] [Y 0 0 [fN 289 [pT 0 1]],Y 0 1 (ah.C a)] [] (.bool r) []:=en Tryz.func255 rfl<|cG h o2 HY M λd h=>O
def yJ(d:amx ac)(a:ah):amy (amz):=(yI d a).b λe=>some (!e)
def H0{b a r}(h:yJ b a=some r):Ac 191 [mI b,fN 289 [pT 0 0]] [Y 0 0 (ah.C a)] [] (.bool r) []:=en Tryz.func191 rfl<|D 1<|cG h [(1,1),(0,0)] HZ M λd h=>O
def M2(a:ah):amy (amz):=(yJ a.am a).b λd=>some d
def WX{a r}(h:M2 a=some r):Ad 197 [ah.X a] (.bool r):=en Tryz.func197 rfl<|D 0<|cH h [(1,0)] H0 M rfl B rfl ⟨rfl,tv⟩ tv λb h=>O
def Rj(a:ac)(f:ai):amy (amz):=cN ((jp a.key) != 1) ((au a.key 0).b λi=>(oc a.af i).b λd=>(cd d.2 ((MW d.1.bx f).b λj=>some j) (some false)).bind (λe=>some e))
def WY{a b r}(h:Rj a b=some r):Ad 294 [ac.X a,ai.X b] (.bool r):=en Tryz.func294 rfl<|gv 0 1<|sT<|bn h λh=>dO ⟨E 0 6 ((10,.al (1,2))::(qc 6 1 (E 7 3 ((11,.tp)::(E 12 1 []))))),[(1,2)],3⟩<|nM h λe h=>S h rH λf h=>⟨tv,tV<|jb h 5 [] (zb 27) [(1,2),(1,1),(1,0)] W I (λh=>bJ h λh=>S h Rd λi h=>zB) λd h=>O⟩
def yK(a:ax)(d:ac)(e:ah):amy (amz):=(oc d.af a.aw).b λf=>(BM e a.aD).b λi=>(Rj i.1 f.1.bx).b λj=>some j
def H1{a b d r}(h:yK a b d=some r):Ac 293 [ax.X a,pT 0 0,pT 0 1] [Y 0 0 (ac.C b),Y 0 1 (ah.C d)] [] (.bool r) []:=en Tryz.func293 rfl<|D 2<|S h rH λe h=>D 3<|S h Dh λf h=>D 4<|S h WY λi h=>O
def yL(e:ax)(a:ac)(d:ah):amy (amz):=(yK e a d).b λf=>some (!f)
def H2{d a b r}(h:yL d a b=some r):Ac 356 [ax.X d,pT 0 0] [Y 0 0 [fN 293 [pT 0 1,pT 0 2]],Y 0 1 (ac.C a),Y 0 2 (ah.C b)] [] (.bool r) []:=en Tryz.func356 rfl<|D 3<|cG h [(0,1),(0,2)] H1 M λe h=>O
def yM(f:amx ax)(a:ac)(d:ah):amy (Int):=(bg (λ(e:Nat)(i:ax)=>λ_=>((yL i a d).b λk=>cd k (ir (.inr (e:Int))) (H ()))) (λ_=>()) 0 f ()).j λ_=>some (-1)
def H3{j a b r}(h:yM j a b=some r):Ac 410 [jP j,fN 356 [pT 0 0]] [Y 0 0 [fN 293 [pT 0 1,pT 0 2]],Y 0 1 (ac.C a),Y 0 2 (ah.C b)] [] (F r) []:=en Tryz.func410 rfl<|sT<|io h [0,7] (λi=>λ_=>[(1,fN 356 [pT 0 0]),(8,F (i:Int))]) [] (λ_=>λ_=>[Y 0 0 [fN 293 [pT 0 1,pT 0 2]]]) [] W [] (λ_=>[Y 0 0 [fN 293 [pT 0 1,pT 0 2]]]) J I qA (sq 0 rfl) (λe i l _ f d k h=>.inl ⟨λ_=>.inl<|nV f<|cG h o3 H2 M λm h=>bu h λh=>lx h e λh=>O,λc=>eC d c⟩) (λ_=>.inl ⟨λc=>eG c,λ_=>⟨rfl,DW,tv⟩⟩) λ_ h=>O
def yN(e:amx ax)(a:ac)(d:ah):amy (amz):=(yM e a d).b λf=>some (decide (f>=0))
def H4{d a b r}(h:yN d a b=some r):Ac 355 [jP d,fN 356 [pT 0 0]] [Y 0 0 [fN 293 [pT 0 1,pT 0 2]],Y 0 1 (ac.C a),Y 0 2 (ah.C b)] [] (.bool r) []:=en Tryz.func355 rfl<|cG h o3 H3 M λe h=>O
def yO(e:amx ax)(a:ac)(d:ah):amy (amz):=(yN e a d).b λf=>some (!f)
def H5{d a b r}(h:yO d a b=some r):Ac 287 [jP d,fN 293 [pT 0 0,pT 0 1]] [Y 0 0 (ac.C a),Y 0 1 (ah.C b)] [] (.bool r) []:=en Tryz.func287 rfl<|D 2<|cG h [(1,2),(0,0),(0,1)] H4 M λe h=>O
def yP(a:ac)(d:ah):amy (amz):=(yO a.aY a d).b λe=>some e
def H6{a b r}(h:yP a b=some r):Ac 292 [ac.X a,pT 0 0] [Y 0 0 (ah.C b)] [] (.bool r) []:=en Tryz.func292 rfl<|D 1<|cH h [(1,1),(0,0)] H5 M rfl B rfl ⟨rfl,rfl,tv⟩ tv λd h=>O
def yQ(d:ac)(a:ah):amy (amz):=(yP d a).b λe=>some (!e)
def H7{b a r}(h:yQ b a=some r):Ac 256 [ac.X b,pT 0 0] [Y 0 0 [fN 292 [pT 0 1]],Y 0 1 (ah.C a)] [] (.bool r) []:=en Tryz.func256 rfl<|D 2<|cG h [(0,1)] H6 M λd h=>O
def yR(e:amx ac)(a:ah):amy (Int):=(bg (λ(d:Nat)(f:ac)=>λ_=>((yQ f a).b λi=>cd i (ir (.inr (d:Int))) (H ()))) (λ_=>()) 0 e ()).j λ_=>some (-1)
def H8{i a r}(h:yR i a=some r):Ac 340 [mI i,fN 256 [pT 0 0]] [Y 0 0 [fN 292 [pT 0 1]],Y 0 1 (ah.C a)] [] (F r) []:=en Tryz.func340 rfl<|sT<|io h [0,7] (λf=>λ_=>[(1,fN 256 [pT 0 0]),(8,F (f:Int))]) [] (λ_=>λ_=>[Y 0 0 [fN 292 [pT 0 1]]]) [] W [] (λ_=>[Y 0 0 [fN 292 [pT 0 1]]]) J I qA (sq 0 rfl) (λd f k _ e b j h=>.inl ⟨λ_=>.inl<|nV e<|cG h o2 H7 M λl h=>bu h λh=>lx h d λh=>O,λc=>eC b c⟩) (λ_=>.inl ⟨λc=>eG c,λ_=>⟨rfl,jR,tv⟩⟩) λ_ h=>O
def yS(d:amx ac)(a:ah):amy (amz):=(yR d a).b λe=>some (decide (e>=0))
def H9{b a r}(h:yS b a=some r):Ac 255 [mI b,fN 256 [pT 0 0]] [Y 0 0 [fN 292 [pT 0 1]],Y 0 1 (ah.C a)] [] (.bool r) []:=en Tryz.func255 rfl<|cG h o2 H8 M λd h=>O
def yT(d:amx ac)(a:ah):amy (amz):=(yS d a).b λe=>some (!e)
def Ia{b a r}(h:yT b a=some r):Ac 191 [mI b,fN 292 [pT 0 0]] [Y 0 0 (ah.C a)] [] (.bool r) []:=en Tryz.func191 rfl<|D 1<|cG h [(1,1),(0,0)] H9 M λd h=>O
def M3(a:ah):amy (amz):=(yT a.am a).b λd=>some d
def WZ{a r}(h:M3 a=some r):Ad 198 [ah.X a] (.bool r):=en Tryz.func198 rfl<|D 0<|cH h [(1,0)] Ia M rfl B rfl ⟨rfl,tv⟩ tv λb h=>O
def Ib(a:ah):amy (Int):=(cd (decide (((a.am.map ac.ak).length:Int)>8)) (some true) ((rz a.am).b λk=>some (!k))).bind (λj=>cN j ((MJ a).b λl=>cN (!l) ((MO a).b λm=>cN (!m) ((MY a).b λd=>cN (!d) ((MZ a).b λe=>cN (!e) ((M2 a).b λf=>cN (!f) ((M3 a).b λi=>cN (!i) (some 0))))))))
def W4{a r}(h:Ib a=some r):Ad 107 [ah.X a] (F r):=en Tryz.func107 rfl<|D 0<|.inl<|sT<|jz h 5 [1] 13 I (λh=>bI h λh=>S h Gy λj h=>zB) λi h=>bn h λh=>S h Wp λk h=>bn h λh=>S h Wv λl h=>bn h λh=>S h WU λb h=>bn h λh=>S h WV λd h=>bn h λh=>S h WX λe h=>bn h λh=>S h WZ λf h=>bn h λh=>O
def yU(a:amw):amy (bo×amz):=some ((bo.mk 0 bM bM bM 0),false)
def Ic{a r}(h:yU a=some r):Ad 201 [.dY,.an a] (.bR [bo.X r.1,.bool r.2]):=match h with|rfl=>E5 (by decide+kernel) a
def Rk(a:bo):amy (amz):=some (bZ a.name bM)
def W5{a r}(h:Rk a=some r):Ad 365 [bo.X a] (.bool r):=en Tryz.func365 rfl<|D 0 O
def yV(b:amx bo):amy (Int):=(bg (λ(a:Nat)(d:bo)=>λ_=>(cd (bZ d.name bM) (ir (.inr (a:Int))) (H ()))) (λ_=>()) 0 b ()).j λ_=>some (-1)
def Id{f r}(h:yV f=some r):Ad 412 [.sl 5 .no (f.map bo.ak),fN 365 []] (F r):=en Tryz.func412 rfl<|sT<|io h [0,7] (λe=>λ_=>[(1,fN 365 []),(8,F (e:Int))]) [] (λ_=>λ_=>[]) [] W [] W J I qA (sq 0 rfl) (λb e i _ d a j h=>.inl ⟨λ_=>.inl<|nV d<|cU (W5 (rfl:Rk i=some _)) B<|bu h λh=>lx h b λh=>O,λc=>eC a c⟩) (λ_=>.inl ⟨λc=>eG c,λ_=>⟨rfl,tv,tv⟩⟩) λ_ h=>O
def yW:amy (amx bo):=(yV []).bind λa=>cd (a==(-1)) (some []) none
def Ie{r}(h:yW=some r):Ad 364 [.sl 5 .no ([].map bo.ak),fN 365 []] (.sl 5 .no (r.map bo.ak)):=en Tryz.func364 rfl<|cY h Id (hP B) λa h=>bw h no
def yX(d:amw)(e:amw)(a:aa)(f:Int):amy (amx bo):=((cd (a.aj==11) (some (f==1)) (some false)).bind (λk=>cN k ((cd (a.aj==13) (some (decide (f>0))) (some false)).bind (λl=>cN l (cN (a.aj==10) (H ())))))).j λ_=>(yW).b λi=>some i
def If{a b d e r}(h:yX a b d e=some r):Ac 296 [pT 0 0,aa.X d,F e] [Y 0 0 [.dY,.an a,.an b,.cy,.cy,.cy]] [] (.sl 5 .no (r.map bo.ak)) []:=en Tryz.func296 rfl<|D 1<|jn h [] (λ_=>[(7,.sl 5 .eD ([].map bo.ak))]) [(1,1)] W I (λh _=>.inl<|jb h 3 [0,2,4] (λs=>[(7,.sl 5 .eD ([].map bo.ak)),(17,.bool s)]) [] W I (λh=>bI h λh=>zB) λi h=>bn h λh=>jz h 3 [0,2,4,7] 34 I (λh=>bI h λh=>zB) λj h=>bn h λh=>bn h λh=>jA h) λ_ h=>cY h Ie (hP B) λf h=>O
def yY(a:amw)(d:amw)(e:aa)(f:Int):amy (Unit):=(yX a d e f).b λi=>(aP (λ_=>(cN (decide (0<((i.map bo.ak).length:Int))) (ir (.inl ())))) 1000000 ()).j λ_=>some ()
def Ig{a b d e r}(h:yY a b d e=some r):Ac 203 [pT 0 0,aa.X d,F e,.dY] [Y 0 0 [.dY,.an a,.an b,.cy,.cy,.cy]] [] .dY []:=en Tryz.func203 rfl<|D 1<|cG h o1 If M λf h=>sT<|lq h [3,14,15,16] W [(1,1)] W I qA (λ_ _ h=>bn h λh=>jA h) λ_ h=>rW
def Rl(i:aa):amy (amx Int):=(fI (λ(f:Nat)(l:aa)=>λa=>((ck (a.length+([(f:Int)]:amx Int).length) 8).b λk=>H (a++[(f:Int)]))) i.aG []).j λe=>(cd (i.aj==10) (some (decide ((Zf e)>0))) (some false)).bind (λd=>(cN d (H ())).j λ_=>some e)
def W6{b r}(h:Rl b=some r):Ad 202 [aa.X b] (lB r):=en Tryz.func202 rfl<|D 0<|sT<|.inr<|bB.ig 3 1 1 rfl rfl rfl<|tQ h 8 [1,7] (λs=>[(3,N6 1 1 s)]) [] (λs=>[N7 1 1 s]) I qA (so (1,0) 6 rfl rfl) (λ_ j k d _ a f h=>.inl ⟨λ_=>.inl<|.inl<|aR h λh=>jA h,λc=>eC a c⟩) (λd=>.inl ⟨λc=>eG c,λ_=>⟨rfl,jR,tP⟩⟩) λi h=>jb h 4 [3] (zb 23) [(1,0)] W I (λh=>bJ h λh=>sT zB) λe h=>jn h [3] W [] W I (λh _=>bn h λh=>jA h) λ_ h=>O
def rJ:Nat->aa->(amx amw)->amw->amw->amy (amx amw)
 |0,_,_,_,_=>none
 |n+1,e,f,a,d=>(cd (e.aj==3) ((yU e.name).b λx=>(cd (!x.2) (some (!bZ e.name bM)) (some false)).bind (λv=>(cd v ((nB f e.name).b λm=>some (!m)) (some false)).bind (λw=>cd w ((ck (f.length+([e.name]:amx amw).length) 16).b λa0=>H (f++[e.name])) (H f)))) (H f)).j λu=>(Rl e).b λo=>(fI (λ(z:Nat)(i:Int)=>λk=>((au e.aG i).b λp=>(yY a d e i).b λa1=>(rJ n p k a d).b λt=>H t)) o u).j λl=>some l
def yZ:∀(n:Nat){k d a b r},rJ n k d a b=some r->Ac 200 [aa.X k,.dY,pT 0 3,pT 0 0,pT 0 1] [Y 0 0 [fN 200 [pT 0 3,pT 0 0,pT 0 1]],Y 0 1 [pT 0 2],Y 0 2 [.dY,.an a,.an b,.cy,.cy,.cy]] [Y 0 3 [cI 0 4 d],cO 0 4 d] (.bR []) [Y 0 3 [cI 0 4 r],cO 0 4 r]
 |0,_,_,_,_,_,h=>no h
 |n+1,k,d,a,b,_,h=>en Tryz.func200 rfl<|D 5<|jn h [1,3,4,5] W [] (λs=>[Y 0 0 [fN 200 [pT 0 3,pT 0 0,pT 0 1]],Y 0 3 [cI 0 4 s],cO 0 4 s]) I (λh _=>bu h λh=>S h Ic λa2 h=>D 6<|jb h 4 [1,2,3,4,5] (zb 27) [(1,6)] (λ_=>[Y 0 0 [fN 200 [pT 0 3,pT 0 0,pT 0 1]]]) I (λh=>bI h λh=>zB) λa0 h=>jb h 6 [1,2,3,4,5] (zb 34) [] (λ_=>[Y 0 0 [fN 200 [pT 0 3,pT 0 0,pT 0 1]]]) I (λh=>bJ h λh=>cY h m4 (cn (ls B) B) λp h=>zB) λa1 h=>bu h λh=>.inl<|aR h λh=>jA h) λz h=>S h W6 λt h=>sT<|io h [1,3,4,5,41,42] (λe=>λ_=>[(43,F (e:Int))]) [] (λ_=>λs=>[Y 0 0 [fN 200 [pT 0 3,pT 0 0,pT 0 1]],Y 0 3 [cI 0 4 s],cO 0 4 s]) [] W [(1,5)] (λs=>[Y 0 0 [fN 200 [pT 0 3,pT 0 0,pT 0 1]],Y 0 3 [cI 0 4 s],cO 0 4 s]) J I qA (sq 41 rfl) (λ_ e u l i f m h=>.inl ⟨λ_=>.inl<|nV i<|dO ⟨E 0 10<|qc 10 1<|qt 11 1 [],[],6⟩<|Z h λv j h=>sT ⟨_,lL j<|aa.bq _,cG h [(0,2)] Ig M λw h=>tV<|cG h [(0,0),(0,1),(0,2),(0,3),(0,4)] (λh=>yZ _ h) M λx h=>jA h⟩,λc=>eC f c⟩) (λl=>.inl ⟨λc=>eG c,λ_=>⟨rfl,iN,tv⟩⟩) λo h=>oj h▸rN iN zS
def rK(a:aa):amy (amx amw):=(rJ 1000000 a [] ⟨#[]⟩ ⟨#[]⟩).b λd=>some d
def Dj{b r}(h:rK b=some r):Ad 109 [aa.X b] (N r):=en Tryz.func109 rfl<|ip 0 1 2 ⟨3,rfl,D 4<|Z h λd a h=>(Li (1,1) 0 1 5 rfl rfl rfl rfl<|(gH [(1,4),(1,3),(1,2),(1,1),(1,5)] (yZ _ a) rfl) B rfl ⟨rfl,rfl,rfl,tv⟩ jR<|oj h▸rW)⟩
def y0(a:amx ac)(e:Int)(d:Int):amy (amx ac×amx ac):=(aS (0<=e/\e<=d/\d<=(uq a)/\(uq a)<=(uq a))).b λl=>cN (e==d) ((aS (0<=(0:Int)/\0<=e/\e<=(((a.map ac.ak).length:Nat):Int))).b λm=>(aS (0<=d/\d<=(((a.map ac.ak).length:Nat):Int)/\(((a.map ac.ak).length:Nat):Int)<=(((a.map ac.ak).length:Nat):Int))).b λo=>(aS (0<(a.map ac.ak).length)).b λp=>(aS ((e.toNat - 0)+((((a.map ac.ak).length:Nat):Int).toNat - d.toNat)<=(a.map ac.ak).length)).b λt=>(let i:amx ac:=(a.take (e.toNat - 0)++(a.drop d.toNat).take ((((a.map ac.ak).length:Nat):Int).toNat - d.toNat)++a.drop ((e.toNat - 0)+((((a.map ac.ak).length:Nat):Int).toNat - d.toNat)));(aS (0<=((((e.toNat - 0)+((((a.map ac.ak).length:Nat):Int).toNat - d.toNat)):Nat):Int)/\((((e.toNat - 0)+((((a.map ac.ak).length:Nat):Int).toNat - d.toNat)):Nat):Int)<=(uq a)/\(uq a)<=(((a.map ac.ak).length:Nat):Int))).b λu=>(aS ((i.map ac.ak).length=(a.map ac.ak).length)).b λv=>(let f:amx ac:=(i.take (((((e.toNat - 0)+((((a.map ac.ak).length:Nat):Int).toNat - d.toNat)):Nat):Int).toNat)++List.replicate ((uq a).toNat - ((((e.toNat - 0)+((((a.map ac.ak).length:Nat):Int).toNat - d.toNat)):Nat):Int).toNat) (Od oX)++i.drop (((((e.toNat - 0)+((((a.map ac.ak).length:Nat):Int).toNat - d.toNat)):Nat):Int).toNat+((uq a).toNat - ((((e.toNat - 0)+((((a.map ac.ak).length:Nat):Int).toNat - d.toNat)):Nat):Int).toNat)));(aS ((f.map ac.ak).length=(a.map ac.ak).length)).b λj=>(aS ((((f.take ((e.toNat - 0)+((((a.map ac.ak).length:Nat):Int).toNat - d.toNat))).map ac.ak).length)=((e.toNat - 0)+((((a.map ac.ak).length:Nat):Int).toNat - d.toNat)))).b λk=>some ((f.take ((e.toNat - 0)+((((a.map ac.ak).length:Nat):Int).toNat - d.toNat))),([]:amx ac)))))
def Ih{a d b r}(h:y0 a d b=some r):Ac 553 [.ms (0,0) 13 ((a.map ac.ak).length),F d,F b] [] [oD 0 0 13 (a.map ac.ak)] (.ms (1,0) 13 ((r.1.map ac.ak).length)) ([oD 0 0 13 (r.2.map ac.ak)]++[oD 1 0 13 (r.1.map ac.ak)]):=eN Tryz.func553 rfl<|kS h λe h=>⟨e.1,e.2.1,e.2.2.1,e.2.2.2,bn h λh=>dO ⟨E 0 6<|qt 6 2 [],[],1⟩<|kS h λf h=>⟨f.1,f.2.1,f.2.2,D 0 ⟨(d.toNat - 0),rfl,kS h λi h=>⟨i.1,i.2.1,i.2.2,b.toNat,rfl,((((a.map ac.ak).length:Nat):Int).toNat - b.toNat),rfl,(Z h λx m h=>Z h λz o h=>let t:amx ac:=(a.take (d.toNat - 0)++(a.drop b.toNat).take ((((a.map ac.ak).length:Nat):Int).toNat - b.toNat)++a.drop ((d.toNat - 0)+((((a.map ac.ak).length:Nat):Int).toNat - b.toNat)));⟨rfl,rfl,(anq (aW m)),(aW o),_,(UG ac.ak a (d.toNat - 0) b.toNat ((((a.map ac.ak).length:Nat):Int).toNat - b.toNat)),Z h λa0 j h=>⟨(aW j).1,(aW j).2.1,(aW j).2.2,((((d.toNat - 0)+((((a.map ac.ak).length:Nat):Int).toNat - b.toNat)):Nat):Int).toNat,rfl,(((a.map ac.ak).length:Int).toNat - ((((d.toNat - 0)+((((a.map ac.ak).length:Nat):Int).toNat - b.toNat)):Nat):Int).toNat),rfl,(Z h λa1 p h=>let w:amx ac:=(t.take (((((d.toNat - 0)+((((a.map ac.ak).length:Nat):Int).toNat - b.toNat)):Nat):Int).toNat)++List.replicate (((a.map ac.ak).length:Int).toNat - ((((d.toNat - 0)+((((a.map ac.ak).length:Nat):Int).toNat - b.toNat)):Nat):Int).toNat) (Od oX)++t.drop (((((d.toNat - 0)+((((a.map ac.ak).length:Nat):Int).toNat - b.toNat)):Nat):Int).toNat+(((a.map ac.ak).length:Int).toNat - ((((d.toNat - 0)+((((a.map ac.ak).length:Nat):Int).toNat - b.toNat)):Nat):Int).toNat)));⟨aW p,_,.inl rfl,_,(CJ (.agg (dr (hT (el (hT B)))))),Z h λu k h=>Z h λv l h=>match h with|rfl=>⟨.inr rfl,_,_,(Wk.trans (Wk.CI 6 1 rfl rfl (aW k) rfl) (Wk.trans (Wk.pick [(6,.ms (1,1) 13 ((d.toNat - 0)+((((a.map ac.ak).length:Nat):Int).toNat - b.toNat)))] mi) (Wk.trans (Wk.aX (1,1) (1,0) rfl) (Wk.refl _ _ _ _)))),(wq ⟨.br (eJ ac.ak _ _),tv⟩),mg (aW l)⟩⟩)⟩⟩)⟩⟩⟩⟩
def Ro(a:amw)(b:amw):amy (Int):=some (Lib.compareBytes a.data.toList b.data.toList)
def W7{d e r}(h:Ro d e=some r):Ad 618 [.an d,.an e] (F r):=match h with|rfl=>df.UE (by decide+kernel) (λa b=>Lib.compareBytes a.data.toList b.data.toList) Tryz.ke d e
def M4(a:amw)(b:amw):amy (Int):=(Ro a b).bind λd=>some d
def Rp{a b r}(h:M4 a b=some r):Ad 592 [.an a,.an b] (F r):=en Tryz.func592 rfl<|S h W7 λd h=>O
def Rq(a:ac)(b:ac):amy (Int):=(M4 a.name b.name).bind λd=>some d
def W8{a b r}(h:Rq a b=some r):Ad 599 [ac.X a,ac.X b] (F r):=en Tryz.func599 rfl<|gv 0 1<|S h Rp λd h=>O
def y1(e:amx ac)(l:Int)(w:Int):amy (amx ac):=(aP (λ(i,k)=>(cd (decide (i<w)) ((aP (λ(a,d)=>(cd (decide (a>l)) ((aS (0<=a/\a<(uq e))).b λx=>(au d a).b λm=>(aS (0<=(w6 (a - 1))/\(w6 (a - 1))<(uq e))).b λz=>(au d (w6 (a - 1))).b λo=>(Rq m o).b λp=>cd (decide (p<0)) ((aS (0<=(w6 (a - 1))/\(w6 (a - 1))<(uq e))).b λa0=>(au d (w6 (a - 1))).b λf=>(aS (0<=a/\a<(uq e))).b λa1=>(au d a).b λt=>(aS (0<=a/\a<(uq e))).b λa2=>(au d a).b λa3=>(aS (0<=(w6 (a - 1))/\(w6 (a - 1))<(uq e))).b λa4=>(au (d.set a.toNat f) (w6 (a - 1))).b λa5=>H ((w6 (a - 1)),((d.set a.toNat f).set ((w6 (a - 1)).toNat) t))) (ir (.inl d))) (ir (.inl d)))) 1000000 (i,k)).j λv=>H ((w6 (i+1)),v)) (ir (.inl k)))) 1000000 ((w6 (l+1)),e)).j λu=>some u
def Ii{v x z r}(h:y1 v x z=some r):Ac 645 [.ms (0,0) 13 ((v.map ac.ak).length),F x,F z,fN 599 []] [] [oD 0 0 13 (v.map ac.ak)] (.bR []) [oD 0 0 13 (r.map ac.ak)]:=en Tryz.func645 rfl<|lp h [0,1,2] (λs=>[(3,fN 599 []),(8,F s.1)]) [] (λs=>[oD 0 0 13 (s.2.map ac.ak)]) [] W [] (λs=>[oD 0 0 13 (s.map ac.ak)]) I I qA (λ_⟨a6,a7⟩h=>bu h λh=>.inl<|lp h [0,1,2,8] (λs=>[(3,fN 599 []),(9,F s.1)]) [] (λs=>[oD 0 0 13 (s.2.map ac.ak)]) [0,1,2,8] (λ_=>[(3,fN 599 [])]) [] (λs=>[oD 0 0 13 (s.map ac.ak)]) I I qA (λ_⟨a,w⟩h=>dO ⟨E 0 14<|qt 14 1<|E 15 2 [],[],1⟩<|bi h (λh=>kS h λb h=>⟨b.1,b.2,(a.toNat*13),rfl,Z h λa1 l h=>⟨a.toNat,0,_,rfl,(fw l rfl),kS h λd h=>⟨d.1,d.2,((IntKind.i64.wrap (a - 1)).toNat*13),rfl,Z h λa2 m h=>⟨(IntKind.i64.wrap (a - 1)).toNat,0,_,rfl,(fw m rfl),S h W8 λa3 h=>bu h λh=>.inl<|dO ⟨E 0 15<|qc 15 1<|E 16 1<|qt 17 1 [],[],1⟩<|kS h λe h=>⟨e.1,e.2,((IntKind.i64.wrap (a - 1)).toNat*13),rfl,Z h λk o h=>⟨(IntKind.i64.wrap (a - 1)).toNat,0,_,rfl,(fw o rfl),kS h λf h=>⟨f.1,f.2,(a.toNat*13),rfl,Z h λa0 p h=>⟨a.toNat,0,_,rfl,(fw p rfl),kS h λi h=>⟨i.1,i.2,(a.toNat*13),rfl,Z h λa4 t h=>⟨a.toNat,0,_,rfl,(fw t rfl),rfl,((w.set a.toNat k).map ac.ak),(fV zA),tV<|kS h λj h=>⟨j.1,j.2,((IntKind.i64.wrap (a - 1)).toNat*13),rfl,Z h λa5 u h=>⟨(IntKind.i64.wrap (a - 1)).toNat,0,_,rfl,(fw u rfl),rfl,(((w.set a.toNat k).set ((IntKind.i64.wrap (a - 1)).toNat) a0).map ac.ak),(fV zA),jA h⟩⟩⟩⟩⟩⟩⟩⟩⟩⟩⟩⟩) λh=>.inl ⟨nofun,λ_=>jA h⟩) λa9 h=>jA h) λa8 h=>oj h▸rN di zS
def y2(e:amx ac)(a:Int)(d:Int)(i:Int):amy (amx ac):=(aP (λ(_:Unit)=>(cd (decide ((w6 (d - a))<=12)) ((y1 e a d).b λf=>ir (.inr f)) none)) 1000000 ()).j Empty.elim
def Ij{a b d e r}(h:y2 a b d e=some r):Ac 620 [.ms (0,0) 13 ((a.map ac.ak).length),F b,F d,F e,fN 599 []] [] [oD 0 0 13 (a.map ac.ak)] (.bR []) [oD 0 0 13 (r.map ac.ak)]:=en Tryz.func620 rfl<|Z h λk i h=>.inr<|bB.lp dX (λ(s:Unit)=>[(0,.ms (0,0) 13 ((a.map ac.ak).length)),(1,F b),(2,F d),(3,F e),(4,fN 599 []),(10,.bool true),(11,.bool true)]) (λ(s:Unit)=>[oD 0 0 13 (a.map ac.ak)]) (λ(_:Empty)=>[]) (λ(_:Empty)=>[]) i ⟨rfl,di,E8⟩ (have f:=h;λ_ y h=>.inl<|bj h (λh=>cG h o1 Ii M λj h=>lx h f λh=>oj h▸rX di zS) no) λc _=>c.elim
def y3(a:amx ac):amy (amx ac):=(G5 (IntKind.u64.wrap (uq a))).b λd=>(y2 a 0 (uq a) d).b λe=>some e
def Ik{a r}(h:y3 a=some r):Ac 598 [.ms (0,0) 13 ((a.map ac.ak).length),fN 599 []] [] [oD 0 0 13 (a.map ac.ak)] (.bR []) [oD 0 0 13 (r.map ac.ak)]:=en Tryz.func598 rfl<|S h ML λb h=>cG h o1 Ij M λd h=>oj h▸rN di zS
def mB(d:amx ar)(a:amx ac)(e:ac):amy (amx ar×amx ac):=(aS (0<(a.map ac.ak).length)).b λi=>(ck (a.length+([e]:amx ac).length) 224).b λj=>(aS (((a++[e]).map ac.ak).length=((a.map ac.ak).length+(([e]:amx ac).map ac.ak).length))).b λk=>(y3 (a++[e])).b λf=>(aS ((f.map ac.ak).length=((a.map ac.ak).length+(([e]:amx ac).map ac.ak).length))).b λl=>some (d,f)
def od{b a d r}(h:mB b a d=some r):Ac 554 [pT 0 0,ac.X d] [] [Y 0 0 [.ms (0,1) 2 ((b.map ar.ak).length),.ms (0,2) 13 ((a.map ac.ak).length)],oD 0 1 2 (b.map ar.ak),oD 0 2 13 (a.map ac.ak)] (.bR []) [Y 0 0 (ah.C (ah.mk r.1 r.2)),oD 0 1 2 (([]:amx ar).map ar.ak),oD 0 2 13 (([]:amx ac).map ac.ak)]:=eN Tryz.func554 rfl<|D 3<|dO ⟨E 0 7<|qc 7 1<|E 8 2<|qt 10 1 [],[],4⟩<|kS h λe h=>Z h λk f h=>⟨rfl,(anq e),gF f (by simp),D 4 ⟨((a.map ac.ak).length+(([d]:amx ac).map ac.ak).length),rfl,tV<|kS h λi h=>cJ h [(1,4)] Ik M (cn (mg i) B) λl h=>kS h λj h=>oj h▸⟨.inl rfl,_,_,(Wk.trans (Wk.eZ (0,0) 0 rfl rfl rfl rfl)<|Wk.trans (Wk.eZ (0,0) 1 rfl rfl rfl j)<|Wk.refl _ _ _ _),DW,.refl _⟩⟩⟩
def y4(a:ac)(b:amw):amy (amz):=some (bZ a.name b)
def Il{a b r}(h:y4 a b=some r):Ac 597 [ac.X a,pT 0 0] [Y 0 0 [.an b]] [] (.bool r) []:=en Tryz.func597 rfl<|D 1 O
def y5(e:amx ac)(a:amw):amy (Int):=(bg (λ(d:Nat)(f:ac)=>λ_=>((y4 f a).b λi=>cd i (ir (.inr (d:Int))) (H ()))) (λ_=>()) 0 e ()).j λ_=>some (-1)
def Im{i a r}(h:y5 i a=some r):Ac 340 [mI i,fN 597 [pT 0 0]] [Y 0 0 [.an a]] [] (F r) []:=en Tryz.func340 rfl<|sT<|io h [0,7] (λf=>λ_=>[(1,fN 597 [pT 0 0]),(8,F (f:Int))]) [] (λ_=>λ_=>[]) [] W [] W J I qA (sq 0 rfl) (λd f k _ e b j h=>.inl ⟨λ_=>.inl<|nV e<|cG h o1 Il M λl h=>bu h λh=>lx h d λh=>O,λc=>eC b c⟩) (λ_=>.inl ⟨λc=>eG c,λ_=>⟨rfl,di,tv⟩⟩) λ_ h=>O
def kg(a:ah)(d:amw):amy (Int):=(y5 a.am d).b λe=>some e
def kz{a b r}(h:kg a b=some r):Ad 550 [ah.X a,.an b] (F r):=en Tryz.func550 rfl<|gv 0 1<|cG h [(1,1)] Im M λd h=>O
def ki(d:amx R):amy (Int):=(aP (λa=>(cd (decide ((w6 (a+1))<((d.map R.av).length:Int))) ((au d (w6 (a+1))).b λe=>cd (R.Y6 e true) ((au d a).b λf=>(R.SU f).b λi=>ir (.inr i)) (H (w6 (a+2)))) (ir (.inl ())))) 1000000 0).j λ_=>some 0
def kA{d r}(h:ki d=some r):Ad 551 [.sl 1 .no (d.map R.av)] (F r):=en Tryz.func551 rfl<|lp h [0] (zi 3) [] W [] W [] W I I qA (λa f h=>sT<|bu h λh=>.inl<|nM h λe h=>⟨_,R.bZ e true,bu h λh=>nM h λi h=>Z h λj b h=>⟨_,R.Ui b,lx h a λh=>O⟩⟩) λ_ h=>O
def vx(a:amw):amy (amz):=(vo (cD.mk 2 a 0)).b λd=>some d
def Bo{a r}(h:vx a=some r):Ad 552 [.an a] (.bool r):=en Tryz.func552 rfl<|S h Bl λb h=>O
def rL(m:amx ar)(a:amx ac)(d:Nat)(f:ac)(o:GStep):amy (Int×amx ar×amx ac):=(kg (ah.mk m (a.set d f)) o.aD).b λi=>(vx o.name).b λb2=>(kg (ah.mk m (a.set d f)) o.name).b λb3=>(ki [(R.e 7),(R.b (decide (i<0))),(R.e 6),(R.b (!b2)),(R.e 8),(R.b (decide (b3>=0)))]).b λa8=>cd (a8 != 0) (some (a8,m,(a.set d f))) ((aS (0<=i/\i<(a.length:Int))).b λc8=>(aS (i.toNat≠d)).b λc9=>(au a i).b λt=>(aP (λ(k,v)=>(cd (decide (k<(a.length:Int))) (cd (decide (k.toNat=d)) ((aS (d<(a.set i.toNat {t with name:=o.name}).length)).b λb4=>(aS (0<=k/\k<(a.length:Int))).b λb5=>(aP (λ(l,p)=>(cd (decide (l<((f.aY.map ax.ak).length:Int))) (((aS (0<=l/\l<((f.aY.map ax.ak).length:Int))).b λb6=>(au p l).b λa4=>cd (bZ a4.aD o.aD) ((aS (0<=k/\k<(a.length:Int))).b λb7=>(aS (k.toNat=d/\d<(a.set i.toNat {t with name:=o.name}).length)).b λb8=>(aS (0<=l/\l<((f.aY.map ax.ak).length:Int))).b λb9=>(au p l).b λa5=>H (p.set l.toNat (ax.mk a5.aw o.name))) (H p)).j λa0=>H ((IntKind.i64.wrap (l+1)),a0)) (ir (.inl p)))) 1000000 (0,v)).j λa2=>H ((IntKind.i64.wrap (k+1)),a2)) ((aS (0<=k/\k<(a.length:Int))).b λc0=>(au (a.set i.toNat {t with name:=o.name}) k).b λa6=>(fI (λ(u:Nat)(a7:ax)=>λw=>((cd (bZ a7.aD o.aD) ((aS (0<=k/\k<(a.length:Int))).b λc1=>(aS (k.toNat=d/\d<(a.set i.toNat {t with name:=o.name}).length)).b λc2=>(aS (0<=(u:Int)/\(u:Int)<((f.aY.map ax.ak).length:Int))).b λc3=>(au w (u:Int)).b λa9=>H (w.set ((u:Int).toNat) (ax.mk a9.aw o.name))) (H w)).j λa1=>H a1)) a6.aY v).j λa3=>H ((IntKind.i64.wrap (k+1)),a3))) (ir (.inl v)))) 1000000 (0,f.aY)).j λx=>(aS (0<=i/\i<(a.length:Int))).b λc4=>(aS (i.toNat≠d)).b λc5=>(au (a.set i.toNat {t with name:=o.name}) i).b λb0=>(aS ((x.map ax.ak).length=(f.aY.map ax.ak).length)).b λc6=>(aS ((((a.set i.toNat {t with name:=o.name}).set d {f with aY:=x}).map ac.ak).length=a.length)).b λc7=>(y0 ((a.set i.toNat {t with name:=o.name}).set d {f with aY:=x}) i (IntKind.i64.wrap (i+1))).b λb1=>(mB m b1.1 b0).b λz=>some (0,z.1,z.2))
def In{e b d a k r}(h:rL e b d a k=some r):Ac 526 [pT 0 0,GStep.X k] [] [Y 0 0 [.ms (0,1) 2 ((e.map ar.ak).length),.ms (0,2) 13 b.length],oD 0 1 2 (e.map ar.ak),oD 0 2 13 (dJ ac.ak b d (.agg (.an a.name::.ms (0,3) 6 ((a.af.map ae.ak).length)::.ms (0,4) 1 ((a.key.map AV.an).length)::.ms (0,5) 2 ((a.aY.map ax.ak).length)::a.aC.T []))),oD 0 3 6 (a.af.map ae.ak),oD 0 4 1 (a.key.map AV.an),oD 0 5 2 (a.aY.map ax.ak)] (F r.1) [Y 0 0 (ah.C (ah.mk r.2.1 r.2.2)),oD 0 1 2 (([]:amx ar).map ar.ak),oD 0 2 13 (([]:amx ac).map ac.ak),oD 0 3 6 (([]:amx ae).map ae.ak),oD 0 4 1 (([]:amx amw).map AV.an),oD 0 5 2 (([]:amx ax).map ax.ak)]:=eN Tryz.func526 rfl<|D 6<|dO ⟨E 0 5<|qt 5 1<|E 6 1 [],[],7⟩<|Z h λl c0 h=>cx (kz c0) (vc (va<|vc (vm rfl rfl<|vl B)<|vc (vm rfl ci<|nJ<|va<|vc (vp zA)<|vc (vm rfl rfl<|vl B)<|vc (vm rfl rfl<|vl B)<|vc (vm rfl rfl<|vl B)<|vl B)<|vl B)<|vc (vp zA) dl.nil) jf<|dO ⟨E 0 7<|E 10 6<|qc 7 1<|E 8 2<|qc 16 1<|E 17 3<|qt 20 1<|E 21 1 [],[],7⟩<|S h Bo λd8 h=>tV<|Z h λd9 c1 h=>cx (kz c1) (vc (va<|vc (vm rfl rfl<|vl B)<|vc (vm rfl ci<|nJ<|va<|vc (vp zA)<|vc (vm rfl rfl<|vl B)<|vc (vm rfl rfl<|vl B)<|vc (vm rfl rfl<|vl B)<|vl B)<|vl B)<|vc (vp zA) dl.nil) jf<|tV<|cY h kA (cn (ls B) B) λe0 h=>bj h (λh=>oj h▸⟨.inr rfl,_,_,(Wk.trans (Wk.eZ (0,0) 0 rfl rfl rfl rfl)<|Wk.trans (Wk.dK (0,2) 1 rfl rfl rfl rfl rfl)<|Wk.trans (Wk.dK (0,2) 2 rfl rfl rfl rfl rfl)<|Wk.trans (Wk.dK (0,2) 3 rfl rfl rfl rfl rfl)<|Wk.trans (Wk.eZ (0,0) 1 rfl rfl rfl ci)<|Wk.refl _ _ _ _),⟨co<|dr<|cn (ls<|bY zA) B,iN⟩,.refl _⟩) λh=>dO ⟨E 0 9<|qt 9 1 [],[],7⟩<|kS h λa2 h=>kS h λa3 h=>⟨a2.1,a2.2,(l.toNat*13),rfl,Z h λj c2 h=>⟨l.toNat,0,_,rfl,(ut c2 rfl a3),rfl,(dJ ac.ak (b.set l.toNat<|ac.mk k.name j.af j.key j.aY j.aC) d<|.agg (.an a.name::.ms (0,3) 6 ((a.af.map ae.ak).length)::.ms (0,4) 1 ((a.key.map AV.an).length)::.ms (0,5) 2 ((a.aY.map ax.ak).length)::a.aC.T [])),(vg zA a3),lp h [0,3,5,54] (λs=>[(55,F s.1)]) [] (λs=>[oD 0 5 2 (s.2.map ax.ak)]) [0,5] W [(1,6)] (λs=>[oD 0 5 2 (s.map ax.ak)]) I I qA (λ_⟨i,c6⟩h=>bu h λh=>.inl<|pD h (λm h=>Z h λd1 a5 h=>kS h λo h=>⟨o.1,o.2,(i.toNat*13),rfl,i.toNat,3,_,rfl,(gy (⟨anF m,aW a5⟩:_/\_)),lp h [0,3,5,7,54,55,65,66] (λs=>[(67,F s.1)]) [] (λs=>[oD 0 5 2 (s.2.map ax.ak)]) [0,3,5,54,55] W [] (λs=>[oD 0 5 2 (s.map ax.ak)]) I I qA (λ_⟨f,b8⟩h=>bu h λh=>jn h [0,3,5,7,54,55,65,66,67] W [] (λs=>[oD 0 5 2 (s.map ax.ak)]) I (λh _=>.inl<|kS h λp h=>⟨p.1,p.2,(f.toNat*2),rfl,Z h λd2 a6 h=>⟨f.toNat,0,_,rfl,(fw a6 rfl),D 7<|bu h λh=>dO ⟨E 0 13<|qt 13 1 [],[],8⟩<|kS h λt h=>kS h λa7 h=>⟨t.1,t.2,(i.toNat*13),rfl,i.toNat,3,_,rfl,(gy a7),kS h λu h=>⟨u.1,u.2,(f.toNat*2),rfl,Z h λc3 a8 h=>⟨f.toNat,1,_,rfl,(fw a8 rfl),rfl,((b8.set f.toNat<|ax.mk c3.aw k.name).map ax.ak),(fV zA),jA h⟩⟩⟩⟩⟩) λc7 h=>jA h) λc9 h=>jA h⟩) λm h=>kS h λv h=>⟨v.1,v.2,(i.toNat*13),rfl,Z h λd3 a9 h=>⟨i.toNat,3,_,rfl,(ut a9 rfl<|of_decide_eq_false m),sT<|wt h 67 [0,3,5,7,54,55,65,66] W [] (λs=>[oD 0 5 2 (s.map ax.ak)]) I qA (sq 65 rfl) (λ_ a0 d4 a1 b0 a4 c5 h=>.inl ⟨λ_=>jn h [0,3,5,7,54,55,65,66,67] W [] (λs=>[oD 0 5 2 (s.map ax.ak)]) I (λh _=>.inl<|nV b0<|D 7<|bu h λh=>dO ⟨E 0 13<|qt 13 1 [],[],8⟩<|kS h λw h=>kS h λb1 h=>⟨w.1,w.2,(i.toNat*13),rfl,i.toNat,3,_,rfl,(gy b1),kS h λx h=>⟨x.1,x.2,((a0:Int).toNat*2),rfl,Z h λc4 b2 h=>⟨(a0:Int).toNat,1,_,rfl,(fw b2 rfl),rfl,((a1.set ((a0:Int).toNat)<|ax.mk c4.aw k.name).map ax.ak),(fV zA),jA h⟩⟩⟩) λc8 h=>jA h,λc=>eC a4 c⟩) (λa1=>.inl ⟨λc=>eG c,λ_=>⟨rfl,LG,Pq⟩⟩) λd0 h=>jA h⟩⟩) λb9 h=>kS h λz h=>kS h λb3 h=>⟨z.1,z.2,(l.toNat*13),rfl,Z h λd5 b4 h=>⟨l.toNat,0,_,rfl,(ut b4 rfl b3),D 6<|kS h λb5 h=>kS h λb6 h=>Z h λd6 b7 h=>(o8 (0,2) 1 rfl rfl rfl rfl rfl<|o8 (0,2) 2 rfl rfl rfl rfl rfl<|o8 (0,2) 3 rfl rfl rfl (b5) rfl<|(cc [(0,2)] 7 (Ih b7) rfl) (cn (mg b6) B) rfl rfl tv ⟨.br (ys:=(((b.set l.toNat (ac.mk k.name j.af j.key j.aY j.aC)).set d (ac.mk a.name a.af a.key b9 a.aC)).map ac.ak))<|bY zA,tv⟩<|cG h [(0,0),(0,1),(1,7)] od M λd7 h=>oj h▸⟨.inr rfl,_,_,(Wk.trans (Wk.Pm (0,2) rfl)<|Wk.refl _ _ _ _),CR,.refl _⟩)⟩⟩⟩⟩
def y6(a:ax)(b:amw):amy (amz):=some (bZ a.aw b)
def Io{a b r}(h:y6 a b=some r):Ac 600 [ax.X a,pT 0 0] [Y 0 0 [.an b]] [] (.bool r) []:=en Tryz.func600 rfl<|D 1 O
def y7(e:amx ax)(a:amw):amy (Int):=(bg (λ(d:Nat)(f:ax)=>λ_=>((y6 f a).b λi=>cd i (ir (.inr (d:Int))) (H ()))) (λ_=>()) 0 e ()).j λ_=>some (-1)
def Ip{i a r}(h:y7 i a=some r):Ac 410 [jP i,fN 600 [pT 0 0]] [Y 0 0 [.an a]] [] (F r) []:=en Tryz.func410 rfl<|sT<|io h [0,7] (λf=>λ_=>[(1,fN 600 [pT 0 0]),(8,F (f:Int))]) [] (λ_=>λ_=>[]) [] W [] W J I qA (sq 0 rfl) (λd f k _ e b j h=>.inl ⟨λ_=>.inl<|nV e<|cG h o1 Io M λl h=>bu h λh=>lx h d λh=>O,λc=>eC b c⟩) (λ_=>.inl ⟨λc=>eG c,λ_=>⟨rfl,di,tv⟩⟩) λ_ h=>O
def Bp(a:ac)(d:amw):amy (Int):=(y7 a.aY d).b λe=>some e
def Dk{a b r}(h:Bp a b=some r):Ad 555 [ac.X a,.an b] (F r):=en Tryz.func555 rfl<|gv 0 1<|cG h [(1,1)] Ip M λd h=>O
def rM:Nat->amw->amw->amw->aa->(amx amw)->(amx amw)->aa->amy (amx amw)
 |0,_,_,_,_,_,_,_=>none
 |n+1,e,f,i,k,l,a,d=>((cd (d.aj==3) (H (d.aj==3)) (H (d.aj==11))).j λv=>cd v ((ck (a.length+([d.name]:amx amw).length) 16).b λx=>H (a++[d.name])) (cN (d.aj==10) (cN (d.aj==13) (H a)))).j λu=>(fI (λ(w:Nat)(p:aa)=>λm=>((rM n e f i k l m p).b λt=>H t)) d.aG u).j λo=>some o
def y8:∀(n:Nat){a b d e f i l r},rM n a b d e f i l=some r->Ac 601 [pT 0 0,aa.X l] [] [Y 0 0 (.dY::.an a::.an b::.cy::.cy::.cy::.an d::e.T [N f,cI 0 1 i]),cO 0 1 i] (.bR []) [Y 0 0 (.dY::.an a::.an b::.cy::.cy::.cy::.an d::e.T [N f,cI 0 1 r]),cO 0 1 r]
 |0,_,_,_,_,_,_,_,_,h=>no h
 |n+1,a,b,d,e,f,i,l,_,h=>en Tryz.func601 rfl<|D 2<|jn h [0,3] W [] (λs=>[Y 0 0 (.dY::.an a::.an b::.cy::.cy::.cy::.an d::e.T [N f,cI 0 1 s]),cO 0 1 s]) I (λh _=>.inl<|jn h [0,3,7] (zb 8) [] W I (λh _=>ba h λh=>jA h) λx h=>bj h (λh=>dO ⟨E 0 8<|qc 8 1<|E 9 2<|qt 11 1 [],[],3⟩<|aR h λh=>tV<|jA h) λh=>bn h λh=>bn h λh=>jA h) λw h=>sT<|wt h 49 [0,47,48] W [(1,2)] (λs=>[Y 0 0 (.dY::.an a::.an b::.cy::.cy::.cy::.an d::e.T [N f,cI 0 1 s]),cO 0 1 s]) I qA (sq 47 rfl) (λ_ t u m k j o h=>.inl ⟨λ_=>.inl<|sT ⟨_,mb k<|aa.bq _,D 2<|cG h o2 (λh=>y8 _ h) M λv h=>jA h⟩,λc=>eC j c⟩) (λm=>.inl ⟨λc=>eG c,λ_=>⟨rfl,jR,tP⟩⟩) λp h=>oj h▸rN jR zS
def iv(a:amx aa):amy (amx aa):=(ck (([]:amx aa).length+a.length) 136).b λ_=>some a
def y9{d r}(h:iv d=some r):Ac 131 [jd d] [] [] (.ms (1,0) 9 ((r.map aa.ak).length)) ([]++[oD 1 0 9 (r.map aa.ak)]):=df.gR dX Tryz.func131 rfl (by decide+kernel) rfl rfl λc hc=>.inl ⟨λb=>Z h λe a h=>match h with|rfl=>⟨.inr rfl,_,_,Wk.trans (Wk.Lk 2 9 0 rfl rfl)<|Wk.refl _ _ _ _,⟨jq aa.ak<|hc b,tv⟩,iz aa.ak<|hc b⟩,λb=>Z h λe a h=>.inl ⟨gF a (by simp),.inr ⟨rfl,D 0<|match h with|rfl=>⟨.inr rfl,_,_,Wk.refl _ _ _ _,⟨.refl _,tv⟩,.refl _⟩⟩⟩⟩
mutual
def rO:Nat->amw->amw->amw->aa->(amx amw)->(amx amw)->aa->amy (aa)
 |0,_,_,_,_,_,_,_=>none
 |n+1,t,u,o,p,w,x,a=>(pE a.aF).b λa0=>(pE a.binds).b λa1=>(iv a.aG).b λz=>(cd (a.aj==3) ((aP (λ_=>(ir (.inl ()))) 1000000 ()).j λ_=>cd (bZ a.name o) (ir p) (H z)) (cN (a.aj==11) (cN (a.aj==10) (cN (a.aj==13) ((fI (λ(a5:Nat)(b6:aa)=>λa2=>((za n (a5:Int) t u o p w x a a.aj a.name a.n a.s a0 a1 a2 a.pos a.ef).b λb4=>(aS ((a2.map aa.ak).length=(z.map aa.ak).length)).b λb7=>H b4)) a.aG z).j λa4=>H a4))))).j λa3=>(aS ((a3.map aa.ak).length=(z.map aa.ak).length)).b λb8=>some {a with aF:=a0,binds:=a1,aG:=a3}
def za:Nat->Int->amw->amw->amw->aa->(amx amw)->(amx amw)->aa->Int->amw->Int->amw->(amx amw)->(amx amw)->(amx aa)->Int->Int->amy (amx aa)
 |0,_,_,_,_,_,_,_,_,_,_,_,_,_,_,_,_,_=>none
 |n+1,v,d,e,i,k,l,m,b5,a6,a7,a8,a9,b0,b1,f,b2,b3=>(au b5.aG v).b λa0=>(rO n d e i k l m a0).b λa1=>(aS (0<=v/\v<(EI f))).b λz=>(au f v).b λb9=>some (f.set v.toNat a1)
end
def oe(n:Nat):Prop:=∀{a b e f i d j r},rO n a b e f i d j=some r->Ac 602 [pT 0 0,aa.X j,.dY] [Y 0 0 (.dY::.an a::.an b::.cy::.cy::.cy::.an e::f.T [N i,cI 0 1 d]),cO 0 1 d] [] (aa.X r) []
def rP(n:Nat):Prop:=∀{w b d e f i a x k l m o p t j u v r},za n w b d e f i a x k l m o p t j u v=some r->Ac 622 [F w,.dY,pT 0 0,pT 0 3,pT 0 4] [Y 0 0 [pT 0 1],Y 0 1 (.dY::.an b::.an d::.cy::.cy::.cy::.an e::f.T [N i,cI 0 2 a]),cO 0 2 a,Y 0 3 (aa.C x),Y 0 4 [F k,.an l,F m,.an o,N p,N t,.ms (0,5) 9 ((j.map aa.ak).length),F u,F v]] [oD 0 5 9 (j.map aa.ak)] (.bR []) [oD 0 5 9 (r.map aa.ak)]
def Iq{n:Nat}(a:rP n):oe (n+1):=λ{j k p t u v a4 _}h=>
 eN Tryz.func602 rfl<|⟨2,rfl,3,rfl,4,rfl,5,rfl,⟨E 0 2 (E 3 2 (E 6 2 (qc 2 1 (E 9 1 (qc 5 1 (qc 8 1 (qt 10 1 (E 11 1 (qt 12 1 (E 13 1 (qt 14 1 []))))))))))),[],6⟩,(by decide+kernel),S h q9 λa5 h=>⟨tv,S h q9 λa6 h=>⟨tv,Z h λa7 o h=>(cc [] 6 (y9 o) rfl) B rfl rfl tv tv ⟨tv,jn h [6,7] W [(1,3),(1,2)] (λs=>[oD 1 6 9 (s.map aa.ak)]) I (λh m=>.inl (bj h (λh=>lq h [2,3,4,6,7] W [] W I qA (λ_ _ h=>.inl ⟨nofun,λ_=>jA h⟩) λ_ h=>⟨⟨E 0 7 [],[],7⟩,(by decide+kernel),bj h (λh=>jx h m λh=>oj h▸⟨.inr rfl,_,_,(Wk.refl _ _ _ _),jR,.refl _⟩) λh=>jA h⟩) λh=>bj h (λh=>(no h)) λh=>bj h (λh=>(no h)) λh=>bj h (λh=>(no h)) λh=>⟨_,B,io h [2,6,7,33] (λb=>λ_=>[(9,fN 622 [pT 1 2,pT 1 3,pT 1 5]),(34,F (b:Int))]) [] (λ_=>λs=>[oD 1 6 9 (s.map aa.ak)]) [6,7] W [(1,3),(1,2)] (λs=>[oD 1 6 9 (s.map aa.ak)]) J I ⟨rfl,LG,E7⟩ (.inr ⟨(1,3),6,_,_,_,rfl,rfl⟩) (λ_ b z l _ d w h=>.inl ⟨λ_=>.inl (Z h λa0 e h=>Z h λa1 f h=>(gH [(1,2),(0,0),(0,1),(1,3),(1,5),(1,6)] (a e) rfl) B rfl ⟨rfl,rfl,rfl,rfl,(aW f▸rfl),tv⟩ di (jA h)),λc=>eC d c⟩) (λl=>.inl ⟨λc=>eG c,λ_=>⟨rfl,iN,iI⟩⟩) λx h=>jA h⟩)) λa3 h=>Z h λa2 i h=>oj h▸⟨.inr rfl,_,_,(Wk.trans (Wk.eZ (1,4) 6 rfl rfl rfl (aW i)) (Wk.refl _ _ _ _)),jR,.refl _⟩⟩⟩⟩⟩
def Ir{n:Nat}(a:oe n):rP (n+1):=λ{m b d f i j k a3 t u v w x z e a0 a1 _}h=>
 en Tryz.func622 rfl<|⟨⟨E 0 10 (qc 10 1 (E 11 1 (qt 12 1 []))),[],6⟩,(by decide+kernel),Z h λa4 o h=>⟨_,B,_,lL o (aa.bq _),cG h [(0,1),(0,2)] (λh=>a h) M λa2 h=>⟨tv,Z h λa5 l h=>⟨(aW l).1,(aW l).2,(m.toNat*9),rfl,Z h λa6 p h=>⟨m.toNat,0,_,rfl,(fw p (aa.bq _)),rfl,((e.set m.toNat a2).map aa.ak),(fV (aa.fb zA)),oj h▸rY⟩⟩⟩⟩⟩
def ql:(n:Nat)->oe n/\rP n
 |0=>⟨no,no⟩
 |n+1=>have⟨a,b⟩:=ql n;⟨Iq b,Ir a⟩
def Is(n:Nat):oe n:=(ql n).1
def Rr(f:aa)(a:amw)(e:aa):amy (aa):=(rK e).b λd=>(ck (([a]:amx amw).length+d.length) 16).b λk=>(rM 1000000 bM bM a e d ([a]++d) f).b λi=>(rO 1000000 bM bM a e d i f).b λj=>some j
def W9{b d e r}(h:Rr b d e=some r):Ad 556 [aa.X b,.an d,aa.X e] (aa.X r):=en Tryz.func556 rfl<|ip 0 1 2<|dO ⟨E 0 3<|qc 3 1<|E 4 1<|qt 5 1<|E 6 1 [],[],3⟩<|S h Dj λf h=>tV<|D 3<|.inl<|Z h λi a h=>⟨gF a (by simp),.inl<|D 4<|cG h [(1,3),(1,4)] (λh=>y8 _ h) M λj h=>cG h [(1,3),(1,4)] (λh=>Is _ h) M λk h=>O⟩
end Go.Ab

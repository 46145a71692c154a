/- What the functions compute. -/
import Derived.Test.YtoknehglgeiopaaGreatDoorV1
set_option linter.all false
set_option maxRecDepth 100000
set_option maxHeartbeats 20000000
set_option synthInstance.maxHeartbeats 400000
set_option synthInstance.maxSize 2000
open Go Go.RowKit Go.Proofs Go.Proofs.Tryz
namespace Go.Ab
def ahS a:=CA (Mj (IntKind.u64.wrap (gL a))) λd=>ajk a 0 (gL a) d
def F13{a r}(h:ahS a=K r):Jh 305 [.ms (0,0) 1 (zf a)] [Ww 0 a] (.bZ []) [Ww 0 r]:=en f305<|S h Sy λ_ h=>cG h o1 F14 M λ_ h=>kv
def nG d:=(al7 d).b λa=>(ahS a).b λe=>EG (zf e=zf a) (zf (e.take (zf a))=zf a) (e.take (zf a))
def rI{a r}(h:nG a=K r):kj 182 [J8 306] (R9 [bS a]) (.ms Rr 1 (zf r)) ([]++[EE 1 0 r]):=eN f182<|R h λa b h=>(bE [(0,0)] 1 (F32 b) Q) B Q Q ⟨Q,tv⟩ tv<|cG h RV F13 M λ_ h=>kS h λb h=>kS h λc h=>oj h▸⟨SG,_,_,(cc (rn 2 2 Q Q b Q)<|cc (ft [(2,.ms Oq 1 (zf a))] mC)<|cc (gv (1,2) (1,0) Q)<|dr _ _ _ _),(uj ⟨.bD<|eI G.str _ _,tv⟩),od c⟩
def nH a:=Y (decide ((gL a)<2)) ((aU ((((a.take ((a.map G.str).length)).map G.str).length)=(a.map G.str).length)).b λb2=>some ((a.take ((a.map G.str).length)),([]:U Z))) ((aV (λd=>(Y (decide (d<(gL a))) ((aU (0<=d/\d<(gL a))).b λb3=>(aA a d).b λz=>(aU (0<=(w6 (d-1))/\(w6 (d-1))<(gL a))).b λb4=>(aA a (w6 (d-1))).b λt=>Y (bg z t) ((aU (0<=d/\d<=(((a.map G.str).length:Nat):Int)/\(((a.map G.str).length:Nat):Int)<=(((a.map G.str).length:Nat):Int))).b λa0=>(aV (λ(i,e,k)=>(Y (decide (e<((((((a.map G.str).length:Nat):Int).toNat-d.toNat):Nat):Int))) (((aU (0<=e/\e<((((((a.map G.str).length:Nat):Int).toNat-d.toNat):Nat):Int))).b λa1=>(aA k (((d.toNat+e.toNat):Nat):Int)).b λu=>(aU (0<=(w6 (e-1))/\(w6 (e-1))<((((((a.map G.str).length:Nat):Int).toNat-d.toNat):Nat):Int))).b λa2=>(aA k (((d.toNat+(w6 (e-1)).toNat):Nat):Int)).b λv=>Y (!bg u v) ((aU (0<=e/\e<((((((a.map G.str).length:Nat):Int).toNat-d.toNat):Nat):Int))).b λa3=>(aA k (((d.toNat+e.toNat):Nat):Int)).b λw=>(aU (0<=i/\i<(gL a))).b λa4=>(aA k i).b λa5=>il ((w6 (i+1)),(k.set i.toNat w))) (il (i,k))).j λ(o,p)=>il (o,(w6 (e+1)),p)) (ir (.inl (i,k))))) 1000000 (d,1,a)).j λ(f,l)=>(aU (0<=f/\f<=(((a.map G.str).length:Nat):Int)/\(((a.map G.str).length:Nat):Int)<=(((a.map G.str).length:Nat):Int))).b λa6=>(aU ((l.map G.str).length=(a.map G.str).length)).b λa7=>(let m:U Z:=(l.take f.toNat++List.replicate ((((a.map G.str).length:Nat):Int).toNat-f.toNat) bk++l.drop (f.toNat+((((a.map G.str).length:Nat):Int).toNat-f.toNat)));(aU (0<=(0:Int)/\0<=f/\f<=(((a.map G.str).length:Nat):Int))).b λa8=>((aU ((m.map G.str).length=(a.map G.str).length)).b λa9=>(aU ((((m.take (f.toNat-0)).map G.str).length)=(f.toNat-0))).b λb0=>some ((m.take (f.toNat-0)),([]:U Z))).b λx=>ir (.inr x))) (il (w6 (d+1)))) (ir (.inl ())))) 1000000 1).j λ_=>(aU ((((a.take ((a.map G.str).length)).map G.str).length)=(a.map G.str).length)).b λb1=>some ((a.take ((a.map G.str).length)),([]:U Z)))
def rJ{f r}(h:nH f=K r):Jh 184 [.ms (0,0) 1 (zf f)] [Ww 0 f] (.ms Rr 1 (zf r.1)) ([Ww 0 r.2]++[EE 1 0 r.1]):=eN f184<|bj h (λh=>kS h λb0 h=>match h with|rfl=>⟨.inr Q,_,_,(cc (rn 2 1 Q Q Q Q)<|cc (ft [(2,.ms S1 1 (zf f))] mC)<|cc (gv (1,1) (1,0) Q)<|dr _ _ _ _),(uj ⟨.bD<|eI G.str _ _,tv⟩),od b0⟩) λh=>lp h [0] (zi 3) [] W [0] W [] W I I qA (λa9 b h=>bu h λh=>.inl<|dO ⟨E 0 10 [],[],1⟩<|kS h λv h=>⟨v.1,v.2,(b.toNat*1),Q,R h λc5 b1 h=>⟨b.toNat,0,_,Q,(gl b1 Q),kS h λw h=>⟨w.1,w.2,((Vo b).toNat * 1),Q,R h λb5 x h=>⟨(Vo b).toNat,0,_,Q,(gl x Q),bu h λh=>kS h λi h=>⟨i.1,i.2.1,i.2.2,b.toNat,Q,((Qv (zf f)).toNat-b.toNat),Q,lp h [0,4] (λs=>[(3,H s.1),(5,H s.2.1)]) [] (λs=>[Ww 0 s.2.2]) [0] (λs=>[(3,H s.1)]) [] (λs=>[Ww 0 s.2]) I I qA (λ_⟨l,d,a8⟩h=>bu h λh=>jn h [0,4,5] (λs=>[(3,H s.1)]) [] (λs=>[Ww 0 s.2]) I (λh _=>.inl<|dO ⟨E 0 10 [],[],1⟩<|kS h λm h=>⟨m.1,m.2,((b.toNat+d.toNat)*1),Q,R h λb6 z h=>⟨(b.toNat+d.toNat),0,_,Q,(gl z Q),kS h λo h=>⟨o.1,o.2,((b.toNat+(Vo d).toNat) * 1),Q,R h λb7 a0 h=>⟨(b.toNat+(Vo d).toNat),0,_,Q,(gl a0 Q),bu h λh=>kS h λp h=>⟨p.1,p.2,((b.toNat+d.toNat)*1),Q,R h λb2 a1 h=>⟨(b.toNat+d.toNat),0,_,Q,(gl a1 Q),kS h λt h=>⟨t.1,t.2,(l.toNat*1),Q,R h λb8 a2 h=>⟨l.toNat,0,_,Q,(gl a2 Q),Q,(FP (a8.set l.toNat b2)),(gI zA),jA h⟩⟩⟩⟩⟩⟩⟩⟩) λ⟨b3,b4⟩h=>jA h) λ⟨a,u⟩h=>kS h λj h=>⟨j.1,j.2.1,j.2.2,a.toNat,Q,((Qv (zf f)).toNat-a.toNat),Q,(R h λb9 a3 h=>let c4:U Z:=(u.take a.toNat++Em (Qv (zf f)).toNat a.toNat bk++u.drop (a.toNat+((Qv (zf f)).toNat-a.toNat)));⟨aY a3,_,.inr Q,_,(F7 zA),R h λc0 k h=>⟨(aY k).1,(aY k).2.1,(aY k).2.2,0,Q,(a.toNat-0),Q,R h λc3 a7 h=>⟨_,oi h,λe=>have h:=a7.trans (lO e a9);R h λc1 a4 h=>R h λc2 a5 h=>match h with|rfl=>⟨.inr Q,_,_,(cc (ur 2 1 Q Q (aY a4) Q) (cc (ft [(2,.ms S1 1 (a.toNat-0))] mC) (cc (gv (1,1) (1,0) Q) (dr _ _ _ _)))),(uj ⟨.bD (eI G.str _ _),tv⟩),od (aY a5)⟩⟩⟩⟩)⟩⟩⟩⟩⟩⟩) λ_ h=>kS h λa6 h=>match h with|rfl=>⟨.inr Q,_,_,(cc (rn 2 1 Q Q Q Q)<|cc (ft [(2,.ms S1 1 (zf f))] mC)<|cc (gv (1,1) (1,0) Q)<|dr _ _ _ _),(uj ⟨.bD<|eI G.str _ _,tv⟩),od a6⟩
def Gm(a:U Z):=some a
def Ml{a r}(h:Gm a=K r):kj 183 [bS a] [] (fN 306 [DX 0]) ([]++[Nw 0 [bS r]]):=eN f183<|F 0<|oj h▸⟨.inr Q,_,_,(dr _ _ _ _),dk,.refl _⟩
def Bn a:=(Gm a).bind λd=>(nG d).b λe=>fv (nH e) λf=>vO (gL f.1) (gL a)
def Gn{e r}(h:Bn e=K r):Ad 267 [bS e] (.bool r):=en f267<|R h λ_ a h=>(bE [] 0 (Ml a) Q) B Q Q tv tv<|R h λ_ a h=>(bE H6 1 (rI a) Q) B Q Q ⟨Q,tv⟩ tv<|R h λ_ a h=>(bE RV 2 (rJ a) Q) B Q Q tv dk<|sT O
def WU(a:V):=(amS a.ae).b λj=>(Bn j).b λk=>J7 (!k) (E7 (Bn a.key)) λf=>DJ f ((alS a.aX).b λd=>E7 (Bn d))
def ab0{a r}(h:WU a=K r):Ad 273 [V.X a] (.bool r):=en f273<|F 0<|S h F37 λ_ h=>S h Gn λ_ h=>jz h 5 [1] 13 I (λh=>bJ h λh=>S h Gn λ_ h=>zB) λ_ h=>jb h 6 [] (zb 20) H6 W I (λh=>bJ h λh=>S h F34 λ_ h=>S h Gn λ_ h=>zB) λ_ h=>O
def ahQ a:=E7 (WU a)
def zEq{a r}(h:ahQ a=K r):HD 256 [V.X a,l4] [wm 273] (.bool r):=en f256<|F 1<|S h ab0 λ_ h=>O
def ahT d:=Lr (λ(a:Nat)(e:V)=>λ_=>(ahQ e).b λf=>F6 f a) d
def wkA{f r}(h:ahT f=K r):l3 358 [pZ f,CI] [wm 273] r:=en f358<|sT<|je h ND (λa _=>[QF 256,Kl a]) [] (λ_ _=>R9 [wm 273]) [] W [] (λ_=>R9 [wm 273]) aa I qA GD (λa _ _ _ b c _ h=>.inl ⟨λ_=>.inl<|nV b<|cG h o1 zEq M λ_ h=>ER,M4⟩) Zo λ_ h=>O
def ahN a:=Ux (ahT a)
def wE8{a r}(h:ahN a=K r):HD 255 [pZ a,CI] [wm 273] (.bool r):=en f255<|cG h o1 wkA M λ_ h=>O
def ah2 a:=E7 (ahN a)
def wE7{a r}(h:ah2 a=K r):Ad 150 [pZ a,wm 273] (.bool r):=en f150<|F 0<|cG h H6 wE8 M λ_ h=>O
def Sz(a:az):=some a.name
def WV{a r}(h:Sz a=K r):CB 269 [az.X a] r:=en f269<|F 0 O
def xg f:=KR (λ(k:Nat)(d:az)=>λa=>YS a.length (n9 d.name) 16 a [d.name]) f []
def ah1{e r}(h:xg e=K r):Zl 268 [oP e,wm 269] r:=en f268<|sT<|.inr<|gc 5 1 0 Q Q Q<|li h [8,9] (λa b=>[dF 269,Rq 0 b,Ht 10 a]) [] (λ_ a=>Vt 0 a) [] (λa=>[Rq 0 a]) [] (λa=>Vt 0 a) aa I qA (sq 8 Q) (λ_ _ a _ b c _ h=>.inl ⟨λ_=>.inl<|nV b<|F 1<|cU (WV (Q:Sz a=some _)) B<|Uk,M4⟩) DN λ_ h=>O
def xh f:=KR (λ(k:Nat)(d:V)=>λa=>YS a.length (n9 d.name) 16 a [d.name]) f []
def anD{e r}(h:xh e=K r):Zl 270 [pZ e,wm 114] r:=en f270<|sT<|.inr<|gc 5 1 0 Q Q Q<|li h [8,9] (λa b=>[dF 114,Rq 0 b,Ht 10 a]) [] (λ_ a=>Vt 0 a) [] (λa=>[Rq 0 a]) [] (λa=>Vt 0 a) aa I qA (sq 8 Q) (λ_ _ a _ b c _ h=>.inl ⟨λ_=>.inl<|nV b<|F 1<|cU (Wz (Q:Sm a=some _)) B<|Uk,M4⟩) DN λ_ h=>O
def WW(a:aG):=some a.name
def ab1{a r}(h:WW a=K r):CB 272 [aG.X a] r:=en f272<|F 0 O
def amP f:=KR (λ(k:Nat)(d:aG)=>λa=>YS a.length (n9 d.name) 16 a [d.name]) f []
def wE6{e r}(h:amP e=K r):Zl 271 [ui e,wm 272] r:=en f271<|sT<|.inr<|gc 5 1 0 Q Q Q<|li h [8,9] (λa b=>[dF 272,Rq 0 b,Ht 10 a]) [] (λ_ a=>Vt 0 a) [] (λa=>[Rq 0 a]) [] (λa=>Vt 0 a) aa I qA (sq 8 Q) (λ_ _ a _ b c _ h=>.inl ⟨λ_=>.inl<|nV b<|F 1<|cU (ab1 (Q:WW a=some _)) B<|Uk,M4⟩) DN λ_ h=>O
def SE a:=(xg a.aT).b λl=>(Bn l).b λm=>fE m (CA (xh a.an) λo=>Bn o) λj=>fE j ((Md a).b λd=>CA (amP d) λe=>Bn e) λk=>cN k (jg (ah2 a.an))
def ab2{a r}(h:SE a=K r):Ad 153 [aj.X a] (.bool r):=en f153<|F 0<|S h ah1 λ_ h=>S h Gn λ_ h=>jz h 5 [1] 12 I (λh=>bI h λh=>S h anD λ_ h=>S h Gn λ_ h=>zB) λ_ h=>jz h 5 [1] 18 I (λh=>bI h λh=>S h Sv λ_ h=>S h wE6 λ_ h=>S h Gn λ_ h=>zB) λ_ h=>bn h λh=>S h wE7 λ_ h=>O
def SF:=some (jr (jr (jr (jr (jr (jr (jr (jr (jr (jr ([]:U (Z×Int)) Ii 1) Gf 2) jT 4) wu 4) Ig 4) uC 4) wv 5) Bd 5) Bg 5) Bf 6)
def WX{r}(h:SF=K r):kj 458 [] [] (.map Rr) ([]++[(Rr,.map (r.map (mE (G.int .i64))))]):=eN f458<|F 0 ⟨_,Ap (G.int .i64) ([]:U (Z×Int)) _ 1,_,Ap (G.int .i64) _ _ 2,_,Ap (G.int .i64) _ _ 4,_,Ap (G.int .i64) _ _ 4,_,Ap (G.int .i64) _ _ 4,_,Ap (G.int .i64) _ _ 4,_,Ap (G.int .i64) _ _ 5,_,Ap (G.int .i64) _ _ 5,_,Ap (G.int .i64) _ _ 5,_,Ap (G.int .i64) _ _ 6,oj h▸⟨.inr Q,_,_,(dr _ _ _ _),dk,.refl _⟩⟩
def amA a b:=cN (gn a !=gn b) (CZ (λ_=>yZ 0 (gn a) (jv ())) () true)
def wE2{a b r}(h:amA a b=K r):Ad 484 [lh a,lh b,wm 459] (.bool r):=en f484<|sT<|sT<|bn h λh=>sT<|lp h [1,15,16,17] (λ_=>[(2,wm 459)]) [] W [] W [] W I I qA (λ_ _ h=>C6) λ_ h=>O
def Ms a b:=cN (gL a !=gL b) (CZ (λ_=>yZ 0 (gL a) (jv ())) () true)
def amq{a b r}(h:Ms a b=K r):Ad 412 [bS a,bS b] (.bool r):=en f412<|sT<|sT<|bn h λh=>sT<|lq h [0,1,12,13] W [] W I qA (λ_ _ h=>C6) λ_ h=>O
def WY(a:J)(d:J):=D7 (a.ah==d.ah) a.name d.name λm=>n8 m (a.n==d.n) λo=>D7 o a.s d.s λp=>J7 p (jg (Ms a.ay d.ay)) λe=>J7 e (jg (Ms a.binds d.binds)) λf=>D5 f (amA a.au d.au)
def ab3{a b r}(h:WY a b=K r):Ad 459 [J.X a,J.X b] (.bool r):=en f459<|ic 0 1<|jz h 6 [2,3] 16 I E1 λ_ h=>jz h 6 [2,3] 23 I E1 λ_ h=>jz h 6 [2,3] 30 I E1 λ_ h=>jz h 6 [2,3] 37 I N4 λ_ h=>jz h 6 [2,3] 44 I N4 λ_ h=>jb h 6 [] (zb 51) [S1,Rr] W I (λh=>bJ h λh=>S h wE2 λ_ h=>zB) λ_ h=>O
def WZ(a:J):=(Hv (a.ah==0) (a.ah==0) (a.ah==2) λv=>RB v (il (0,0,a.name,0,a.s)) (a.ah==1) (il (0,0,a.name,a.n,bk)) (a.ah==3) (il (0,0,bk,a.n,a.s)) (VB (a.ah==15) (a.ah==4) (VB (a.ah==5) (a.ah==8) (VB (a.ah==6) (a.ah==9) (Hv (a.ah==7) (a.ah==7) (a.ah==10) λd=>VB d (a.ah==13) (cN (a.ah==11) (l7 (a.ah==12) (il (3,3,a.name,a.n,a.s)) (a.ah==14) (D3 (bg a.name Ge) (1,1,bk,a.n,a.s) (SF.b λk=>cN ((cv k a.name).getD 0==0) (il (2,2,bk,a.n,a.s)))) none))))))).j λ(m,o,p,t,u)=>n8 (mK (gn a.au) m) (CP (gn a.au) o) λe=>J7 e (jg (WY (J.mk 0 p t u a.ay a.binds [] 0 0) eK)) λf=>DJ f (Nv a.ah 2 true (AW (a.n==0) true (a.n==1)))
def ab4{a r}(h:WZ a=K r):Ad 421 [J.X a] (.bool r):=en f421<|⟨0,Q,F 1<|dO ⟨E 0 10 [],[],2⟩<|sT<|sT<|jn h [1,3] (λa=>[(4,H a.1),(5,H a.2.1)]) [] (λb=>[RE 1 (J.mk 0 b.2.2.1 b.2.2.2.1 b.2.2.2.2 a.ay a.binds [] 0 0)]) I (λh _=>.inl<|jn h [1,3,4,5,20] (zb 21) [] W I UR λ_ h=>ba h λh=>ba h λh=>ba h λh=>bn h λh=>bn h λh=>bn h λh=>bn h λh=>bn h λh=>bn h λh=>jn h [1,3,4,5,20] (zb 60) [] W I UR λ_ h=>bn h λh=>bn h λh=>bn h λh=>ba h λh=>bj h (λh=>ba h λh=>dO ⟨E 1 2<|qc 0 1<|qt 3 1<|E 4 1 [],[],2⟩<|R h λ_ a h=>(bE [] 2 (WX a) Q) B Q Q tv tv<|tV ⟨_,_,ZJ (G.int .i64) _ _ 0,λa=>.inl ⟨Q,zM (f:=(G.int .i64)) a Q⟩,C6⟩) no) λ⟨_,_,_,_,_⟩h=>sT<|jz h 6 [1,3] 106 I (λh=>bi h (λh=>⟨_,B,CR⟩) λh=>CR) λ_ h=>jb h 4 [1] (zb 111) RV W I (λh=>bi h (λh=>cY h ab3 (cn (.agg<|Wg<|fm B)<|DQ) λ_ h=>zB) λh=>CR) λ_ h=>jb h 14 [] (zb 126) H6 W I (λh=>bi h (λh=>am7) λh=>zB) λ_ h=>Ds⟩
def W4 a:=jg (Bm (Cv 2 a))
def ab5{a r}(h:W4 a=K r):ZB 460 a (.bool r):=en f460<|Eo
def W5(a:J):=(D3 (a.ah==3) (a.ah==3) (CL (a.ah==8) (a.ah==8) (a.ah==11))).j λe=>Y e (jg (W4 a.name)) (VB (a.ah==4) (a.ah==5) (Hv (a.ah==6) (a.ah==6) (a.ah==7) λd=>VB d (a.ah==10) (cN (a.ah==13) (some true))))
def ab6{a r}(h:W5 a=K r):Ad 422 [J.X a] (.bool r):=en f422<|F 0<|.inl<|jn h [1,4] (zb 5) [] W I (λh _=>EW) λ_ h=>bj h (λh=>S h ab5 λ_ h=>O) λh=>bn h λh=>bn h λh=>jn h [1,4] (zb 27) [] W I UR λ_ h=>bn h λh=>bn h λh=>bn h λh=>O
def W6(a:Z)(b:Int):=some (Lib.indexByte a.data.toList b.toNat.toUInt8)
def ab7{d e r}(h:W6 d e=K r):H3 513 [.str d,.int .u8 e] r:=match h with|rfl=>aeg (by decide+kernel) (λa b=>Lib.indexByte a.data.toList b.toNat.toUInt8) aao d e
def W7 a b:=(W6 a b).bind λd=>some d
def ab8{a b r}(h:W7 a b=K r):H3 508 [.str a,.int .u8 b] r:=en f508<|S h ab7 λ_ h=>O
def W8 e a:=n8 (CP 0 a) (vO a 128) λd=>Y d (jg (W7 e (IntKind.u8.wrap a))) none
def ab9{a b r}(h:W8 a b=K r):H3 500 [.str a,.int .i32 b] r:=en f500<|.inl<|jz h 3 CF 166 I E1 λ_ h=>bj h (λh=>S h ab8 λ_ h=>O) no
def aca a:=some (yS a 8)
def acb{a r}(h:aca a=K r):Ad 501 [H a] (.bool r):=en f501<|O
def W9 d e:=VB (bg e bk) ((e.size:Int)==1) ((cN (Cc d.size 8) Cl).j λ_=>CZ (λa=>HM (a<d.size) ((W8 e (Qv (Utf8.decode d a).1)).b λf=>cN (mz f) (il (a+(Utf8.decode d a).2))) ()) 0 (-1))
def acd{b d r}(h:W9 b d=K r):H3 482 [.str b,.str d] r:=en f482<|bn h λh=>bn h λh=>cU (acb Q) B<|jn h CF W [] W I (λh _=>C6) λ_ h=>F 0<|lp h [1,45] W [] (λa=>[(Rr,.sG b a)]) [] W H6 W I I qA (λ_ _ h=>⟨λa=>have h:=ald a h;.inl ⟨λ_=>.inl<|S h ab9 λ_ h=>C6,nofun⟩,λa=>have h:=agF a h;.inl ⟨nofun,λ_=>jA h⟩⟩) λ_ h=>O
def Xa a d:=Ux (W9 a d)
def ace{a b r}(h:Xa a b=K r):Ad 455 [.str a,.str b] (.bool r):=en f455<|S h acd λ_ h=>O
def Xb(a:Z):T Int:=none
def acf{a r}(h:Xb a=K r):ZB 483 a (.int .u64 r):=en f483<|.inl ⟨nofun,λ_=>(no h)⟩
def Xc f:=(aV (λa=>(Y (decide ((a.size:Int)>0)) ((jp a 0).b λi=>Y (decide ((i.toNat:Int)<128)) ((aU (0<=(1:Int)/\1<=(a.size:Int)/\(a.size:Int)<=(a.size:Int))).b λk=>(Y (decide (((a.extract (1:Int).toNat (a.size:Int).toNat).size:Int)>8)) ((Xb (a.extract (1:Int).toNat (a.size:Int).toNat)).b λd=>some ((IntKind.u64.wrap ((BitVec.ofInt IntKind.u64.bits d &&& BitVec.ofInt IntKind.u64.bits 9259542123273814144).toNat:Int))==0)) (some false)).bind (λe=>(cN e (il ())).j λ_=>il (a.extract (1:Int).toNat (a.size:Int).toNat))) none) (ir (.inl ())))) 1000000 f).j λ_=>some true
def acg{d r}(h:Xc d=K r):ZB 456 d (.bool r):=en f456<|lp h [] (λa=>[yp 0 a]) [] W [] W [] W I I qA (λ_ _ h=>bu h λh=>.inl<|R h λ_ a h=>⟨_,(iS a).1,(iS a).2,bj h (λh=>kS h λa h=>.inl ⟨a.1,a.2.1,a.2.2,jz h 5 [0] 24 I (λh=>bJ h λh=>S h acf λ_ h=>zB) λ_ h=>jn h [0] W [] W I (λh _=>C6) λ_ h=>jo h Q tv mC⟩) no⟩) λ_ h=>O
def Xd(a:Z):T Int:=(Xa a (v8 34 10)).b λe=>fE e (E7 (Xc a)) λd=>VB d (Cc a.size 64) (some 0)
def ach{a r}(h:Xd a=K r):H3 416 (nW a) r:=en f416<|S h ace λ_ h=>jz h 4 [0] 9 I (λh=>bI h λh=>S h acg λ_ h=>zB) λ_ h=>bn h λh=>bn h λh=>O
def Xe(a:Z):T (Z×Int):=(Xd a).b λd=>cN (VX d) (aiC (Ih.size+a.size) ((Ih++a).size+Ih.size) (Ih++a++Ih,0))
def aci{d r}(h:Xe d=K r):ZB 423 d (.bZ [.str r.1,H r.2]):=en f423<|S h ach λ_ h=>bn h λh=>Ew
def SI:Nat->J->T Int
 |0,_=>none
 |n+1,a=>(WZ a).b λk=>CK (!k) (W5 a) λl=>cN (!l) (J7 (a.ah==0) (AW (VY a.n) true (yS a.n 1099511627776)) λi=>cN i (Y (a.ah==1) (fv (Xe a.s) λd=>d.2) (H5 (λ(m:Nat)(e:J)=>λ_=>(SI n e).b λf=>cN (VX f) Cl) 0 a.au 0)))
def Xf:∀(n:Nat){d r},SI n d=K r->H3 370 [J.X d] r
 |0,_,_,h=>no h
 |n+1,d,_,h=>en f370<|F 0<|.inl<|S h ab4 λm h=>bn h λh=>S h ab6 λo h=>bn h λh=>jz h 9 [1] 29 I (λh=>bJ h λh=>bj h (λh=>zB) λh=>oj h▸⟨Q,dk,jU⟩) λl h=>bn h λh=>bj h (λh=>S h aci λi h=>O) λh=>sT<|Bi h 43 [41,42] W H6 W I qA (sq 41 Q) (λ_ f j _ b a e h=>.inl ⟨λ_=>.inl<|sT ⟨_,oA b<|gy _,F 0<|S h (λh=>Xf _ h) λk h=>bn h λh=>jA h⟩,λc=>eA a c⟩) (λ_=>.inl ⟨λc=>eC c,λ_=>⟨Q,tv,jU⟩⟩) λ_ h=>O
def SJ(a:J):=Vq (a.ah==11) a.ah 12 λe=>Vq e a.ah 13 λf=>be f 0 (cN (a.ah==8) (D7 (a.ah==14) a.name Ge λi=>be i 3 (Y (a.ah==14) (SF.b λd=>some ((cv d a.name).getD 0)) (some 8))))
def Xg{b r}(h:SJ b=K r):H3 424 [J.X b] r:=en f424<|F 0<|.inl<|jz h 4 [1] 11 I E1 λ_ h=>jz h 4 [1] 16 I E1 λ_ h=>bw h λh=>bn h λh=>jz h 4 [1] 29 I E1 λ_ h=>bw h λh=>bv h λh=>dO ⟨E 1 2<|qc 0 1<|qt 3 1<|E 4 1 [],[],1⟩<|R h λ_ a h=>(bE [] 1 (WX a) Q) B Q Q tv tv<|tV ⟨_,_,ZJ (G.int .i64) _ _ 0,λa=>.inl ⟨Q,zM (f:=(G.int .i64)) a Q⟩,O⟩
def Xh a f:=(SJ a).b λd=>CC (a.ah==8) (a.ah==14) (bg a.name Ge) λe=>be e d (Nv a.ah 14 0 (AW (d==4) 5 (nJ d f)))
def acj{a b r}(h:Xh a b=K r):H3 425 [J.X a,H b] r:=en f425<|F 0<|S h Xg λ_ h=>.inl<|jz h 9 [1,2,5] 21 I (λh=>bI h λh=>bj h (λh=>oj h▸⟨Q,dk,In⟩) λh=>zB) λ_ h=>bw h λh=>bw h λh=>wE
def Mt:Nat->J->Int->T Int
 |0,_,_=>none
 |n+1,a,t=>(SJ a).b λu=>iM (u<t) (fv (Mt n a 0) λv=>nJ 1 v) (mY (λ(p:Nat)(w:J)=>λm=>(Xh a (p:Int)).b λo=>(Mt n w o).b λf=>n8 (a.ah !=14) (a.ah !=8) λi=>Hv i (T3 f) f λd=>il (if m<d then d else m)) a.au 0 λe=>D7 (a.ah==14) a.name Ge λk=>Hv k (T3 e) e λl=>some l)
def SK:∀(n:Nat){a b r},Mt n a b=K r->H3 371 [J.X a,H b] r
 |0,_,_,_,h=>no h
 |n+1,a,b,_,h=>en f371<|F 0<|S h Xg λv h=>bj h (λh=>S h (λh=>SK _ h) λw h=>O) λh=>sT<|Bi h 19 [2,17,18] (zi 5) [] W I qA (sq 17 Q) (λ_ u x f e d o h=>.inl ⟨λ_=>.inl<|sT ⟨_,oA e<|gy _,F 1<|dO ⟨E 0 3<|qc 3 1<|qt 4 1<|E 5 1 [],[],2⟩<|S h acj λp h=>tV<|S h (λh=>SK _ h) λt h=>jb h 4 [2,5,8,17,18,19] (zb 36) RV W I (λh=>bI h λh=>zB) λi h=>jn h [2,5,17,18,19] (zi 8) [] W I (λh _=>ba h λh=>jA h) λj h=>jA h⟩,λc=>eA d c⟩) (λf=>.inl ⟨λc=>eC c,λ_=>⟨Q,dk,In⟩⟩) λm h=>jb h 4 [5] (zb 50) H6 W I (λh=>bI h λh=>zB) λk h=>jn h [] (zi 5) [] W I (λh _=>ba h λh=>jA h) λl h=>O
def Bo(a:J):T Int:=(SI 1000000 a).b λd=>CK (VX d) (Mt 1000000 a 0) λe=>cN (mK e 40) (some 0)
def Gp{a r}(h:Bo a=K r):H3 282 [J.X a] r:=en f282<|F 0<|S h (λh=>Xf _ h) λ_ h=>bn h λh=>S h (λh=>SK _ h) λ_ h=>bn h λh=>O
def Xi(a:V):=n8 (mK (gL a.key) 1) (CP (gL a.key) 3) λd=>DJ d (fv (Bo a.aH) λf=>f==0)
def ack{a r}(h:Xi a=K r):Ad 281 [V.X a] (.bool r):=en f281<|F 0<|sT<|jz h 5 [1] 12 I Zr λ_ h=>jb h 5 [] (zb 18) H6 W I (λh=>bJ h λh=>S h Gp λ_ h=>zB) λ_ h=>O
def am1 a:=E7 (Xi a)
def wE1{a r}(h:am1 a=K r):HD 256 [V.X a,l4] [wm 281] (.bool r):=en f256<|F 1<|S h ack λ_ h=>O
def alX d:=Lr (λ(a:Nat)(e:V)=>λ_=>(am1 e).b λf=>F6 f a) d
def upZ{f r}(h:alX f=K r):l3 358 [pZ f,CI] [wm 281] r:=en f358<|sT<|je h ND (λa _=>[QF 256,Kl a]) [] (λ_ _=>R9 [wm 281]) [] W [] (λ_=>R9 [wm 281]) aa I qA GD (λa _ _ _ b c _ h=>.inl ⟨λ_=>.inl<|nV b<|cG h o1 wE1 M λ_ h=>ER,M4⟩) Zo λ_ h=>O
def al6 a:=Ux (alX a)
def uLQ{a r}(h:al6 a=K r):HD 255 [pZ a,CI] [wm 281] (.bool r):=en f255<|cG h o1 upZ M λ_ h=>O
def akk a:=E7 (al6 a)
def tiB{a r}(h:akk a=K r):Ad 150 [pZ a,wm 281] (.bool r):=en f150<|F 0<|cG h H6 uLQ M λ_ h=>O
def Xj(a:az):=some (yS (N7 a.bQ) 0)
def acl{a r}(h:Xj a=K r):Ad 279 [az.X a] (.bool r):=en f279<|F 0<|sT O
def ajo(a:az):=some (!yS (N7 a.bQ) 0)
def tLQ{a r}(h:ajo a=K r):HD 360 [az.X a,l4] [wm 279] (.bool r):=en f360<|F 1<|cU (acl (Q:Xj a=some _)) B O
def aja d:=Lr (λ(a:Nat)(e:az)=>λ_=>(ajo e).b λf=>F6 f a) d
def t94{f r}(h:aja f=K r):l3 374 [oP f,J8 360] [wm 279] r:=en f374<|sT<|je h ND (λa _=>[QF 360,Kl a]) [] (λ_ _=>R9 [wm 279]) [] W [] (λ_=>R9 [wm 279]) aa I qA GD (λa _ _ _ b c _ h=>.inl ⟨λ_=>.inl<|nV b<|cG h o1 tLQ M λ_ h=>ER,M4⟩) Zo λ_ h=>O
def ajT a:=Ux (aja a)
def axh{a r}(h:ajT a=K r):HD 359 [oP a,J8 360] [wm 279] (.bool r):=en f359<|cG h o1 t94 M λ_ h=>O
def aj5 a:=E7 (ajT a)
def axg{a r}(h:aj5 a=K r):Ad 257 [oP a,wm 279] (.bool r):=en f257<|F 0<|cG h H6 axh M λ_ h=>O
mutual
def SM:Nat->am->T At
 |0,_=>none
 |n+1,a=>CC (a.ah==6) (a.ah==5) (VX a.n) λf=>(L4 a).b λo=>n8 o (!f) λi=>DJ i (E7 (ahd n a.au))
def Xk:Nat->am->T At
 |0,_=>none
 |n+1,a=>E7 (SM n a)
def ahd:Nat->(U am)->T At
 |0,_=>none
 |n+1,a=>Ux (agu n a)
def agu:Nat->(U am)->T Int
 |0,_=>none
 |n+1,a=>Lr (λ(l:Nat)(m:am)=>λ_=>(Xk n m).b λp=>F6 p l) a
end
def MD n:=∀{a r},SM n a=some r->Ac 368 [am.X a] [] [] (.bool r) []
def SN n:=∀{a r},Xk n a=some r->Ac 419 [am.X a] [] [] (.bool r) []
def xi n:=∀{a r},ahd n a=some r->Ac 418 [Ie a,fN 419 []] [] [] (.bool r) []
def xj n:=∀{a r},agu n a=some r->Ac 457 [Ie a,fN 419 []] [] [] (H r) []
def acm{n:Nat}(a:xi n):MD (n+1):=λ{i _}h=>
 en f368<|⟨0,Q,jb h 9 [1] (zb 16) [] W I (λh=>bi h (λh=>oj h▸qB) λh=>bj h (λh=>oj h▸qB) λh=>oj h▸qB) λd h=>S h Su λj h=>jb h 3 [1] (zb 22) [] W I (λh=>bi h (λh=>oj h▸qB) λh=>oj h▸qB) λe h=>jb h 5 [] (zb 28) H6 W I (λh=>bi h (λh=>S h (λh=>a h) λb h=>oj h▸qB) λh=>oj h▸qB) λf h=>oj h▸rW⟩
def acn{n:Nat}(a:MD n):SN (n+1):=λ{b _}h=>
 en f419<|⟨0,Q,S h (λh=>a h) λd h=>oj h▸rW⟩
def axf{n:Nat}(a:xj n):xi (n+1):=λ{b _}h=>
 en f418<|S h (λh=>a h) λd h=>oj h▸rW
def axe{n:Nat}(a:SN n):xj (n+1):=λ{j _}h=>
 en f457<|⟨_,B,je h ND (λf _=>[dF 419,Kl f]) [] (λ_ _=>[]) [] W [] W aa I qA (.inl ⟨0,_,_,Q⟩) (λd f k _ e b i h=>.inl ⟨λ_=>.inl ⟨_,B,_,oA e (kh _),S h (λh=>a h) λl h=>bj h (λh=>lx h d λh=>oj h▸rW) λh=>jA h⟩,λc=>eA b c⟩) (λ_=>.inl ⟨λc=>eC c,λ_=>⟨Q,tv,tv⟩⟩) λ_ h=>oj h▸rW⟩
def akp:(n:Nat)->MD n/\SN n/\xi n/\xj n
 |0=>⟨no,no,no,no⟩
 |n+1=>have⟨d,e,a,b⟩:=akp n;⟨acm a,acn d,axf b,axe e⟩
def aco(n:Nat):MD n:=(akp n).1
def agI a b:=cN (Cp a !=Cp b) (CZ (λ_=>yZ 0 (Cp a) (jv ())) () true)
def axd{a b r}(h:agI a b=K r):Ad 420 [Ie a,Ie b,wm 369] (.bool r):=en f420<|sT<|sT<|bn h λh=>sT<|lp h [1,15,16,17] (λ_=>[(2,wm 369)]) [] W [] W [] W I I qA (λ_ _ h=>C6) λ_ h=>O
def SP(a:am)(d:am):=D7 (a.ah==d.ah) a.name d.name λj=>n8 j (a.n==d.n) λk=>J7 k (jg (Ms a.ay d.ay)) λl=>D5 l (agI a.au d.au)
def Xl{a b r}(h:SP a b=K r):Ad 369 [am.X a,am.X b] (.bool r):=en f369<|ic 0 1<|jz h 6 [2,3] 16 I E1 λ_ h=>jz h 6 [2,3] 23 I E1 λ_ h=>jz h 6 [2,3] 30 I N4 λ_ h=>jb h 6 [] (zb 37) [S1,Rr] W I (λh=>bJ h λh=>S h axd λ_ h=>zB) λ_ h=>O
def Xm(a:aG):=Y a.has (jg (SM 1000000 a.arg)) (jg (SP a.arg rB))
def acp{a r}(h:Xm a=K r):Ad 280 [aG.X a] (.bool r):=en f280<|F 0<|bj h (λh=>S h (λh=>aco _ h) λ_ h=>O) λh=>cY h Xl C1 λ_ h=>O
def I1 a:=E7 (Xm a)
def axc{a r}(h:I1 a=K r):HD 363 [aG.X a,l4] [wm 280] (.bool r):=en f363<|F 1<|S h acp λ_ h=>O
def anE d:=Lr (λ(a:Nat)(e:aG)=>λ_=>(I1 e).b λf=>F6 f a) d
def axb{f r}(h:anE f=K r):l3 413 [ui f,J8 363] [wm 280] r:=en f413<|sT<|je h ND (λa _=>[QF 363,Kl a]) [] (λ_ _=>R9 [wm 280]) [] W [] (λ_=>R9 [wm 280]) aa I qA GD (λa _ _ _ b c _ h=>.inl ⟨λ_=>.inl<|nV b<|cG h o1 axc M λ_ h=>ER,M4⟩) Zo λ_ h=>O
def amd a:=Ux (anE a)
def axa{a r}(h:amd a=K r):HD 362 [ui a,J8 363] [wm 280] (.bool r):=en f362<|cG h o1 axb M λ_ h=>O
def amc a:=E7 (amd a)
def awU{a r}(h:amc a=K r):Ad 260 [ui a,wm 280] (.bool r):=en f260<|F 0<|cG h H6 axa M λ_ h=>O
def SS d:=CZ (λa=>HM (a>0) (eE d a λe=>LQ d (P6 a) (λf=>KN e f) λi=>cN i (il (P6 a))) ()) (P6 (gL d)) true
def Xn{a r}(h:SS a=K r):Ad 278 [bS a] (.bool r):=en f278<|sT<|lp h [0] (zi 3) [] W [] W [] W I I qA (λ_ _ h=>bu h λh=>.inl<|dO ⟨E 0 9<|qt 9 1 [],[],0⟩<|nM h λ_ h=>nM h λ_ h=>S h Sg λ_ h=>C6) λ_ h=>O
def ST a:=(xg a.aT).b λo=>(SS o).b λp=>J7 p (CA (xh a.an) λt=>SS t) λl=>J7 l (jg (aj5 a.aT)) λm=>J7 m (CA (Md a) λi=>amc i) λd=>D5 d (akk a.an)
def acq{a r}(h:ST a=K r):Ad 154 [aj.X a] (.bool r):=en f154<|F 0<|S h ah1 λ_ h=>S h Xn λ_ h=>jz h 5 [1] 12 I (λh=>bJ h λh=>S h anD λ_ h=>S h Xn λ_ h=>zB) λ_ h=>jz h 4 [1] 17 I (λh=>bJ h λh=>S h axg λ_ h=>zB) λ_ h=>jz h 4 [1] 22 I (λh=>bJ h λh=>S h Sv λ_ h=>S h awU λ_ h=>zB) λ_ h=>jb h 4 [] (zb 27) H6 W I (λh=>bJ h λh=>S h tiB λ_ h=>zB) λ_ h=>O
def rK b d:=H5 (λ(e:Nat)(a:af)=>λ_=>Cw a.name d (a,true)) 0 b (af.mk bk rB,false)
def xk{f i r}(h:rK f i=K r):Ad 285 [mL f,wm 275,.str i] (.bZ [af.X r.1,.bool r.2]):=en f285<|F 0<|sT<|je h [2,6,11,12] (λa _=>[dF 275,Ht 13 a]) [] (λ_ _=>[]) [6] W [] W aa I qA (sq 11 Q) (λa _ b _ c d _ h=>.inl ⟨λ_=>.inl<|nV c<|F 1<|cU (WQ (Q:Sx b=some _)) B<|ER,λa=>eA d a⟩) DN λ_ h=>F 1 O
def xl(a:Z)(d:V):=fv (rK d.ae a) λe=>e.2
def amb{a b r}(h:xl a b=K r):HD 284 [.str a,l4] (V.C b) (.bool r):=en f284<|S h xk λ_ h=>F 1 O
def als d a:=E7 (xl d a)
def awT{b a r}(h:als b a=K r):l8 372 [.str b,l4] [v9 [Y5 284],DH 1 a] (.bool r):=en f372<|cG h [(0,1)] amb M λ_ h=>O
def alh e a:=Lr (λ(d:Nat)(f:Z)=>λ_=>(als f a).b λi=>F6 i d) e
def aw9{i a r}(h:alh i a=K r):Cf 158 [bS i,J8 372] [v9 [Y5 284],DH 1 a] r:=en f158<|sT<|je h ND (λa _=>[QF 372,Kl a]) [] (λ_ _=>R9 [Y5 284]) [] W [] (λ_=>R9 [Y5 284]) aa I qA GD (λa _ _ _ b c _ h=>.inl ⟨λ_=>.inl<|nV b<|cG h o2 awT M λ_ h=>ER,M4⟩) Ep λ_ h=>O
def alI d a:=Ux (alh d a)
def aw8{b a r}(h:alI b a=K r):l8 65 [bS b,J8 372] [v9 [Y5 284],DH 1 a] (.bool r):=en f65<|cG h o2 aw9 M λ_ h=>O
def ajV d a:=E7 (alI d a)
def aw7{b a r}(h:ajV b a=K r):Ac 286 [bS b,fN 284 [pT 0 0]] [cd 0 0 (V.C a)] [] (.bool r) []:=en f286<|F 1<|cG h [(1,1),(0,0)] aw8 M λ_ h=>O
def ajB(d:aD)(f:aj)(a:V):=(wX f d.ai).b λi=>D5 i.2 (xl d.ar a)
def aw6{b d a r}(h:ajB b d a=K r):l8 288 [aD.X b,l4,Rv] [v9 (aj.C d),tu 1 [fN 284 [VO]],DH 2 a] (.bool r):=en f288<|F 3<|S h Bl λ_ h=>F 4<|jb h 5 [] (zb 20) [T7,Rk] (λ_=>[tu 1 [fN 284 [VO]]]) I (λh=>bJ h λh=>cG h [(0,2)] amb M λ_ h=>zB) λ_ h=>O
def aj0 e d a:=E7 (ajB e d a)
def X22{d b a r}(h:aj0 d b a=K r):l8 373 [aD.X d,l4] [v9 [fN 288 [Rv,VO]],VV 1 b,tu 2 [fN 284 [iL 3]],DH 3 a] (.bool r):=en f373<|F 4<|cG h [(0,1),(0,2),(0,3)] aw6 M λ_ h=>O
def ahz f d a:=Lr (λ(e:Nat)(i:aD)=>λ_=>(aj0 i d a).b λk=>F6 k e) f
def T48{j b a r}(h:ahz j b a=K r):Cf 388 [lG j,J8 373] [v9 [fN 288 [Rv,VO]],VV 1 b,tu 2 [fN 284 [iL 3]],DH 3 a] r:=en f388<|sT<|je h ND (λa _=>[QF 373,Kl a]) [] (λ_ _=>[v9 [fN 288 [Rv,VO]],tu 2 [fN 284 [iL 3]]]) [] W [] (λ_=>[v9 [fN 288 [Rv,VO]],tu 2 [fN 284 [iL 3]]]) aa I qA GD (λa _ _ _ b c _ h=>.inl ⟨λ_=>.inl<|nV b<|cG h o4 X22 M λ_ h=>ER,M4⟩) (λ_=>.inl ⟨Vu,λ_=>⟨Q,uk,tv⟩⟩) λ_ h=>O
def ahu e d a:=Ux (ahz e d a)
def T24{d b a r}(h:ahu d b a=K r):l8 308 [lG d,J8 373] [v9 [fN 288 [Rv,VO]],VV 1 b,tu 2 [fN 284 [iL 3]],DH 3 a] (.bool r):=en f308<|cG h o4 T48 M λ_ h=>O
def ahq e d a:=E7 (ahu e d a)
def F99{d b a r}(h:ahq d b a=K r):l8 287 [lG d,fN 288 [l4,Rv]] [v9 (aj.C b),tu 1 [fN 284 [VO]],DH 2 a] (.bool r):=en f287<|F 3<|cG h [Rk,(0,0),(0,1),(0,2)] T24 M λ_ h=>O
def ahh a e:=(ajV a.key a).b λf=>D5 f (ahq a.aX e a)
def F87{a b r}(h:ahh a b=K r):HD 283 [V.X a,l4] (aj.C b) (.bool r):=en f283<|ic 1 2<|cH h RV aw7 M Q B Q ⟨Q,tv⟩ tv λ_ h=>jb h 5 [] (zb 15) [Oq,S1] W I (λh=>bJ h λh=>cH h [(0,0),Oq,S1] F99 M Q B Q ⟨Q,Q,Q,tv⟩ tv λ_ h=>zB) λ_ h=>O
def ahJ d a:=E7 (ahh d a)
def F79{b a r}(h:ahJ b a=K r):l8 256 [V.X b,l4] [v9 [Y5 283],VV 1 a] (.bool r):=en f256<|F 2<|cG h [(0,1)] F87 M λ_ h=>O
def ahE e a:=Lr (λ(d:Nat)(f:V)=>λ_=>(ahJ f a).b λi=>F6 i d) e
def F74{i a r}(h:ahE i a=K r):Cf 358 [pZ i,CI] [v9 [Y5 283],VV 1 a] r:=en f358<|sT<|je h ND (λa _=>[QF 256,Kl a]) [] (λ_ _=>R9 [Y5 283]) [] W [] (λ_=>R9 [Y5 283]) aa I qA GD (λa _ _ _ b c _ h=>.inl ⟨λ_=>.inl<|nV b<|cG h o2 F79 M λ_ h=>ER,M4⟩) Ep λ_ h=>O
def ago d a:=Ux (ahE d a)
def F68{b a r}(h:ago b a=K r):l8 255 [pZ b,CI] [v9 [Y5 283],VV 1 a] (.bool r):=en f255<|cG h o2 F74 M λ_ h=>O
def ag0 d a:=E7 (ago d a)
def F55{b a r}(h:ag0 b a=K r):HD 150 [pZ b,J8 283] (aj.C a) (.bool r):=en f150<|F 1<|cG h [S1,(0,0)] F68 M λ_ h=>O
def SU a:=jg (ag0 a.an a)
def acr{a r}(h:SU a=K r):Ad 155 [aj.X a] (.bool r):=en f155<|F 0<|cH h H6 F55 M Q B Q ⟨Q,tv⟩ tv λ_ h=>O
def SV a:=(iM (a.ah<=2) (jg (L2 a)) cI).bind λd=>some d
def Xo{a r}(h:SV a=K r):Ad 377 [am.X a] (.bool r):=en f377<|F 0<|jb h 3 [] (zb 9) H6 W I (λh=>bJ h λh=>S h St λ_ h=>zB) λ_ h=>O
def Xp(a:aG):=DJ a.has (E7 (SV a.arg))
def acs{a r}(h:Xp a=K r):Ad 378 [aG.X a] (.bool r):=en f378<|F 0<|jb h 5 [] (zb 10) H6 W I (λh=>bJ h λh=>S h Xo λ_ h=>zB) λ_ h=>O
def anJ d:=Lr (λ(a:Nat)(e:aG)=>λ_=>(Xp e).b λf=>F6 f a) d
def F54{f r}(h:anJ f=K r):H3 413 [ui f,wm 378] r:=en f413<|sT<|je h ND (λa _=>[dF 378,Kl a]) [] (λ_ _=>[]) [] W [] W aa I qA GD (λa _ _ _ b c _ h=>.inl ⟨λ_=>.inl<|nV b<|S h acs λ_ h=>ER,M4⟩) Dx λ_ h=>O
def alj a:=Ux (anJ a)
def t22{a r}(h:alj a=K r):Ad 362 [ui a,wm 378] (.bool r):=en f362<|S h F54 λ_ h=>O
def alG(a:az)(b:am):=DW a.name b.name
def t18{a b r}(h:alG a b=K r):HD 375 [az.X a,l4] (am.C b) (.bool r):=en f375<|F 1 O
def akf e a:=Lr (λ(d:Nat)(f:az)=>λ_=>(alG f a).b λi=>F6 i d) e
def stF{i a r}(h:akf i a=K r):l3 374 [oP i,J8 375] (am.C a) r:=en f374<|sT<|je h ND (λa _=>[QF 375,Kl a]) [] (λ_ _=>[]) [] W [] W aa I qA GD (λa _ _ _ b c _ h=>.inl ⟨λ_=>.inl<|nV b<|cG h o1 t18 M λ_ h=>ER,M4⟩) Zo λ_ h=>O
def SW d a:=(akf d a).b λe=>fE (a.ah !=3) (E7 (L2 a)) λk=>l5 k (VY e) λl=>Y l (jg (SV a)) (eE d e λi=>E7 (alj i.bQ))
def Xq{a b r}(h:SW a b=K r):Ad 291 [oP a,am.X b] (.bool r):=en f291<|F 0<|cH h H6 stF M Q B Q ⟨Q,tv⟩ tv λ_ h=>jz h 4 [0,3,5] 16 I (λh=>bI h λh=>S h St λ_ h=>zB) λ_ h=>jz h 3 [0,3,5] 20 I E1 λ_ h=>bj h (λh=>S h Xo λ_ h=>O) λh=>nM h λ_ h=>S h t22 λ_ h=>O
def ak8(a:af)(d:aj):=jg (SW d.aT a.bH)
def axn{a b r}(h:ak8 a b=K r):HD 290 [af.X a,l4] (aj.C b) (.bool r):=en f290<|F 1<|S h Xq λ_ h=>O
def ajO d a:=E7 (ak8 d a)
def axm{b a r}(h:ajO b a=K r):l8 366 [af.X b,l4] [v9 [Y5 290],VV 1 a] (.bool r):=en f366<|F 2<|cG h [(0,1)] axn M λ_ h=>O
def aiw e a:=Lr (λ(d:Nat)(f:af)=>λ_=>(ajO f a).b λi=>F6 i d) e
def axk{i a r}(h:aiw i a=K r):Cf 163 [mL i,J8 366] [v9 [Y5 290],VV 1 a] r:=en f163<|sT<|je h ND (λa _=>[QF 366,Kl a]) [] (λ_ _=>R9 [Y5 290]) [] W [] (λ_=>R9 [Y5 290]) aa I qA GD (λa _ _ _ b c _ h=>.inl ⟨λ_=>.inl<|nV b<|cG h o2 axm M λ_ h=>ER,M4⟩) Ep λ_ h=>O
def aiv d a:=Ux (aiw d a)
def axj{b a r}(h:aiv b a=K r):l8 365 [mL b,J8 366] [v9 [Y5 290],VV 1 a] (.bool r):=en f365<|cG h o2 axk M λ_ h=>O
def aid d a:=E7 (aiv d a)
def axi{b a r}(h:aid b a=K r):Ac 265 [mL b,fN 290 [pT 0 0]] [cd 0 0 (aj.C a)] [] (.bool r) []:=en f265<|F 1<|cG h [(1,1),(0,0)] axj M λ_ h=>O
def ahe(a:V)(d:aj):=jg (aid a.ae d)
def aal{a b r}(h:ahe a b=K r):HD 289 [V.X a,l4] (aj.C b) (.bool r):=en f289<|F 1<|cG h o1 axi M λ_ h=>O
def ahW d a:=E7 (ahe d a)
def aak{b a r}(h:ahW b a=K r):l8 256 [V.X b,l4] [v9 [Y5 289],VV 1 a] (.bool r):=en f256<|F 2<|cG h [(0,1)] aal M λ_ h=>O
def ahV e a:=Lr (λ(d:Nat)(f:V)=>λ_=>(ahW f a).b λi=>F6 i d) e
def aaj{i a r}(h:ahV i a=K r):Cf 358 [pZ i,CI] [v9 [Y5 289],VV 1 a] r:=en f358<|sT<|je h ND (λa _=>[QF 256,Kl a]) [] (λ_ _=>R9 [Y5 289]) [] W [] (λ_=>R9 [Y5 289]) aa I qA GD (λa _ _ _ b c _ h=>.inl ⟨λ_=>.inl<|nV b<|cG h o2 aak M λ_ h=>ER,M4⟩) Ep λ_ h=>O
def ahU d a:=Ux (ahV d a)
def aai{b a r}(h:ahU b a=K r):l8 255 [pZ b,CI] [v9 [Y5 289],VV 1 a] (.bool r):=en f255<|cG h o2 aaj M λ_ h=>O
def ahR d a:=E7 (ahU d a)
def aah{b a r}(h:ahR b a=K r):HD 150 [pZ b,J8 289] (aj.C a) (.bool r):=en f150<|F 1<|cG h [S1,(0,0)] aai M λ_ h=>O
def SY a:=jg (ahR a.an a)
def acu{a r}(h:SY a=K r):Ad 156 [aj.X a] (.bool r):=en f156<|F 0<|cH h H6 aah M Q B Q ⟨Q,tv⟩ tv λ_ h=>O
def Xr(a:V)(f:am):=cN (gL a.key !=1) (LQ a.key 0 (λi=>rK a.ae i) λd=>D5 d.2 (SP d.1.bH f))
def acv{a b r}(h:Xr a b=K r):Ad 294 [V.X a,am.X b] (.bool r):=en f294<|ic 0 1<|sT<|bn h λh=>dO ⟨E 0 6 ((10,.al (1,2))::(HN 6 1 7 3 ((11,.tp)::E 12 1 []))),Vs,3⟩<|nM h λ_ h=>S h xk λ_ h=>⟨tv,tV<|jb h 5 [] (zb 27) [Oq,S1,Rr] W I (λh=>bJ h λh=>S h Xl λ_ h=>zB) λ_ h=>O⟩
def ahG(a:aD)(d:V)(e:aj):=(rK d.ae a.ar).b λf=>CA (wX e a.ai) λi=>Xr i.1 f.1.bH
def aag{a b d r}(h:ahG a b d=K r):l8 293 [aD.X a,l4,Rv] [v9 (V.C b),VV 1 d] (.bool r):=en f293<|F 2<|S h xk λ_ h=>F 3<|S h Bl λ_ h=>F 4<|S h acv λ_ h=>O
def agY e a d:=E7 (ahG e a d)
def aae{d a b r}(h:agY d a b=K r):l8 373 [aD.X d,l4] [v9 [fN 293 [Rv,VO]],DH 1 a,VV 2 b] (.bool r):=en f373<|F 3<|cG h [(0,1),(0,2)] aag M λ_ h=>O
def agJ f a d:=Lr (λ(e:Nat)(i:aD)=>λ_=>(agY i a d).b λk=>F6 k e) f
def Val{j a b r}(h:agJ j a b=K r):Cf 388 [lG j,J8 373] [v9 [fN 293 [Rv,VO]],DH 1 a,VV 2 b] r:=en f388<|sT<|je h ND (λa _=>[QF 373,Kl a]) [] (λ_ _=>R9 [fN 293 [Rv,VO]]) [] W [] (λ_=>R9 [fN 293 [Rv,VO]]) aa I qA GD (λa _ _ _ b c _ h=>.inl ⟨λ_=>.inl<|nV b<|cG h o3 aae M λ_ h=>ER,M4⟩) NE λ_ h=>O
def anl e a d:=Ux (agJ e a d)
def U20{d a b r}(h:anl d a b=K r):l8 308 [lG d,J8 373] [v9 [fN 293 [Rv,VO]],DH 1 a,VV 2 b] (.bool r):=en f308<|cG h o3 Val M λ_ h=>O
def alM e a d:=E7 (anl e a d)
def TEx{d a b r}(h:alM d a b=K r):l8 287 [lG d,fN 293 [l4,Rv]] [v9 (V.C a),VV 1 b] (.bool r):=en f287<|F 2<|cG h [Oq,(0,0),(0,1)] U20 M λ_ h=>O
def alQ a d:=jg (alM a.aX a d)
def T86{a b r}(h:alQ a b=K r):Ac 292 [V.X a,pT 0 0] [cd 0 0 (aj.C b)] [] (.bool r) []:=en f292<|F 1<|cH h [(1,1),(0,0)] TEx M Q B Q ⟨Q,Q,tv⟩ tv λ_ h=>O
def alL d a:=E7 (alQ d a)
def T52{b a r}(h:alL b a=K r):l8 256 [V.X b,l4] [v9 [Y5 292],VV 1 a] (.bool r):=en f256<|F 2<|cG h [(0,1)] T86 M λ_ h=>O
def al5 e a:=Lr (λ(d:Nat)(f:V)=>λ_=>(alL f a).b λi=>F6 i d) e
def T51{i a r}(h:al5 i a=K r):Cf 358 [pZ i,CI] [v9 [Y5 292],VV 1 a] r:=en f358<|sT<|je h ND (λa _=>[QF 256,Kl a]) [] (λ_ _=>R9 [Y5 292]) [] W [] (λ_=>R9 [Y5 292]) aa I qA GD (λa _ _ _ b c _ h=>.inl ⟨λ_=>.inl<|nV b<|cG h o2 T52 M λ_ h=>ER,M4⟩) Ep λ_ h=>O
def akm d a:=Ux (al5 d a)
def T34{b a r}(h:akm b a=K r):l8 255 [pZ b,CI] [v9 [Y5 292],VV 1 a] (.bool r):=en f255<|cG h o2 T51 M λ_ h=>O
def akZ d a:=E7 (akm d a)
def T29{b a r}(h:akZ b a=K r):HD 150 [pZ b,J8 292] (aj.C a) (.bool r):=en f150<|F 1<|cG h [S1,(0,0)] T34 M λ_ h=>O
def SZ a:=jg (akZ a.an a)
def acw{a r}(h:SZ a=K r):Ad 157 [aj.X a] (.bool r):=en f157<|F 0<|cH h H6 T29 M Q B Q ⟨Q,tv⟩ tv λ_ h=>O
def Nr(a:aj):T Int:=fE (yS (Ce a.an) 8) (E7 (xe a.an)) λj=>CK j (Sw a) λl=>CK (!l) (SE a) λm=>CK (!m) (ST a) λd=>CK (!d) (SU a) λe=>CK (!e) (SY a) λf=>CK (!f) (SZ a) λi=>cN (!i) (some 0)
def acx{a r}(h:Nr a=K r):H3 64 [aj.X a] r:=en f64<|F 0<|.inl<|sT<|jz h 5 [1] 13 I (λh=>bI h λh=>S h awA λ_ h=>zB) λ_ h=>bn h λh=>S h abX λ_ h=>bn h λh=>S h ab2 λ_ h=>bn h λh=>S h acq λ_ h=>bn h λh=>S h acr λ_ h=>bn h λh=>S h acu λ_ h=>bn h λh=>S h acw λ_ h=>bn h λh=>O
def pz a b d e:=some (ak.mk 7 a b d e)
def rL{a b d e r}(h:pz a b d e=K r):HD 380 [l4,.str d,H e] [.eM,.str a,.str b,.bX,.bX,.bX] (ak.X r):=en f380<|F 1<|dO ⟨E 0 11<|qt 11 1 [],[],2⟩ O
def S2(a:ak):=DW a.name bk
def Xu{a r}(h:S2 a=K r):Ad 382 [ak.X a] (.bool r):=en f382<|F 0 O
def pA b:=Lr (λ(a:Nat)(d:ak)=>λ_=>F6 (bg d.name bk) a) b
def akS{f r}(h:pA f=K r):H3 427 [.sl 5 .no (DI f),wm 382] r:=en f427<|sT<|je h ND (λa _=>[dF 382,Kl a]) [] (λ_ _=>[]) [] W [] W aa I qA GD (λa _ b _ c d _ h=>.inl ⟨λ_=>.inl<|nV c<|cU (Xu (Q:S2 b=some _)) B<|ER,λa=>eA d a⟩) Dx λ_ h=>O
def mq a:=(pA a).bind λo=>Y (o==(-1)) ((aU ((((a.take ((a.map ak.aq).length)).map ak.aq).length)=(a.map ak.aq).length)).b λa3=>some ((a.take ((a.map ak.aq).length)),([]:U ak))) ((aV (λ(e,f,i)=>(Y (decide (f<((a.map ak.aq).length:Int))) (((aU (0<=f/\f<((a.map ak.aq).length:Int))).b λu=>(aA i f).b λl=>Y (!(bg l.name bk)) ((aU (0<=e/\e<((a.map ak.aq).length:Int))).b λv=>(aA i e).b λw=>il ((w6 (e+1)),(i.set e.toNat l))) (il (e,i))).j λ(p,t)=>il (p,(w6 (f+1)),t)) (ir (.inl (e,i))))) 1000000 (o,(w6 (o+1)),a)).j λ(d,m)=>(aU (0<=d/\d<=(((a.map ak.aq).length:Nat):Int)/\(((a.map ak.aq).length:Nat):Int)<=(((a.map ak.aq).length:Nat):Int))).b λx=>(aU ((m.map ak.aq).length=(a.map ak.aq).length)).b λz=>(let k:U ak:=(m.take d.toNat++List.replicate ((((a.map ak.aq).length:Nat):Int).toNat-d.toNat) (ak.mk 0 bk bk bk 0)++m.drop (d.toNat+((((a.map ak.aq).length:Nat):Int).toNat-d.toNat)));(aU (0<=(0:Int)/\0<=d/\d<=(((a.map ak.aq).length:Nat):Int))).b λa0=>(aU ((k.map ak.aq).length=(a.map ak.aq).length)).b λa1=>(aU ((((k.take (d.toNat-0)).map ak.aq).length)=(d.toNat-0))).b λa2=>some ((k.take (d.toNat-0)),([]:U ak))))
def xm{e r}(h:mq e=K r):Jh 381 [.ms (0,0) 5 (D0 e),wm 382] [gJ 0 0 5 e ak.aq] (.ms Rr 5 (D0 r.1)) ([gJ 0 0 5 r.2 ak.aq]++[gJ 1 0 5 r.1 ak.aq]):=eN f381<|R h λa8 w h=>cR (akS w) (vc (vm Q Q<|vl B)<|vc (vp zA) dN.nil) lg<|bj h (λh=>kS h λx h=>match h with|rfl=>⟨.inr Q,_,_,(cc (rn 4 1 Q Q Q Q)<|cc (ft [(4,.ms S1 5 (D0 e))] mC)<|cc (gv (1,1) (1,0) Q)<|dr _ _ _ _),(uj ⟨.bD<|eI ak.aq _ _,tv⟩),od x⟩) λh=>lp h [0] (λs=>[dF 382,UW 5 s.1,UW 6 s.2.1]) [] (λs=>[gJ 0 0 5 s.2.2 ak.aq]) [0] (λs=>[(5,H s.1)]) [] (λs=>[gJ 0 0 5 s.2 ak.aq]) I I qA (λ_⟨k,u,z⟩h=>bu h λh=>jn h [0,6] (λs=>Wv (dF 382) 5 s.1) [] (λs=>[gJ 0 0 5 s.2 ak.aq]) I (λh _=>.inl<|kS h λf h=>⟨f.1,f.2,(u.toNat*5),Q,R h λj l h=>⟨u.toNat,0,_,Q,(gl l Q),F 1<|cU (Xu (Q:S2 j=some _)) B<|bu h λh=>kS h λi h=>⟨i.1,i.2,(k.toNat*5),Q,R h λa2 m h=>⟨k.toNat,0,_,Q,(gl m Q),Q,(DI (z.set k.toNat j)),(gI zA),jA h⟩⟩⟩⟩) λ⟨a0,a1⟩h=>jA h) λ⟨a,v⟩h=>kS h λb h=>⟨b.1,b.2.1,b.2.2,a.toNat,Q,((Qv (D0 e)).toNat-a.toNat),Q,(R h λa3 o h=>let a7:U ak:=(v.take a.toNat++Em (Qv (D0 e)).toNat a.toNat (ak.mk 0 bk bk bk 0)++v.drop (a.toNat+((Qv (D0 e)).toNat-a.toNat)));⟨aY o,_,.inl Q,_,(F7 zA),R h λa4 d h=>⟨(aY d).1,(aY d).2.1,(aY d).2.2,0,Q,(a.toNat-0),Q,R h λa5 p h=>R h λa6 t h=>match h with|rfl=>⟨.inr Q,_,_,(cc (ur 4 1 Q Q (aY p) Q) (cc (ft [(4,.ms S1 5 (a.toNat-0))] mC) (cc (gv (1,1) (1,0) Q) (dr _ _ _ _)))),(uj ⟨.bD (eI ak.aq _ _),tv⟩),od (aY t)⟩⟩⟩)⟩
def nI:T (U ak):=(pA []).b λa=>be (a == -1) [] none
def akB{r}(h:nI=K r):Ad 381 [.sl 5 .no (DI []),wm 382] (.sl 5 .no (DI r)):=en f381<|by unfold nI at h;exact cY h akS (fm B) λ_ h=>bj h (λh=>Ds) λh=>(no h)
def rM(a:Z)(d:Z)(e:J)(i:Int):=(Y (e.ah==11) (some (i==1)) (some false)).bind (λa6=>Y a6 ((pz a d e.name e.pos).b λa5=>(ck (([]:U ak).length+([a5]:U ak).length) 64).b λb3=>(mq [a5]).b λa8=>some a8.1) ((Y (e.ah==13) (some (decide (i>0))) (some false)).bind (λa7=>Y a7 ((aA e.binds (w6 (i-1))).b λw=>(aA e.au i).b λx=>(pz a d w x.dG).b λl=>(ck (([]:U ak).length+([l]:U ak).length) 64).b λa9=>(mq [l]).b λz=>some z.1) (Y (e.ah==10) ((bo (λ(k:Nat)(m:Z)=>λs=>(match s with|.inl _=>(Y (i==0) (some true) (some (decide ((k:Int)<(w6 (i-1)))))).bind (λt=>Y t ((aA e.au (w6 ((k:Int)+1))).b λa0=>(pz a d m a0.dG).b λo=>(ck (([]:U ak).length+([o]:U ak).length) 64).b λb0=>il (.inr [o])) (il (.inl ())))|.inr f=>(Y (i==0) (some true) (some (decide ((k:Int)<(w6 (i-1)))))).bind (λu=>Y u ((aA e.au (w6 ((k:Int)+1))).b λa1=>(pz a d m a1.dG).b λp=>(aU (0<(f.map ak.aq).length)).b λb1=>(ck (f.length+([p]:U ak).length) 64).b λb2=>il (.inr (f++[p]))) (il (.inr f))):T ((Unit⊕(U ak))⊕((Unit⊕(U ak))⊕(U ak))))) (λs=>(match s with|.inl _=>.inl ()|.inr f=>.inr f:Unit⊕(U ak))) 0 e.ay (.inl ())).j λs=>match s with|.inl _=>(nI).b λa2=>some a2|.inr v=>(mq v).b λa3=>some a3.1) ((nI).b λa4=>some a4)))))
def T21{a b f t r}(h:rM a b f t=K r):HD 296 [l4,J.X f,H t] [.eM,.str a,.str b,.bX,.bX,.bX] (.sl 5 .no (DI r)):=eN f296<|F 1<|.inl<|jb h 3 [0,2,4] (λs=>[(7,.sl 5 .fu (DI [])),(17,.bool s)]) [] W I E1 λc8 h=>bj h (λh=>cG h o1 rL M λd0 h=>.inl<|R h λd1 a8 h=>⟨iI a8 (by simp),.inr ⟨Q,F 2<|R h λd2 a9 h=>(bE Vs 3 (xm a9) Q) B Q Q tv dk<|oj h▸⟨SG,_,_,(cc (EY 6 Q Q Q)<|dr _ _ _ _),dk,.refl _⟩⟩⟩) λh=>jz h 3 [0,2,4,7] 34 I E1 λc9 h=>bj h (λh=>dO ⟨E 0 14<|qc 14 1<|E 15 1<|qt 16 2 [],[],2⟩<|nM h λb2 h=>R h λb3 w h=>sT ⟨_,km w<|gy _,cG h o1 rL M λb4 h=>tV<|R h λb5 x h=>⟨iI x (by simp),.inr ⟨Q,F 2<|R h λb6 z h=>(bE Vs 3 (xm z) Q) B Q Q tv dk<|oj h▸⟨SG,_,_,(cc (EY 6 Q Q Q)<|dr _ _ _ _),dk,.refl _⟩⟩⟩⟩) λh=>bj h (λh=>sT<|R h λc7 a7 h=>.inr<|A2 eS (λk(s:Unit⊕(U ak))=>match s with|.inl _=>[(0,l4),UW 2 t,Y6 4 1,(7,.sl 5 .fu (DI [])),(57,bS f.ay),UW 58 (HE f.ay),Ht 59 k]|.inr d=>[(0,l4),UW 2 t,Y6 4 1,(7,.ms Oq 5 (D0 d)),(57,bS f.ay),UW 58 (HE f.ay),Ht 59 k]) (λk(s:Unit⊕(U ak))=>match s with|.inl _=>[RE 1 f,v9 [.eM,.str a,.str b,.bX,.bX,.bX]]|.inr d=>[gJ 1 2 5 d ak.aq,RE 1 f,v9 [.eM,.str a,.str b,.bX,.bX,.bX]]) (λ(s:Unit⊕(U ak))=>match s with|.inl _=>[(7,.sl 5 .fu (DI []))]|.inr l=>[(7,.ms Oq 5 (D0 l))]) (λ(s:Unit⊕(U ak))=>match s with|.inl _=>R9 [.eM,.str a,.str b,.bX,.bX,.bX]|.inr l=>[gJ 1 2 5 l ak.aq,v9 [.eM,.str a,.str b,.bX,.bX,.bX]]) (u:=λi s=>match s with|.inl _=>inferInstance|.inr _=>inferInstance) (uA:=λs=>match s with|.inl _=>inferInstance|.inr _=>inferInstance) a7 ⟨Q,kF,(Se ⟨nf,wy⟩)⟩ (sq 57 Q) (λk b7 s y p o j h=>match s,h with|.inl _,h=>.inl ⟨λ_=>.inl ⟨_,B,_,nv p,jb h 5 [0,2,4,7,8,9,57,58,59] (zb 71) [] W I (λh=>bi h (λh=>CR) λh=>CR) λb0 h=>bj h (λh=>R h λb8 a0 h=>⟨_,B,_,km a0 (gy _),cG h o1 rL M λb9 h=>.inl (R h λc0 a1 h=>⟨iI a1 (by simp),.inr ⟨Q,2,Q,_,oi h,Hc ⟨Q,yI,(O6 ⟨wi j,tv⟩)⟩⟩⟩)⟩) λh=>⟨_,oi h,Hc ⟨Q,kF,(Se ⟨nf,(O7 ⟨wi j,tv⟩)⟩)⟩⟩⟩,λc=>eA o c⟩|.inr d,h=>.inl ⟨λ_=>.inl ⟨_,B,_,nv p,jb h 5 [0,2,4,7,8,9,57,58,59] (zb 71) [] W I (λh=>bi h (λh=>CR) λh=>CR) λb1 h=>bj h (λh=>R h λc1 a2 h=>⟨_,B,_,km a2 (gy _),cG h o1 rL M λm h=>.inl (R h λc2 a3 h=>R h λc3 a4 h=>⟨Q,(Jq (aY a3)),iI a4 (by simp),3,Q,(D0 d+D0 ([m]:U ak)),Q,_,oi h,⟨_,_,cc (ft [(0,l4),UW 2 t,Y6 4 1,(7,.ms Rk 5 (D0 d+D0 ([m]:U ak))),(57,bS f.ay),UW 58 (HE f.ay),UW 59 (PY (k:Int))] Av) (cc (ll [oD 1 3 5 (DI d++DI ([m]:U ak)),gJ 1 2 5 ([]:U ak) ak.aq,RE 1 f,v9 [.eM,.str a,.str b,.bX,.bX,.bX]] Q) (gv (1,3) (1,2) Q)),Q,⟨.bD (ys:=(DI (d++[m]))) (ap B B),kF⟩,(Se ⟨od (by simp),(O7 ⟨wi j,tv⟩)⟩)⟩⟩)⟩) λh=>⟨_,oi h,Hc ⟨Q,yI,(O6 ⟨wi j,tv⟩)⟩⟩⟩,λc=>eA o c⟩) (λs=>match s with|.inl _=>.inl ⟨λc=>eC c,λ_=>⟨Q,dk,⟨nf,tv⟩⟩⟩|.inr d=>.inl ⟨λc=>eC c,λ_=>⟨Q,kF,mC⟩⟩) (λv e=>have h:=jL e h;match v,h with|.inl _,h=>R h λc4 a5 h=>cU (akB a5) (fm B) (oj h▸⟨SG,_,_,(dr _ _ _ _),dk,.refl _⟩)|.inr l,h=>R h λc5 a6 h=>(bE Vs 3 (xm a6) Q) B Q Q tv dk (oj h▸⟨SG,_,_,(cc (EY 6 Q Q Q) (dr _ _ _ _)),dk,.refl _⟩))) λh=>cY h akB (fm B) λc6 h=>oj h▸⟨SG,_,_,(dr _ _ _ _),dk,.refl _⟩
def S3(b:U ak)(a:ak):=cN (bg a.name bk) (some (a::b))
def acy{a b r}(h:S3 a b=K r):Ad 297 [.mR (a.map ak.V),ak.X b] (.mR (r.map ak.V)):=eN f297<|F 0<|bn h λh=>F 1<|oj h▸⟨SG,_,_,(cc (Qr 4 Q Q)<|dr _ _ _ _),tV<|.AE zA Q⟩
def rO a d k l m:=(rM a d k l).b λo=>KR (λ(t:Nat)(p:ak)=>λf=>EJ (S3 f p)) o m
def T16{a b f i j r}(h:rO a b f i j=K r):HD 162 [l4,J.X f,H i,.mR (j.map ak.V)] [.eM,.str a,.str b,.bX,.bX,.bX] (.mR (r.map ak.V)):=en f162<|F 1<|cG h o1 T21 M λ_ h=>sT<|Bi h 16 [14,15] (λa=>[(3,.mR (a.map ak.V))]) RV W I qA (sq 14 Q) (λ_ _ _ _ a b _ h=>.inl ⟨λ_=>.inl<|nV a<|F 1<|S h acy λ_ h=>jA h,ZC⟩) Ex λ_ h=>O
def S4 a b:=some (py a b)
def acz{a b r}(h:S4 a b=K r):Ad 160 [.mR (a.map ak.V),.str b] (.bZ [ak.X r.1,.bool r.2]):=match h with|rfl=>avw a b
def Nz(k:J):=mY (λ(i:Nat)(p:J)=>λd=>l6 (d.length+([(i:Int)]:U Int).length) 8 (d++[(i:Int)])) k.au [] λa=>n8 (k.ah==10) (decide (ZR a>0)) λe=>sP e (gP (1<=ZR a) (ck ((a.drop (1:Int).toNat).length+([0]:U Int).length) 8) λo=>il (a.drop (1:Int).toNat++[0])) a λf=>some f
def acA{d r}(h:Nz d=K r):Ad 161 [J.X d] (pY r):=en f161<|F 0<|sT<|.inr<|gc 3 1 1 Q Q Q<|zI h 8 [1,7] (λa=>[(3,U1 1 1 a)]) [] (λa=>[U2 1 1 a]) I qA (so (1,0) 6 Q Q) (λ_ _ _ _ _ a _ h=>.inl ⟨λ_=>.inl<|Uk,λb=>eA a b⟩) (λ_=>.inl ⟨Vu,λ_=>⟨Q,kF,wy⟩⟩) λ_ h=>jb h 4 [3] (zb 23) H6 W I Zr λ_ h=>jn h [] (λa=>[(3,pY a)]) RV W I (λh _=>bu h λh=>kS h λa h=>.inr ⟨Q,(by decide),a,F 2<|Uk⟩) λ_ h=>O
def mr:Nat->J->(U ak)->(U Z)->Z->Z->T (U Z)
 |0,_,_,_,_,_=>none
 |n+1,e,m,f,a,d=>sP (e.ah==3) ((S4 m e.name).b λa0=>n8 (!a0.2) (!bg e.name bk) λx=>J7 x (E7 (lj f e.name)) λz=>dz z (DZ (f.length+(n9 e.name).length) (f++[e.name])) f) f λw=>(Nz e).b λp=>KR (λ(a1:Nat)(i:Int)=>λk=>eE e.au i λt=>(rO a d e i m).b λu=>EJ (mr n t u k a d)) p w
def aj8:∀(n:Nat){k l d a b r},mr n k l d a b=K r->Ac 159 [J.X k,.mR (l.map ak.V),pT 0 3,pT 0 0,pT 0 1] [cd 0 0 [fN 159 [pT 0 3,pT 0 0,pT 0 1]],cd 0 1 [pT 0 2],cd 0 2 [.eM,.str a,.str b,.bX,.bX,.bX]] [cd 0 3 [cE 0 4 d],cL 0 4 d] (.bZ []) [cd 0 3 [cE 0 4 r],cL 0 4 r]
 |0,_,_,_,_,_,_,h=>no h
 |n+1,k,l,d,a,b,_,h=>en f159<|F 5<|jn h [1,3,4,5] W [] (λs=>[cd 0 0 [fN 159 [pT 0 3,pT 0 0,pT 0 1]],cd 0 3 [cE 0 4 s],cL 0 4 s]) I (λh _=>bu h λh=>S h acz λa3 h=>F 6<|jb h 4 [1,2,3,4,5] (zb 27) [(1,6)] (λ_=>[cd 0 0 [fN 159 [pT 0 3,pT 0 0,pT 0 1]]]) I (λh=>bI h λh=>zB) λa1 h=>jb h 6 [1,2,3,4,5] (zb 34) [] (λ_=>[cd 0 0 [fN 159 [pT 0 3,pT 0 0,pT 0 1]]]) I (λh=>bJ h λh=>cY h lS (cn (ls B) B) λt h=>zB) λa2 h=>bu h λh=>.inl<|aR h λh=>jA h) λa0 h=>S h acA λu h=>sT<|je h [1,3,4,5,41,42] (λe _=>[(43,H (e:Int))]) [] (λ_ s=>[cd 0 0 [fN 159 [pT 0 3,pT 0 0,pT 0 1]],cd 0 3 [cE 0 4 s],cL 0 4 s]) [] W [(1,5)] (λs=>[cd 0 0 [fN 159 [pT 0 3,pT 0 0,pT 0 1]],cd 0 3 [cE 0 4 s],cL 0 4 s]) aa I qA (sq 41 Q) (λ_ e v m i f o h=>.inl ⟨λ_=>.inl<|nV i<|dO ⟨E 0 10<|qc 10 1<|qt 11 1 [],[],6⟩<|R h λw j h=>sT ⟨_,km j<|gy _,cG h [(0,2)] T16 M λx h=>tV<|cG h [(0,0),(0,1),(0,2),(0,3),(0,4)] (λh=>aj8 _ h) M λz h=>jA h⟩,λc=>eA f c⟩) (λm=>.inl ⟨λc=>eC c,λ_=>⟨Q,ku,tv⟩⟩) λp h=>oj h▸rN ku zS
def m7 a:=jg (mr 1000000 a [] [] cp cp)
def uI{b r}(h:m7 b=K r):Zl 66 [J.X b] r:=en f66<|iZ 0 1 2 ⟨3,Q,F 4<|R h λ_ a h=>(RN (1,1) 0 1 5 Q Q Q Q<|(iR [T7,Rk,Oq,S1,Vl] (aj8 _ a) Q) (cV<|cn .mR B) Q ⟨Q,Q,Q,tv⟩ kF<|Ds)⟩
def ais a e d:=(aU (0<=e/\e<=d/\d<=(Au a)/\(Au a)<=(Au a))).b λl=>cN (e==d) ((aU (0<=(0:Int)/\0<=e/\e<=(((a.map V.aq).length:Nat):Int))).b λm=>(aU (0<=d/\d<=(((a.map V.aq).length:Nat):Int)/\(((a.map V.aq).length:Nat):Int)<=(((a.map V.aq).length:Nat):Int))).b λo=>(aU (0<(a.map V.aq).length)).b λp=>(aU ((e.toNat-0)+((((a.map V.aq).length:Nat):Int).toNat-d.toNat)<=(a.map V.aq).length)).b λt=>(let i:U V:=(a.take (e.toNat-0)++(a.drop d.toNat).take ((((a.map V.aq).length:Nat):Int).toNat-d.toNat)++a.drop ((e.toNat-0)+((((a.map V.aq).length:Nat):Int).toNat-d.toNat)));(aU (0<=((((e.toNat-0)+((((a.map V.aq).length:Nat):Int).toNat-d.toNat)):Nat):Int)/\((((e.toNat-0)+((((a.map V.aq).length:Nat):Int).toNat-d.toNat)):Nat):Int)<=(Au a)/\(Au a)<=(((a.map V.aq).length:Nat):Int))).b λu=>(aU ((i.map V.aq).length=(a.map V.aq).length)).b λv=>(let f:U V:=(i.take (((((e.toNat-0)+((((a.map V.aq).length:Nat):Int).toNat-d.toNat)):Nat):Int).toNat)++List.replicate ((Au a).toNat-((((e.toNat-0)+((((a.map V.aq).length:Nat):Int).toNat-d.toNat)):Nat):Int).toNat) (QN eK)++i.drop (((((e.toNat-0)+((((a.map V.aq).length:Nat):Int).toNat-d.toNat)):Nat):Int).toNat+((Au a).toNat-((((e.toNat-0)+((((a.map V.aq).length:Nat):Int).toNat-d.toNat)):Nat):Int).toNat)));(aU ((f.map V.aq).length=(a.map V.aq).length)).b λj=>(aU ((((f.take ((e.toNat-0)+((((a.map V.aq).length:Nat):Int).toNat-d.toNat))).map V.aq).length)=((e.toNat-0)+((((a.map V.aq).length:Nat):Int).toNat-d.toNat)))).b λk=>some ((f.take ((e.toNat-0)+((((a.map V.aq).length:Nat):Int).toNat-d.toNat))),([]:U V)))))
def kG8{a d b r}(h:ais a d b=K r):Jh 565 [.ms (0,0) 13 (Hu a),H d,H b] [lz 0 0 a] (.ms Rr 13 (Hu r.1)) ([lz 0 0 r.2]++[lz 1 0 r.1]):=eN f565<|kS h λc h=>⟨c.1,c.2.1,c.2.2.1,c.2.2.2,bn h λh=>dO ⟨E 0 6<|qt 6 2 [],[],1⟩<|kS h λc h=>⟨c.1,c.2.1,c.2.2,F 0 ⟨(d.toNat-0),Q,kS h λc h=>⟨c.1,c.2.1,c.2.2,b.toNat,Q,((DB a).toNat-b.toNat),Q,(R h λ_ c h=>R h λ_ e h=>let t:U V:=(a.take (d.toNat-0)++Fa a b.toNat ((DB a).toNat-b.toNat)++a.drop (d.toNat-0+((DB a).toNat-b.toNat)));⟨Q,Q,(Jq (aY c)),(aY e),_,(aa2 V.aq a (d.toNat-0) b.toNat ((DB a).toNat-b.toNat)),R h λ_ c h=>⟨(aY c).1,(aY c).2.1,(aY c).2.2,(((d.toNat-0+((DB a).toNat-b.toNat)):Nat):Int).toNat,Q,((Ce a).toNat-(Qv (d.toNat-0+((DB a).toNat-b.toNat))).toNat),Q,(R h λ_ c h=>let w:U V:=(t.take (Qv (d.toNat-0+((DB a).toNat-b.toNat))).toNat++Em (Ce a).toNat (Qv (d.toNat-0+((DB a).toNat-b.toNat))).toNat (QN eK)++t.drop ((Qv (d.toNat-0+((DB a).toNat-b.toNat))).toNat+((Ce a).toNat-(Qv (d.toNat-0+((DB a).toNat-b.toNat))).toNat)));⟨aY c,_,.inl Q,_,(F7 (.agg (cV (gM (di (gM B)))))),R h λ_ c h=>R h λ_ e h=>match h with|rfl=>⟨SG,_,_,(cc (ur 6 1 Q Q (aY c) Q) (cc (ft [(6,.ms S1 13 (d.toNat-0+((DB a).toNat-b.toNat)))] mC) (cc (gv (1,1) (1,0) Q) (dr _ _ _ _)))),(uj ⟨.bD (eI V.aq _ _),tv⟩),od (aY e)⟩⟩)⟩⟩)⟩⟩⟩⟩
def Xv(a:Z)(b:Z):=some (Lib.compareBytes a.data.toList b.data.toList)
def acB{d e r}(h:Xv d e=K r):H3 630 [.str d,.str e] r:=match h with|rfl=>ad5 (by decide+kernel) (λa b=>Lib.compareBytes a.data.toList b.data.toList) aan d e
def S5 a b:=(Xv a b).bind λd=>some d
def Xw{a b r}(h:S5 a b=K r):H3 604 [.str a,.str b] r:=en f604<|S h acB λ_ h=>O
def Xx(a:V)(b:V):=(S5 a.name b.name).bind λd=>some d
def acC{a b r}(h:Xx a b=K r):H3 611 [V.X a,V.X b] r:=en f611<|ic 0 1<|S h Xw λ_ h=>O
def aiV e l w:=DD (λ(i,k)=>HM (i<w) (y6 (λ(a,d)=>HM (a>l) (zF (0<=a/\a<Au e) d a λm=>zF (0<=P6 a/\P6 a<Au e) d (P6 a) λo=>(Xx m o).b λp=>HM (p<0) (zF (0<=P6 a/\P6 a<Au e) d (P6 a) λf=>zF (0<=a/\a<Au e) d a λt=>zF (0<=a/\a<Au e) d a λa3=>Fd (0<=P6 a/\P6 a<Au e) (d.set a.toNat f) (P6 a) (P6 a,DU d a.toNat f (P6 a).toNat t)) d) d) (i,k) λv=>il (T3 i,v)) k) (T3 l,e)
def kC8{v x z r}(h:aiV v x z=K r):Jh 657 [.ms (0,0) 13 (Hu v),H x,H z,wm 611] [lz 0 0 v] (.bZ []) [lz 0 0 r]:=en f657<|lp h [0,1,2] (λs=>Wv (3,wm 611) 8 s.1) [] (λs=>[lz 0 0 s.2]) [] W [] (λs=>[lz 0 0 s]) I I qA (λ_⟨a6,a7⟩h=>bu h λh=>.inl<|lp h [0,1,2,8] (λs=>Wv (3,wm 611) 9 s.1) [] (λs=>[lz 0 0 s.2]) [0,1,2,8] (λ_=>[(3,wm 611)]) [] (λs=>[lz 0 0 s]) I I qA (λ_⟨a,w⟩h=>dO ⟨E 0 14<|qt 14 1<|E 15 2 [],[],1⟩<|bi h (λh=>kS h λb h=>⟨b.1,b.2,(a.toNat*13),Q,R h λa1 l h=>⟨a.toNat,0,_,Q,(gl l Q),kS h λd h=>⟨d.1,d.2,((Vo a).toNat * 13),Q,R h λa2 m h=>⟨(Vo a).toNat,0,_,Q,(gl m Q),S h acC λa3 h=>bu h λh=>.inl<|dO ⟨E 0 15<|qc 15 1<|E 16 1<|qt 17 1 [],[],1⟩<|kS h λe h=>⟨e.1,e.2,((Vo a).toNat * 13),Q,R h λk o h=>⟨(Vo a).toNat,0,_,Q,(gl o Q),kS h λf h=>⟨f.1,f.2,(a.toNat*13),Q,R h λa0 p h=>⟨a.toNat,0,_,Q,(gl p Q),kS h λi h=>⟨i.1,i.2,(a.toNat*13),Q,R h λa4 t h=>⟨a.toNat,0,_,Q,(gl t Q),Q,(DG (w.set a.toNat k)),(gI zA),tV<|kS h λj h=>⟨j.1,j.2,((Vo a).toNat * 13),Q,R h λa5 u h=>⟨(Vo a).toNat,0,_,Q,(gl u Q),Q,(DG (DU w a.toNat k (Vo a).toNat a0)),(gI zA),jA h⟩⟩⟩⟩⟩⟩⟩⟩⟩⟩⟩⟩) λh=>.inl ⟨nofun,λ_=>jA h⟩) λa9 h=>jA h) λa8 h=>oj h▸rN dk zS
def ah6(e:U V)(a:Int)(d:Int)(i:Int):=y6 (λ(_:Unit)=>iM (Gi d a<=12) ((aiV e a d).b λf=>fS f) none) () Empty.elim
def ib1{a b d e r}(h:ah6 a b d e=K r):Jh 632 [.ms (0,0) 13 (Hu a),H b,H d,H e,wm 611] [lz 0 0 a] (.bZ []) [lz 0 0 r]:=en f632<|R h λ_ c h=>.inr<|AC eS (λ(_:Unit)=>[(0,.ms (0,0) 13 (Hu a)),vT (H b),UW 2 d,UW 3 e,(4,wm 611),(10,.bool true),(11,.bool true)]) (λ(_:Unit)=>[lz 0 0 a]) (λ(_:Empty)=>[]) (λ(_:Empty)=>[]) c ⟨Q,dk,Av⟩ (have f:=h;λ_ _ h=>.inl<|bj h (λh=>cG h o1 kC8 M λ_ h=>OF) no) λa _=>a.elim
def ag7 a:=CA (Mj (IntKind.u64.wrap (Au a))) λd=>ah6 a 0 (Au a) d
def K2{a r}(h:ag7 a=K r):Jh 610 [.ms (0,0) 13 (Hu a),wm 611] [lz 0 0 a] (.bZ []) [lz 0 0 r]:=en f610<|S h Sy λ_ h=>cG h o1 ib1 M λ_ h=>kv
def pB(d:U az)(a:U V)(e:V):=gP (0<Hu a) (ck (HJ a.length ([e]:U V)) 224) λj=>gP (Hu (a++[e])=Hu a+Hu ([e]:U V)) (ag7 (a++[e])) λf=>Y4 (Hu f=Hu a+Hu ([e]:U V)) (d,f)
def rP{b a d r}(h:pB b a d=K r):Ac 566 [pT 0 0,V.X d] [] [cd 0 0 [.ms (0,1) 2 ((b.map az.aq).length),.ms (0,2) 13 ((a.map V.aq).length)],oD 0 1 2 (b.map az.aq),oD 0 2 13 (a.map V.aq)] (.bZ []) [cd 0 0 (aj.C (aj.mk r.1 r.2)),oD 0 1 2 (([]:U az).map az.aq),oD 0 2 13 (([]:U V).map V.aq)]:=eN f566<|F 3<|dO ⟨E 0 7<|qc 7 1<|E 8 2<|qt 10 1 [],[],4⟩<|kS h λb h=>R h λ_ c h=>⟨Q,(Jq b),iI c (by simp),F 4 ⟨((a.map V.aq).length+(([d]:U V).map V.aq).length),Q,tV<|kS h λa h=>cJ h [(1,4)] K2 M (cn (od a) B) λ_ h=>kS h λa h=>oj h▸⟨.inl Q,_,_,(cc (er (0,0) 0 Q Q Q Q)<|cc (er (0,0) 1 Q Q Q a)<|dr _ _ _ _),yI,.refl _⟩⟩⟩
def aaV(a:V)(b:Z):=DW a.name b
def frG{a b r}(h:aaV a b=K r):l8 609 [V.X a,l4] [CN b] (.bool r):=en f609<|F 1 O
def an6 e a:=Lr (λ(d:Nat)(f:V)=>λ_=>(aaV f a).b λi=>F6 i d) e
def axz{i a r}(h:an6 i a=K r):Cf 358 [pZ i,J8 609] [CN a] r:=en f358<|sT<|je h ND (λa _=>[QF 609,Kl a]) [] (λ_ _=>[]) [] W [] W aa I qA GD (λa _ _ _ b c _ h=>.inl ⟨λ_=>.inl<|nV b<|cG h o1 frG M λ_ h=>ER,M4⟩) Zo λ_ h=>O
def mN(a:aj)(d:Z):=jg (an6 a.an d)
def m8{a b r}(h:mN a b=K r):H3 562 [aj.X a,.str b] r:=en f562<|ic 0 1<|cG h RV axz M λ_ h=>O
def mO d:=CZ (λa=>HM (T3 a<gd d AR.av) (eE d (T3 a) λe=>dz (AR.eqB e true) (LQ d a (λf=>AR.ZL f) λi=>fS i) (nJ a 2)) ()) 0 0
def m9{d r}(h:mO d=K r):H3 563 [.sl 1 .no (d.map AR.av)] r:=en f563<|lp h [0] (zi 3) [] W [] W [] W I I qA (λa _ h=>sT<|bu h λh=>.inl<|nM h λb h=>⟨_,agh b true,bu h λh=>nM h λ_ h=>R h λ_ b h=>⟨_,af8 b,C4⟩⟩) λ_ h=>O
def Bp a:=jg (Bm (Cv 2 a))
def Gr{a r}(h:Bp a=K r):ZB 564 a (.bool r):=en f564<|Eo
def xn(m:U az)(a:U V)(d:Nat)(f:V)(o:GStep):=(mN (HI m a d f) o.ai).b λi=>(Bp o.name).b λb2=>(mN (HI m a d f) o.name).b λb3=>(mO [AR.e 7,AR.b (VY i),AR.e 6,AR.b (!b2),wg,AR.b (mz b3)]).b λa8=>Nv a8 0 (a8,m,a.set d f) (J6 (0<=i/\UV i a.length) (i.toNat≠d) λc9=>eE a i λt=>y6 (λ(k,v)=>HM (UV k a.length) (iM (k.toNat=d) (J6 (d<(a.set i.toNat {t with name:=o.name}).length) (0<=k/\UV k a.length) λb5=>y6 (λ(l,p)=>HM (l<jO f.aX) ((zF (0<=l/\l<jO f.aX) p l λa4=>dz (bg a4.ai o.ai) (J6 (0<=k/\UV k a.length) (k.toNat=d/\d<(a.set i.toNat {t with name:=o.name}).length) λb8=>zF (0<=l/\l<jO f.aX) p l λa5=>il (p.set l.toNat (aD.mk a5.ar o.name))) p).j λa0=>il (PY l,a0)) p) (0,v) λa2=>il (PY k,a2)) (zF (0<=k/\UV k a.length) (a.set i.toNat {t with name:=o.name}) k λa6=>mY (λ(u:Nat)(a7:aD)=>λw=>sP (bg a7.ai o.ai) (J6 (0<=k/\UV k a.length) (k.toNat=d/\d<(a.set i.toNat {t with name:=o.name}).length) λc2=>zF (yY 0 u/\(u:Int)<jO f.aX) w (u:Int) λa9=>il (w.set (u:Int).toNat (aD.mk a9.ar o.name))) w λa1=>il a1) a6.aX v λa3=>il (PY k,a3))) v) (0,f.aX) λx=>J6 (0<=i/\UV i a.length) (i.toNat≠d) λc5=>eE (a.set i.toNat {t with name:=o.name}) i λb0=>Dl (C0 x=C0 f.aX) (Hu (DU a i.toNat {t with name:=o.name} d {f with aX:=x})=a.length) (ais (DU a i.toNat {t with name:=o.name} d {f with aX:=x}) i (PY i)) λb1=>fv (pB m b1.1 b0) λz=>(0,z.1,z.2))
def axy{e b d a k r}(h:xn e b d a k=K r):Ac 538 [pT 0 0,GStep.X k] [] [cd 0 0 [.ms (0,1) 2 ((e.map az.aq).length),.ms (0,2) 13 b.length],oD 0 1 2 (e.map az.aq),oD 0 2 13 (eB V.aq b d (.agg (.str a.name::.ms (0,3) 6 ((a.ae.map af.aq).length)::.ms (0,4) 1 ((a.key.map G.str).length)::.ms (0,5) 2 ((a.aX.map aD.aq).length)::a.aH.T []))),oD 0 3 6 (a.ae.map af.aq),oD 0 4 1 (a.key.map G.str),oD 0 5 2 (a.aX.map aD.aq)] (H r.1) [cd 0 0 (aj.C (aj.mk r.2.1 r.2.2)),oD 0 1 2 (([]:U az).map az.aq),oD 0 2 13 (([]:U V).map V.aq),oD 0 3 6 (([]:U af).map af.aq),oD 0 4 1 (([]:U Z).map G.str),oD 0 5 2 (([]:U aD).map aD.aq)]:=eN f538<|F 6<|dO ⟨E 0 5<|qt 5 1<|E 6 1 [],[],7⟩<|R h λc e h=>cR (m8 e) Cu lg<|dO ⟨E 0 7<|E 10 6<|qc 7 1<|E 8 2<|qc 16 1<|E 17 3<|qt 20 1<|E 21 1 [],[],7⟩<|S h Gr λ_ h=>tV<|R h λ_ e h=>cR (m8 e) Cu lg<|tV<|cY h m9 Zm λ_ h=>bj h (λh=>EC) λh=>dO ⟨E 0 9<|qt 9 1 [],[],7⟩<|kS h λe h=>kS h λf h=>⟨e.1,e.2,(c.toNat*13),Q,R h λe g h=>⟨c.toNat,0,_,Q,(Aq g Q f),Q,(eB V.aq (b.set c.toNat<|V.mk k.name e.ae e.key e.aX e.aH) d<|.agg (.str a.name::.ms (0,3) 6 ((a.ae.map af.aq).length)::.ms (0,4) 1 ((a.key.map G.str).length)::.ms (0,5) 2 ((a.aX.map aD.aq).length)::a.aH.T [])),(agx zA f),lp h [0,3,5,54] (λa=>[(55,H a.1)]) [] (λa=>[oD 0 5 2 (a.2.map aD.aq)]) [0,5] W [(1,6)] (λa=>[oD 0 5 2 (a.map aD.aq)]) I I qA (λ_⟨a,_⟩h=>bu h λh=>.inl<|uz h (λb h=>R h λ_ c h=>kS h λd h=>⟨d.1,d.2,(a.toNat*13),Q,a.toNat,3,_,Q,(iN (⟨Du b,aY c⟩:_/\_)),lp h [0,3,5,7,54,55,65,66] (λa=>[(67,H a.1)]) [] (λa=>[oD 0 5 2 (a.2.map aD.aq)]) [0,3,5,54,55] W [] (λa=>[oD 0 5 2 (a.map aD.aq)]) I I qA (λ_⟨b,c⟩h=>bu h λh=>jn h [0,3,5,7,54,55,65,66,67] W [] (λa=>[oD 0 5 2 (a.map aD.aq)]) I (λh _=>.inl<|kS h λd h=>⟨d.1,d.2,(b.toNat*2),Q,R h λ_ d h=>⟨b.toNat,0,_,Q,(gl d Q),F 7<|bu h λh=>dO ⟨E 0 13<|qt 13 1 [],[],8⟩<|kS h λd h=>kS h λe h=>⟨d.1,d.2,(a.toNat*13),Q,a.toNat,3,_,Q,(iN e),kS h λa h=>⟨a.1,a.2,(b.toNat*2),Q,R h λa d h=>⟨b.toNat,1,_,Q,(gl d Q),Q,((c.set b.toNat<|aD.mk a.ar k.name).map aD.aq),(gI zA),jA h⟩⟩⟩⟩⟩) λ_ h=>jA h) λ_ h=>jA h⟩) λb h=>kS h λc h=>⟨c.1,c.2,(a.toNat*13),Q,R h λ_ c h=>⟨a.toNat,3,_,Q,(Aq c Q<|of_decide_eq_false b),sT<|Bi h 67 [0,3,5,7,54,55,65,66] W [] (λa=>[oD 0 5 2 (a.map aD.aq)]) I qA (sq 65 Q) (λ_ b _ c d e _ h=>.inl ⟨λ_=>jn h [0,3,5,7,54,55,65,66,67] W [] (λa=>[oD 0 5 2 (a.map aD.aq)]) I (λh _=>.inl<|nV d<|F 7<|bu h λh=>dO ⟨E 0 13<|qt 13 1 [],[],8⟩<|kS h λd h=>kS h λe h=>⟨d.1,d.2,(a.toNat*13),Q,a.toNat,3,_,Q,(iN e),kS h λa h=>⟨a.1,a.2,((b:Int).toNat*2),Q,R h λa d h=>⟨(b:Int).toNat,1,_,Q,(gl d Q),Q,((c.set ((b:Int).toNat)<|aD.mk a.ar k.name).map aD.aq),(gI zA),jA h⟩⟩⟩) λ_ h=>jA h,λa=>eA e a⟩) (λ_=>.inl ⟨Vu,λ_=>⟨Q,Sf,Ip⟩⟩) λ_ h=>jA h⟩⟩) λf h=>kS h λg h=>kS h λi h=>⟨g.1,g.2,(c.toNat*13),Q,R h λ_ g h=>⟨c.toNat,0,_,Q,(Aq g Q i),F 6<|kS h λg h=>kS h λi h=>R h λ_ j h=>(tz (0,2) 1 Q Q Q Q Q<|tz (0,2) 2 Q Q Q Q Q<|tz (0,2) 3 Q Q Q g Q<|(bE [(0,2)] 7 (kG8 j) Q) (cn (od i) B) Q Q tv ⟨.bD (ys:=(((b.set c.toNat (V.mk k.name e.ae e.key e.aX e.aH)).set d (V.mk a.name a.ae a.key f a.aH)).map V.aq))<|cr zA,tv⟩<|cG h [(0,0),(0,1),(1,7)] rP M λ_ h=>oj h▸⟨.inr Q,_,_,(cc (A1 (0,2) Q)<|dr _ _ _ _),vE,.refl _⟩)⟩⟩⟩⟩
def ama(a:aD)(b:Z):=DW a.ar b
def axx{a b r}(h:ama a b=K r):l8 612 [aD.X a,l4] [CN b] (.bool r):=en f612<|F 1 O
def amF e a:=Lr (λ(d:Nat)(f:aD)=>λ_=>(ama f a).b λi=>F6 i d) e
def axv{i a r}(h:amF i a=K r):Cf 388 [lG i,J8 612] [CN a] r:=en f388<|sT<|je h ND (λa _=>[QF 612,Kl a]) [] (λ_ _=>[]) [] W [] W aa I qA GD (λa _ _ _ b c _ h=>.inl ⟨λ_=>.inl<|nV b<|cG h o1 axx M λ_ h=>ER,M4⟩) Zo λ_ h=>O
def Gs(a:V)(d:Z):=jg (amF a.aX d)
def ID{a b r}(h:Gs a b=K r):H3 567 [V.X a,.str b] r:=en f567<|ic 0 1<|cG h RV axv M λ_ h=>O
def xp:Nat->Z->Z->Z->J->(U Z)->(U Z)->J->T (U Z)
 |0,_,_,_,_,_,_,_=>none
 |n+1,e,f,i,k,l,a,d=>(Hv (d.ah==3) (d.ah==3) (d.ah==11) λv=>Y v (YS a.length (n9 d.name) 16 a [d.name]) (VB (d.ah==10) (d.ah==13) (il a))).j λu=>KR (λ(w:Nat)(p:J)=>λm=>EJ (xp n e f i k l m p)) d.au u
def am2:∀(n:Nat){a b d e f i l r},xp n a b d e f i l=K r->Jh 613 [l4,J.X l] [v9 (.eM::.str a::.str b::.bX::.bX::.bX::.str d::e.T [bS f,cE 0 1 i]),cL 0 1 i] (.bZ []) [v9 (.eM::.str a::.str b::.bX::.bX::.bX::.str d::e.T [bS f,cE 0 1 r]),cL 0 1 r]
 |0,_,_,_,_,_,_,_,_,h=>no h
 |n+1,a,b,d,e,f,i,l,_,h=>en f613<|F 2<|jn h ZA W [] (λs=>[v9 (.eM::.str a::.str b::.bX::.bX::.bX::.str d::e.T [bS f,cE 0 1 s]),cL 0 1 s]) I (λh _=>.inl<|jn h [0,3,7] (zb 8) [] W I (λh _=>ba h λh=>jA h) λx h=>bj h (λh=>dO ⟨E 0 8<|qc 8 1<|E 9 2<|qt 11 1 [],[],3⟩<|aR h λh=>tV<|jA h) λh=>bn h λh=>bn h λh=>jA h) λw h=>sT<|Bi h 49 [0,47,48] W Vs (λs=>[v9 (.eM::.str a::.str b::.bX::.bX::.bX::.str d::e.T [bS f,cE 0 1 s]),cL 0 1 s]) I qA (sq 47 Q) (λ_ t u m k j o h=>.inl ⟨λ_=>.inl<|sT ⟨_,oA k<|gy _,F 2<|cG h o2 (λh=>am2 _ h) M λv h=>jA h⟩,λc=>eA j c⟩) (λm=>.inl ⟨λc=>eC c,λ_=>⟨Q,kF,wy⟩⟩) λp h=>oj h▸rN kF zS
def fG(a:U J):T (U J):=(ck (([]:U J).length+a.length) 136).b λ_=>some a
def pC{d r}(h:fG d=K r):kj 190 [lh d] [] (.ms Rr 9 (RP r)) ([]++[Zw 1 0 r]):=lR eS Tryz.func190 Q (by decide+kernel) Q Q λ_ a=>.inl ⟨λb=>R h λ_ _ h=>match h with|rfl=>⟨SG,_,_,cc (qw 2 9 0 Q Q)<|dr _ _ _ _,⟨lE J.aq<|a b,tv⟩,ko J.aq<|a b⟩,λ_=>R h λ_ a h=>.inl ⟨iI a (by simp),.inr ⟨Q,F 0<|match h with|rfl=>⟨.inr Q,_,_,dr _ _ _ _,⟨.refl _,tv⟩,.refl _⟩⟩⟩⟩
mutual
def xq:Nat->Z->Z->Z->J->(U Z)->(U Z)->J->T J
 |0,_,_,_,_,_,_,_=>none
 |n+1,t,u,o,p,w,x,a=>(qm a.ay).b λa0=>(qm a.binds).b λa1=>(fG a.au).b λz=>(Y (a.ah==3) (y6 (λ_=>jv ()) () λ_=>dz (bg a.name o) (ir p) z) (VB (a.ah==11) (a.ah==10) (cN (a.ah==13) (mY (λ(a5:Nat)(b6:J)=>λa2=>(am0 n (a5:Int) t u o p w x a a.ah a.name a.n a.s a0 a1 a2 a.pos a.dG).b λb4=>jq (aU (RP a2=RP z)) b4) a.au z λa4=>il a4)))).j λa3=>Y4 (RP a3=RP z) {a with ay:=a0,binds:=a1,au:=a3}
def am0:Nat->Int->Z->Z->Z->J->(U Z)->(U Z)->J->Int->Z->Int->Z->(U Z)->(U Z)->(U J)->Int->Int->T (U J)
 |0,_,_,_,_,_,_,_,_,_,_,_,_,_,_,_,_,_=>none
 |n+1,v,d,e,i,k,l,m,b5,a6,a7,a8,a9,b0,b1,f,b2,b3=>LQ b5.au v (λa0=>xq n d e i k l m a0) λa1=>zF (0<=v/\v<gn f) f v λb9=>some (f.set v.toNat a1)
end
def rQ n:=∀{a b e f i d j r},xq n a b e f i d j=some r->Ac 614 [pT 0 0,J.X j,.eM] [cd 0 0 (.eM::.str a::.str b::.bX::.bX::.bX::.str e::f.T [bS i,cE 0 1 d]),cL 0 1 d] [] (J.X r) []
def xr n:=∀{w b d e f i a x k l m o p t j u v r},am0 n w b d e f i a x k l m o p t j u v=some r->Ac 634 [H w,.eM,pT 0 0,pT 0 3,pT 0 4] [cd 0 0 [pT 0 1],cd 0 1 (.eM::.str b::.str d::.bX::.bX::.bX::.str e::f.T [bS i,cE 0 2 a]),cL 0 2 a,cd 0 3 (J.C x),cd 0 4 [H k,.str l,H m,.str o,bS p,bS t,.ms (0,5) 9 ((j.map J.aq).length),H u,H v]] [oD 0 5 9 (j.map J.aq)] (.bZ []) [oD 0 5 9 (r.map J.aq)]
def axu{n:Nat}(a:xr n):rQ (n+1):=λ{j k p t u v a4 _}h=>
 eN f614<|⟨2,Q,3,Q,4,Q,5,Q,⟨E 0 2 (E 3 2 (E 6 2 (HN 2 1 9 1 (Db 5 8 (qt 10 1 (E 11 1 (qt 12 1 (E 13 1 (Sk 14 1))))))))),[],6⟩,(by decide+kernel),S h zJ λa5 h=>⟨tv,S h zJ λa6 h=>⟨tv,R h λa7 o h=>(bE [] 6 (pC o) Q) B Q Q tv tv ⟨tv,jn h [6,7] W [Rk,Oq] (λs=>[Zw 1 6 s]) I (λh m=>.inl (bj h (λh=>lq h [2,3,4,6,7] W [] W I qA (λ_ _ h=>.inl ⟨nofun,λ_=>jA h⟩) λ_ h=>⟨⟨E 0 7 [],[],7⟩,(by decide+kernel),bj h (λh=>jx h m λh=>oj h▸⟨.inr Q,_,_,(dr _ _ _ _),kF,.refl _⟩) λh=>jA h⟩) λh=>bj h (λh=>(no h)) λh=>bj h (λh=>(no h)) λh=>bj h (λh=>(no h)) λh=>⟨_,B,je h [2,6,7,33] (λb _=>[(9,fN 634 [DX 2,DX 3,DX 5]),Ht 34 b]) [] (λ_ s=>[Zw 1 6 s]) [6,7] W [Rk,Oq] (λs=>[Zw 1 6 s]) aa I ⟨Q,Sf,Io⟩ (.inr ⟨(1,3),6,_,_,_,Q,Q⟩) (λ_ b z l _ d w h=>.inl ⟨λ_=>.inl (R h λa0 e h=>R h λa1 f h=>(iR [Oq,(0,0),(0,1),Rk,Vl,Uy] (a e) Q) B Q ⟨Q,Q,Q,Q,(aY f▸Q),tv⟩ dk (jA h)),λc=>eA d c⟩) (λl=>.inl ⟨λc=>eC c,λ_=>⟨Q,ku,jU⟩⟩) λx h=>jA h⟩)) λa3 h=>R h λa2 i h=>oj h▸⟨.inr Q,_,_,(cc (er (1,4) 6 Q Q Q (aY i)) (dr _ _ _ _)),kF,.refl _⟩⟩⟩⟩⟩
def axt{n:Nat}(a:rQ n):xr (n+1):=λ{m b d f i j k a3 t u v w x z e a0 a1 _}h=>
 en f634<|⟨⟨E 0 10 (fq 10 1 11 1 12),[],6⟩,(by decide+kernel),R h λa4 o h=>⟨_,B,_,km o (gy _),cG h [(0,1),(0,2)] (λh=>a h) M λa2 h=>⟨tv,R h λa5 l h=>⟨(aY l).1,(aY l).2,(m.toNat*9),Q,R h λa6 p h=>⟨m.toNat,0,_,Q,(gl p (gy _)),Q,(DE (e.set m.toNat a2)),(gI (hP zA)),oj h▸ai9⟩⟩⟩⟩⟩
def vH:(n:Nat)->rQ n/\xr n
 |0=>⟨no,no⟩
 |n+1=>have⟨a,b⟩:=vH n;⟨axu b,axt a⟩
def axs(n:Nat):rQ n:=(vH n).1
def Xy f a e:=(m7 e).b λd=>uu ((n9 a).length+d.length) (xp 1000000 bk bk a e d ([a]++d) f) λi=>jg (xq 1000000 bk bk a e d i f)
def acD{b d e r}(h:Xy b d e=K r):Gh 568 [J.X b,.str d,J.X e] r:=en f568<|iZ 0 1 2<|dO ⟨E 0 3<|qc 3 1<|E 4 1<|qt 5 1<|E 6 1 [],[],3⟩<|S h uI λ_ h=>tV<|F 3<|.inl<|R h λ_ a h=>⟨fo,.inl<|F 4<|cG h [Rk,T7] (λh=>am2 _ h) M λ_ h=>cG h [Rk,T7] (λh=>axs _ h) M λ_ h=>O⟩
def xt(l:U az)(f:U V)(d:Nat)(a:V)(i:GStep):=(mN (HI l f d a) i.ai).b λv=>be (VY v) (7,l,f.set d a) (Dl (0<=v/\UV v f.length) (v.toNat=d/\d<f.length) (lr a i.ar) λa3=>yZ a3 0 (gP (0<=v/\UV v f.length) (Bp i.name) λa4=>(lr a i.name).b λa5=>(mO [AR.e 6,AR.b (!a4),wg,AR.b (mz a5)]).b λx=>Nv x 0 (x,l,f.set d a) ((lr a i.ar).b λm=>zF (0<=m/\m<J5 a.ae) a.ae m λu=>y6 (λ(k,o)=>HM (k<HE a.key) ((zF (0<=k/\k<HE a.key) o k λa0=>dz (bg a0 i.ar) (Fd (0<=k/\k<HE a.key) o k (o.set k.toNat i.name)) o).j λz=>il (PY k,z)) o) (0,a.key) λt=>Dl (zf t=zf a.key) (mZ (J3 a.ae m.toNat i.name u.bH)=mZ a.ae) (Gs {a with ae:=J3 a.ae m.toNat i.name u.bH,key:=t} i.ar) λp=>sP (mz p) (zF (0<=p/\p<jO a.aX) a.aX p λa1=>il (a.aX.set p.toNat (aD.mk i.name a1.ai))) a.aX λw=>(Xy a.aH i.ar (qj i.name)).b λa2=>J6 (mZ (J3 a.ae m.toNat i.name u.bH)=mZ a.ae) (zf t=zf a.key) λb4=>Y4 (C0 w=C0 a.aX) (0,l,f.set d (V.mk a.name (J3 a.ae m.toNat i.name u.bH) t w a2)))))
def axr{i d e a p r}(h:xt i d e a p=K r):Jh 541 [l4,GStep.X p] [v9 [.ms (0,1) 2 (v4 i),.ms (0,2) 13 d.length],Zx 0 1 i,oD 0 2 13 (eB V.aq d e (.agg (.str a.name::.ms (0,3) 6 (mZ a.ae)::.ms (0,4) 1 (zf a.key)::.ms (0,5) 2 (C0 a.aX)::a.aH.T []))),Zv 0 3 a.ae,Ww 4 a.key,CX 0 5 2 a.aX] (H r.1) [v9 (En r.2.1 r.2.2),Zx 0 1 CO,lz 0 2 D6,Zv 0 3 Dp,Ww 4 Bb,CX 0 5 2 EI]:=eN f541<|F 6<|dO ⟨E 0 5<|qt 5 1<|E 6 1 [],[],7⟩<|R h λb c h=>cR (m8 c) Cu lg<|dO ⟨E 0 12<|qt 12 1<|E 13 2 [],[],7⟩<|bi h Lh λh=>kS h λc h=>kS h λf h=>⟨c.1,c.2,(b.toNat*13),Q,b.toNat,0,_,Q,iN f,R h λ_ c h=>cR (lI c) EM lg<|bn h λh=>kS h λc h=>⟨c.1,c.2,(b.toNat*13),Q,dO ⟨E 0 3<|E 6 6<|qc 3 1<|E 4 2<|qc 12 1<|E 13 3<|qt 16 1<|E 17 1 [],[],7⟩ ⟨b.toNat,0,_,Q,iN f,S h Gr λ_ h=>tV<|R h λ_ c h=>cR (lI c) EM lg<|tV<|cY h m9 Zm λ_ h=>bj h (λh=>EC) λh=>dO ⟨E 0 9<|E 10 2<|qc 9 1<|E 12 2<|qt 14 1 [],[],7⟩ ⟨b.toNat,1,_,Q,iN f,b.toNat,0,_,Q,iN f,R h λc g h=>cR (lI g) EM lg<|tV<|kS h λg h=>⟨g.1,g.2,(c.toNat*6),Q,R h λg i h=>⟨c.toNat,0,_,Q,(gl i Q),Q,((a.ae.set c.toNat<|af.mk p.name g.bH).map af.aq),(gI zA),b.toNat,2,_,Q,iN f,lp h [3,6,75,76] (λa=>[(77,H a.1)]) [] (λa=>[Ww 4 a.2]) [3,6] W [] (λa=>[Ww 4 a]) I I qA (λ_⟨a,c⟩h=>bu h λh=>jn h [3,6,75,76,77] W [] (λa=>[Ww 4 a]) I (λh _=>.inl<|kS h λd h=>⟨d.1,d.2,(a.toNat*1),Q,R h λ_ d h=>⟨a.toNat,0,_,Q,(gl d Q),bu h λh=>dO ⟨E 0 8<|qt 8 1 [],[],7⟩ ⟨b.toNat,2,_,Q,iN f,kS h λb h=>⟨b.1,b.2,(a.toNat*1),Q,R h λ_ b h=>⟨a.toNat,0,_,Q,(gl b Q),Q,(FP (c.set a.toNat p.name)),(gI zA),jA h⟩⟩⟩⟩⟩) λ_ h=>jA h) λ_ h=>dO ⟨E 0 5<|qt 5 1<|E 6 1 [],[],7⟩ ⟨b.toNat,0,_,Q,iN f,kS h λc h=>kS h λg h=>R h λi j h=>cR (ID j) (vc (va<|vc Cm<|vc (vm Q g<|vl B)<|vc (vm Q c<|vl B)<|vc E8<|vl B)<|EA) lg<|jn h [3,6] W [] (λa=>[CX 0 5 2 a]) I (λh _=>bu h λh=>dO ⟨E 0 9<|qt 9 1 [],[],7⟩ ⟨b.toNat,3,_,Q,iN f,kS h λb h=>⟨b.1,b.2,(i.toNat*2),Q,R h λb c h=>⟨i.toNat,0,_,Q,(gl c Q),Q,((a.aX.set i.toNat<|aD.mk p.name b.ai).map aD.aq),(gI zA),jA h⟩⟩⟩) λ_ h=>dO ⟨E 0 10<|qc 10 1<|E 11 2<|qt 13 1 [],[],7⟩ ⟨b.toNat,4,_,Q,iN f,cY h acD (kq<|DQ) λc h=>tV ⟨b.toNat,4,_,Q,iN f,Q,(eB V.aq d e<|.agg (.str a.name::.ms (0,3) 6 (mZ a.ae)::.ms (0,4) 1 (zf a.key)::.ms (0,5) 2 (C0 a.aX)::c.T [])),(qk f.1),kS h λa h=>kS h λb h=>kS h λc h=>oj h▸⟨SG,_,_,(cc (er (0,0) 0 Q Q Q Q)<|cc (em (0,2) 1 Q Q Q a Q)<|cc (em (0,2) 2 Q Q Q b Q)<|cc (em (0,2) 3 Q Q Q c Q)<|cc (er (0,0) 1 Q Q Q cD)<|dr _ _ _ _),⟨co<|cV<|cn (ls<|cr zA) B,ku⟩,.refl _⟩⟩⟩⟩⟩⟩⟩⟩⟩⟩
def alt(a:aG)(b:aF):=DW a.name b.s
def axq{a b r}(h:alt a b=K r):HD 616 [aG.X a,l4] (aF.C b) (.bool r):=en f616<|F 1 O
def alm e a:=Lr (λ(d:Nat)(f:aG)=>λ_=>(alt f a).b λi=>F6 i d) e
def axp{i a r}(h:alm i a=K r):l3 413 [ui i,J8 616] (aF.C a) r:=en f413<|sT<|je h ND (λa _=>[QF 616,Kl a]) [] (λ_ _=>[]) [] W [] W aa I qA GD (λa _ _ _ b c _ h=>.inl ⟨λ_=>.inl<|nV b<|cG h o1 axq M λ_ h=>ER,M4⟩) Zo λ_ h=>O
def al9 d a:=Ux (alm d a)
def axo{b a r}(h:al9 b a=K r):HD 362 [ui b,J8 616] (aF.C a) (.bool r):=en f362<|cG h o1 axp M λ_ h=>O
def Xz a:=jg (Bm (Cv 3 a))
def acE{a r}(h:Xz a=K r):ZB 666 a (.bool r):=en f666<|Eo
mutual
def S6:Nat->aF->T At
 |0,_=>none
 |n+1,a=>n8 (VX a.ah) (a.ah !=2) λt=>n8 t (VX a.n) λu=>fE u (Y (a.ah !=1) (Nv a.ah 3 (!bg a.s bk) cI) cI) λv=>fE v (Nv a.ah 4 (yS (gL a.ay) 0) cI) λe=>cN e ((Hv (a.ah==0) (a.ah==0) (a.ah==1) λi=>RB i (il (Gc a.au==0)) (a.ah==2) (J7 (Gc a.au==0) (AW (a.n==0) true (a.n==1)) λk=>il k) (a.ah==3) ((iM (Gc a.au<=1) (jg (Xz a.s)) cI).bind λl=>il l) none).j λf=>DJ f (E7 (al3 n a.au)))
def XA:Nat->aF->T At
 |0,_=>none
 |n+1,a=>E7 (S6 n a)
def akd:Nat->(U aF)->T Int
 |0,_=>none
 |n+1,a=>Lr (λ(w:Nat)(x:aF)=>λ_=>(XA n x).b λz=>F6 z w) a
def al3:Nat->(U aF)->T At
 |0,_=>none
 |n+1,a=>Ux (akd n a)
end
def NQ n:=∀{a r},S6 n a=some r->Ac 636 [aF.X a] [] [] (.bool r) []
def S7 n:=∀{a r},XA n a=some r->Ac 668 [aF.X a] [] [] (.bool r) []
def xu n:=∀{a r},akd n a=some r->Ac 619 [V1 a,fN 668 []] [] [] (H r) []
def xv n:=∀{a r},al3 n a=some r->Ac 667 [V1 a,fN 668 []] [] [] (.bool r) []
def acF{n:Nat}(a:xv n):NQ (n+1):=λ{t _}h=>
 en f636<|⟨0,Q,jb h 4 [1] (zb 13) [] W I (λh=>bi h (λh=>oj h▸qB) λh=>oj h▸qB) λm h=>jb h 4 [1] (zb 18) [] W I (λh=>bi h (λh=>oj h▸qB) λh=>oj h▸qB) λo h=>jb h 14 [1] (zb 33) [] W I (λh=>bi h (λh=>oj h▸qB) λh=>bj h (λh=>bj h (λh=>oj h▸qB) λh=>oj h▸qB) λh=>.inl ⟨nofun,λ_=>oj h▸qB⟩) λp h=>jb h 10 [1] (zb 44) [] W I (λh=>bi h (λh=>oj h▸qB) λh=>bj h (λh=>⟨_,B,oj h▸qB⟩) λh=>oj h▸qB) λb h=>bj h (λh=>(no h)) λh=>jn h [1] (zb 3) [] W I (λh _=>.inl (jn h [1,3,46] (zb 47) [] W I (λh _=>bj h (λh=>jA h) λh=>jA h) λe h=>bj h (λh=>⟨_,B,jA h⟩) λh=>bj h (λh=>⟨_,B,jb h 9 [1] (zb 69) [] W I (λh=>bi h (λh=>bj h (λh=>oj h▸qB) λh=>oj h▸qB) λh=>oj h▸qB) λf h=>jA h⟩) λh=>bj h (λh=>⟨_,B,jb h 4 [1] (zb 80) [] W I (λh=>bi h (λh=>S h acE λk h=>oj h▸qB) λh=>oj h▸qB) λi h=>jA h⟩) λh=>(no h))) λd h=>jb h 5 [] (zb 126) H6 W I (λh=>bi h (λh=>S h (λh=>a h) λl h=>oj h▸qB) λh=>oj h▸qB) λj h=>oj h▸rW⟩
def acG{n:Nat}(a:NQ n):S7 (n+1):=λ{b _}h=>
 en f668<|⟨0,Q,S h (λh=>a h) λd h=>oj h▸rW⟩
def axl{n:Nat}(a:S7 n):xu (n+1):=λ{j _}h=>
 en f619<|⟨_,B,je h ND (λf _=>[dF 668,Kl f]) [] (λ_ _=>[]) [] W [] W aa I qA (.inl ⟨0,_,_,Q⟩) (λd f k _ e b i h=>.inl ⟨λ_=>.inl ⟨_,B,_,oA e (qf _),S h (λh=>a h) λl h=>bj h (λh=>lx h d λh=>oj h▸rW) λh=>jA h⟩,λc=>eA b c⟩) (λ_=>.inl ⟨λc=>eC c,λ_=>⟨Q,tv,tv⟩⟩) λ_ h=>oj h▸rW⟩
def axG{n:Nat}(a:xu n):xv (n+1):=λ{b _}h=>
 en f667<|S h (λh=>a h) λd h=>oj h▸rW
def alD:(n:Nat)->NQ n/\S7 n/\xu n/\xv n
 |0=>⟨no,no,no,no⟩
 |n+1=>have⟨d,e,a,b⟩:=alD n;⟨acF b,acG d,axl e,axG a⟩
def acH(n:Nat):NQ n:=(alD n).1
def al0(a:az)(b:am):=DW a.name b.name
def axF{a b r}(h:al0 a b=K r):HD 672 [az.X a,l4] (am.C b) (.bool r):=en f672<|F 1 O
def akj e a:=Lr (λ(d:Nat)(f:az)=>λ_=>(al0 f a).b λi=>F6 i d) e
def axE{i a r}(h:akj i a=K r):l3 374 [oP i,J8 672] (am.C a) r:=en f374<|sT<|je h ND (λa _=>[QF 672,Kl a]) [] (λ_ _=>[]) [] W [] W aa I qA GD (λa _ _ _ b c _ h=>.inl ⟨λ_=>.inl<|nV b<|cG h o1 axF M λ_ h=>ER,M4⟩) Zo λ_ h=>O
def akR(a:aG)(b:aF):=DW a.name b.s
def axC{a b r}(h:akR a b=K r):HD 673 [aG.X a,l4] (aF.C b) (.bool r):=en f673<|F 1 O
def ajP e a:=Lr (λ(d:Nat)(f:aG)=>λ_=>(akR f a).b λi=>F6 i d) e
def axB{i a r}(h:ajP i a=K r):l3 413 [ui i,J8 673] (aF.C a) r:=en f413<|sT<|je h ND (λa _=>[QF 673,Kl a]) [] (λ_ _=>[]) [] W [] W aa I qA GD (λa _ _ _ b c _ h=>.inl ⟨λ_=>.inl<|nV b<|cG h o1 axC M λ_ h=>ER,M4⟩) Zo λ_ h=>O
def S8:Nat->(U az)->aF->am->T At
 |0,_,_,_=>none
 |n+1,f,a,e=>Dr (e.ah==0) (a.ah==0) (e.ah==1) (a.ah==1) (be (e.ah==2) (a.ah==2) (VB (e.ah==4) (e.ah==5) (Y (e.ah==3) ((akj f e).b λj=>l5 (a.ah !=3) (VY j) λp=>cN p (LQ f j (λk=>ajP k.bQ a) λi=>yZ i 0 (eE f j λl=>eE l.bQ i λd=>Y d.has (Y (Gc a.au==1) (LQ a.au 0 (λm=>S8 n f m d.arg) λo=>Dr o true (!d.has) (Gc a.au==0) cI) (be (!d.has) (Gc a.au==0) cI)) (be (!d.has) (Gc a.au==0) cI)))) none)))
def XB:∀(n:Nat){b d e r},S8 n b d e=K r->Ad 637 [oP b,aF.X d,am.X e] (.bool r)
 |0,_,_,_,_,h=>no h
 |n+1,b,d,e,_,h=>en f637<|iZ 0 1 2<|.inl<|bw h λh=>bw h λh=>bw h λh=>bn h λh=>bn h λh=>bj h (λh=>cH h Vs axE M Q B Q ⟨Q,tv⟩ tv λp h=>jb h 3 [3,4,7] (zb 81) Vs W I (λh=>bI h λh=>zB) λo h=>bn h λh=>nM h λf h=>cH h RV axB M Q B Q ⟨Q,tv⟩ tv λi h=>bn h λh=>nM h λj h=>nM h λk h=>F 2<|dO ⟨E 0 16<|qt 16 1<|E 17 13 [],[],3⟩<|bi h (λh=>sT<|bi h (λh=>R h λl a h=>sT ⟨_,km a<|qf _,S h (λh=>XB _ h) λm h=>bi h (λh=>O) λh=>bi h (λh=>sT<|oj h▸rX tv zS) λh=>O⟩) λh=>⟨nofun,λ_=>bi h (λh=>sT<|oj h▸rX tv zS) λh=>O⟩) λh=>⟨nofun,λ_=>⟨nofun,λ_=>bi h (λh=>sT<|oj h▸rX tv zS) λh=>O⟩⟩) no
def XC e a f:=(S6 1000000 a).b λi=>D5 i (S8 1000000 e a f)
def acI{a b d r}(h:XC a b d=K r):Ad 617 [oP a,aF.X b,am.X d] (.bool r):=en f617<|ic 0 1<|S h (λh=>acH _ h) λ_ h=>jb h 5 [] (zb 14) [S1,Rr] W I (λh=>bJ h λh=>S h (λh=>XB _ h) λ_ h=>zB) λ_ h=>O
def XD(f:aj)(e:aF):=sP (e.ah==3) (mY (λ(u:Nat)(p:az)=>λt=>((al9 p.bQ e).b λl=>CL l p.name t).j λi=>il i) f.aT bk λk=>il (3,k)) (e.ah,bk) λ(a,d)=>iM (e.ah<=3) ((SW f.aT (re a d)).b λm=>Y m (fv (XC f.aT e (re a d)) λo=>(re a d,o)) (Vm (re a d) false)) (Vm (re a d) false)
def acJ{d e r}(h:XD d e=K r):Ad 570 [aj.X d,aF.X e] (.bZ [am.X r.1,.bool r.2]):=en f570<|iZ 0 1 2<|F 3<|jn h [2,3,4,6] W [] (λa=>[DV 3 (re a.1 a.2)]) I (λh _=>bu h λh=>sT<|Bi h 19 [2,3,4,6,17,18] W [] (λa=>[DV 3 (re 3 a)]) I qA (sq 17 Q) (λ_ _ _ _ a b _ h=>.inl ⟨λ_=>jn h [2,3,4,6,17,18,19] W [] (λa=>[DV 3 (re 3 a)]) I (λh _=>.inl<|nV a<|F 4<|cH h RV axo M Q B Q ⟨Q,tv⟩ tv λ_ h=>ba h λh=>jA h) λ_ h=>jA h,ZC⟩) (λ_=>.inl ⟨Vu,λ_=>⟨Q,⟨co<|ja<|ee B,yI⟩,Io⟩⟩) λ_ h=>jA h) λ⟨_,_⟩h=>dO ⟨E 0 8<|qc 8 1<|E 9 6<|qc 15 1<|E 16 1<|qc 17 1<|E 18 1 [],[],4⟩<|bi h (λh=>cY h Xq C1 λ_ h=>tV<|bi h (λh=>cY h acI (kq<|E9) λ_ h=>⟨tv,tV O⟩) λh=>tV O) λh=>⟨nofun,λ_=>tV O⟩
def xw(j:U az)(f:U V)(d:Nat)(a:V)(k:GStep):=(mN (HI j f d a) k.ai).b λl=>yZ l 0 (Dl (0<=l/\UV l f.length) (l.toNat=d/\d<f.length) (XD (HI j f d a) k.default) λi=>Dl (zf i.1.ay=0) (cg i.1.au am.aq=0) (Bp k.ar) λo=>(lr a k.ar).b λp=>(mO [AR.e 6,AR.b (!o),wg,AR.b (mz p),AR.e 9,AR.b (!i.2),AR.e 4,AR.b (mK (J5 a.ae) 8)]).b λm=>Nv m 0 (m,j,f.set d a) (gP (0<mZ a.ae) (ck (HJ a.ae.length ([af.mk k.ar (E4 i.1.ah i.1.name i.1.n)]:U af)) 96) λu=>Y4 (mZ (a.ae++[af.mk k.ar (E4 i.1.ah i.1.name i.1.n)])=mZ a.ae+mZ ([af.mk k.ar (E4 i.1.ah i.1.name i.1.n)]:U af)) (0,j,f.set d {a with ae:=a.ae++[af.mk k.ar (E4 i.1.ah i.1.name i.1.n)]})))
def axA{e b d a j r}(h:xw e b d a j=K r):Jh 544 [l4,GStep.X j] [v9 [.ms (0,1) 2 (v4 e),.ms (0,2) 13 b.length],Zx 0 1 e,oD 0 2 13 (eB V.aq b d (.agg (.str a.name::.ms (0,3) 6 (mZ a.ae)::.ms (0,4) 1 (zf a.key)::.ms (0,5) 2 (C0 a.aX)::a.aH.T []))),Zv 0 3 a.ae,Ww 4 a.key,CX 0 5 2 a.aX] (H r.1) [v9 (En r.2.1 r.2.2),Zx 0 1 CO,lz 0 2 D6,Zv 0 3 Dp,Ww 4 Bb,CX 0 5 2 EI]:=eN f544<|F 6<|dO ⟨E 0 5<|qt 5 1<|E 6 1 [],[],7⟩<|R h λc e h=>cR (m8 e) Cu lg<|bn h λh=>kS h λe h=>kS h λf h=>⟨e.1,e.2,(c.toNat*13),Q,dO ⟨E 0 5 ((9,.al (1,7))::(HN 5 1 6 3 ((10,.tp)::E 11 1 []))),we 7,8⟩<|R h λe g h=>kS h λi h=>kS h λk h=>cR (acJ g) Cu (VU<|wn (Gb<|wn lg<|wn Ib<|wn lg<|wn (ZM i)<|wn (ZM k) F9.nil)<|wn Ga F9.nil) ⟨tv,tV<|dO ⟨E 0 3<|E 6 6<|E 15 12<|qc 3 1<|E 4 2<|qc 12 1<|E 13 2<|E 27 1<|qt 28 1<|E 29 1 [],[],8⟩ ⟨c.toNat,0,_,Q,iN f,c.toNat,1,_,Q,iN f,S h Gr λ_ h=>tV<|R h λ_ g h=>cR (lI g) EM lg<|tV<|cY h m9 Zm λ_ h=>bj h (λh=>EC) λh=>dO ⟨E 0 10<|qc 10 1<|E 11 2<|qt 13 1 [],[],8⟩ ⟨c.toNat,1,_,Q,iN f,kS h λg h=>R h λ_ i h=>⟨Q,(Jq g),iI i (by simp),F 8 ⟨(mZ a.ae+mZ ([af.mk j.ar (E4 e.1.ah e.1.name e.1.n)]:U af)),Q,tV ⟨c.toNat,1,_,Q,iN f,Q,(eB V.aq b d<|.agg (.str a.name::.ms (vT 8) 6 (mZ a.ae+mZ ([af.mk j.ar (E4 e.1.ah e.1.name e.1.n)]:U af))::.ms (0,4) 1 (zf a.key)::.ms (0,5) 2 (C0 a.aX)::a.aH.T [])),(qk f.1),kS h λb h=>oj h▸⟨SG,_,_,(cc (er (0,0) 0 Q Q Q Q)<|cc (em (0,2) 1 Q Q Q ((bF.length (ys:=((a.ae++[af.mk j.ar (E4 e.1.ah e.1.name e.1.n)]).map af.aq))<|ap B<|Cr).trans b) Q)<|cc (em (0,2) 2 Q Q Q Q Q)<|cc (em (0,2) 3 Q Q Q Q Q)<|cc (er (0,0) 1 Q Q Q cD)<|dr _ _ _ _),⟨co<|cV<|cn (ls<|cr<|.agg<|cV<|cn (ls<|ap B<|Cr) B) B,ku⟩,.refl _⟩⟩⟩⟩⟩⟩⟩⟩
def ajD(d:Z)(a:aj)(e:Int):=eE a.an e λf=>fv (lr f d) λi=>VY i
def acZ{b a d r}(h:ajD b a d=K r):Ad 575 [.str b,.aS [.aS a.C 0] 0,.aS [H d] 0] (.bool r):=en f575<|dO ⟨E 0 8<|qt 8 1<|E 9 2 [],[],0⟩<|nM h λ_ h=>S h lI λ_ h=>O
def aj4 f a d:=Lr (λ(e:Nat)(i:Z)=>λ_=>(ajD i a d).b λk=>F6 k e) f
def t86{j a b r}(h:aj4 j a b=K r):H3 158 [bS j,fN 575 [.aS [.aS a.C 0] 0,.aS [H b] 0]] r:=en f158<|sT<|je h ND (λc _=>[FH 575 [.aS [.aS a.C 0] 0,.aS [H b] 0],Kl c]) [] (λ_ _=>[]) [] W [] W aa I qA GD (λa _ _ _ b c _ h=>.inl ⟨λ_=>.inl<|nV b<|S h acZ λ_ h=>ER,M4⟩) Dx λ_ h=>O
def aih e a d:=Ux (aj4 e a d)
def t81{d a b r}(h:aih d a b=K r):Ad 65 [bS d,fN 575 [.aS [.aS a.C 0] 0,.aS [H b] 0]] (.bool r):=en f65<|S h t86 λ_ h=>O
def Gt(a:V)(d:Z):=CA (m7 a.aH) λe=>lj e d
def IF{a b r}(h:Gt a b=K r):Ad 578 [V.X a,.str b] (.bool r):=en f578<|F 0<|S h uI λ_ h=>CS
def ahr d a:=jg (Gt a d)
def t79{b a r}(h:ahr b a=K r):Ad 577 [.str b,.aS [.aS a.C 0] 0] (.bool r):=en f577<|S h IF λ_ h=>O
def ahA e a:=Lr (λ(d:Nat)(f:Z)=>λ_=>(ahr f a).b λi=>F6 i d) e
def t36{i a r}(h:ahA i a=K r):H3 158 [bS i,fN 577 [.aS [.aS a.C 0] 0]] r:=en f158<|sT<|je h ND (λb _=>[FH 577 [.aS [.aS a.C 0] 0],Kl b]) [] (λ_ _=>[]) [] W [] W aa I qA GD (λa _ _ _ b c _ h=>.inl ⟨λ_=>.inl<|nV b<|S h t79 λ_ h=>ER,M4⟩) Dx λ_ h=>O
def aaH d a:=Ux (ahA d a)
def t28{b a r}(h:aaH b a=K r):Ad 65 [bS b,fN 577 [.aS [.aS a.C 0] 0]] (.bool r):=en f65<|S h t36 λ_ h=>O
def o8(a:af)(d:GStep):=jg (lj d.ae a.name)
def t21{a b r}(h:o8 a b=K r):Ad 581 [af.X a,.aS b.C 0] (.bool r):=en f581<|F 0<|CS
def anx e a:=Lr (λ(d:Nat)(f:af)=>λ_=>(o8 f a).b λi=>F6 i d) e
def okW{i a r}(h:anx i a=K r):H3 163 [mL i,fN 581 [.aS a.C 0]] r:=en f163<|sT<|je h ND (λb _=>[FH 581 [.aS a.C 0],Kl b]) [] (λ_ _=>[]) [] W [] W aa I qA GD (λa _ _ _ b c _ h=>.inl ⟨λ_=>.inl<|nV b<|S h t21 λ_ h=>ER,M4⟩) Dx λ_ h=>O
def anu(a:af)(d:GStep):=jg (lj d.ae a.name)
def lNK{a b r}(h:anu a b=K r):HD 581 [af.X a,l4] (GStep.C b) (.bool r):=en f581<|F 1<|CS
def xx a k:=(anx a k).b λp=>Y (p==(-1)) ((aU ((((a.take ((a.map af.aq).length)).map af.aq).length)=(a.map af.aq).length)).b λa5=>some ((a.take ((a.map af.aq).length)),([]:U af))) ((aV (λ(e,f,i)=>(Y (decide (f<(QJ a))) (((aU (0<=f/\f<(QJ a))).b λw=>(aA i f).b λm=>(anu m k).b λv=>Y (!v) ((aU (0<=e/\e<(QJ a))).b λx=>(aA i e).b λz=>il ((w6 (e+1)),(i.set e.toNat m))) (il (e,i))).j λ(t,u)=>il (t,(w6 (f+1)),u)) (ir (.inl (e,i))))) 1000000 (p,(w6 (p+1)),a)).j λ(d,o)=>(aU (0<=d/\d<=(((a.map af.aq).length:Nat):Int)/\(((a.map af.aq).length:Nat):Int)<=(((a.map af.aq).length:Nat):Int))).b λa0=>(aU ((o.map af.aq).length=(a.map af.aq).length)).b λa1=>(let l:U af:=(o.take d.toNat++List.replicate ((((a.map af.aq).length:Nat):Int).toNat-d.toNat) (af.mk bk rB)++o.drop (d.toNat+((((a.map af.aq).length:Nat):Int).toNat-d.toNat)));(aU (0<=(0:Int)/\0<=d/\d<=(((a.map af.aq).length:Nat):Int))).b λa2=>(aU ((l.map af.aq).length=(a.map af.aq).length)).b λa3=>(aU ((((l.take (d.toNat-0)).map af.aq).length)=(d.toNat-0))).b λa4=>some ((l.take (d.toNat-0)),([]:U af))))
def agA{e j r}(h:xx e j=K r):Ac 580 [.ms (0,1) 6 (mZ e),J8 581] (R9 (GStep.C j)) [Zv 0 1 e] (.ms Rr 6 (mZ r.1)) ([Zv 0 1 r.2]++[Zv 1 0 r.1]):=eN f580<|R h λb0 w h=>cR (okW w) (vc (vm Q Q<|vl B)<|vc (vf .nil<|vc (vq Q<|vl B) dN.nil) dN.nil) lg<|bj h (λh=>kS h λx h=>match h with|rfl=>⟨.inr Q,_,_,(cc (rn 4 2 Q Q Q Q)<|cc (ft [(4,.ms Oq 6 (mZ e))] mC)<|cc (gv (1,2) (1,0) Q)<|dr _ _ _ _),(uF ⟨.bD<|eI af.aq _ _,tv⟩),od x⟩) λh=>lp h [0] (λs=>[QF 581,UW 5 s.1,UW 6 s.2.1]) [] (λs=>[Zv 0 1 s.2.2]) [0] (λs=>[(5,H s.1)]) [] (λs=>[Zv 0 1 s.2]) I I qA (λ_⟨k,u,a0⟩h=>bu h λh=>jn h [0,6] (λs=>Wv (QF 581) 5 s.1) [] (λs=>[Zv 0 1 s.2]) I (λh _=>.inl<|kS h λf h=>⟨f.1,f.2,(u.toNat*6),Q,R h λz l h=>⟨u.toNat,0,_,Q,(gl l Q),F 2<|cG h o1 lNK M λa3 h=>bu h λh=>kS h λi h=>⟨i.1,i.2,(k.toNat*6),Q,R h λa4 m h=>⟨k.toNat,0,_,Q,(gl m Q),Q,((a0.set k.toNat z).map af.aq),(gI zA),jA h⟩⟩⟩⟩) λ⟨a1,a2⟩h=>jA h) λ⟨a,v⟩h=>kS h λb h=>⟨b.1,b.2.1,b.2.2,a.toNat,Q,((Qv (mZ e)).toNat-a.toNat),Q,(R h λa5 o h=>let a9:U af:=(v.take a.toNat++Em (Qv (mZ e)).toNat a.toNat (af.mk bk rB)++v.drop (a.toNat+((Qv (mZ e)).toNat-a.toNat)));⟨aY o,_,.inl Q,_,(F7 (.agg (di (ee B)))),R h λa6 d h=>⟨(aY d).1,(aY d).2.1,(aY d).2.2,0,Q,(a.toNat-0),Q,R h λa7 p h=>R h λa8 t h=>match h with|rfl=>⟨.inr Q,_,_,(cc (ur 4 2 Q Q (aY p) Q) (cc (ft [(4,.ms Oq 6 (a.toNat-0))] mC) (cc (gv (1,2) (1,0) Q) (dr _ _ _ _)))),(uF ⟨.bD (eI af.aq _ _),tv⟩),od (aY t)⟩⟩⟩)⟩
def anr(a:aD)(d:GStep):=jg (lj d.ae a.ar)
def kN4{a b r}(h:anr a b=K r):Ad 583 [aD.X a,.aS b.C 0] (.bool r):=en f583<|F 0<|CS
def amt e a:=Lr (λ(d:Nat)(f:aD)=>λ_=>(anr f a).b λi=>F6 i d) e
def lNJ{i a r}(h:amt i a=K r):H3 388 [lG i,fN 583 [.aS a.C 0]] r:=en f388<|sT<|je h ND (λb _=>[FH 583 [.aS a.C 0],Kl b]) [] (λ_ _=>[]) [] W [] W aa I qA GD (λa _ _ _ b c _ h=>.inl ⟨λ_=>.inl<|nV b<|S h kN4 λ_ h=>ER,M4⟩) Dx λ_ h=>O
def ams(a:aD)(d:GStep):=jg (lj d.ae a.ar)
def kE9{a b r}(h:ams a b=K r):HD 583 [aD.X a,l4] (GStep.C b) (.bool r):=en f583<|F 1<|CS
def xy a k:=(amt a k).b λp=>Y (p==(-1)) ((aU ((((a.take ((a.map aD.aq).length)).map aD.aq).length)=(a.map aD.aq).length)).b λa5=>some ((a.take ((a.map aD.aq).length)),([]:U aD))) ((aV (λ(e,f,i)=>(Y (decide (f<(ZS a))) (((aU (0<=f/\f<(ZS a))).b λw=>(aA i f).b λm=>(ams m k).b λv=>Y (!v) ((aU (0<=e/\e<(ZS a))).b λx=>(aA i e).b λz=>il ((w6 (e+1)),(i.set e.toNat m))) (il (e,i))).j λ(t,u)=>il (t,(w6 (f+1)),u)) (ir (.inl (e,i))))) 1000000 (p,(w6 (p+1)),a)).j λ(d,o)=>(aU (0<=d/\d<=(((a.map aD.aq).length:Nat):Int)/\(((a.map aD.aq).length:Nat):Int)<=(((a.map aD.aq).length:Nat):Int))).b λa0=>(aU ((o.map aD.aq).length=(a.map aD.aq).length)).b λa1=>(let l:U aD:=(o.take d.toNat++List.replicate ((((a.map aD.aq).length:Nat):Int).toNat-d.toNat) (aD.mk bk bk)++o.drop (d.toNat+((((a.map aD.aq).length:Nat):Int).toNat-d.toNat)));(aU (0<=(0:Int)/\0<=d/\d<=(((a.map aD.aq).length:Nat):Int))).b λa2=>(aU ((l.map aD.aq).length=(a.map aD.aq).length)).b λa3=>(aU ((((l.take (d.toNat-0)).map aD.aq).length)=(d.toNat-0))).b λa4=>some ((l.take (d.toNat-0)),([]:U aD))))
def akW{e j r}(h:xy e j=K r):Ac 582 [.ms (0,1) 2 (C0 e),J8 583] (R9 (GStep.C j)) [CX 0 1 2 e] (.ms Rr 2 (C0 r.1)) ([CX 0 1 2 r.2]++[CX 1 0 2 r.1]):=eN f582<|R h λb0 w h=>cR (lNJ w) (vc (vm Q Q<|vl B)<|vc (vf .nil<|vc (vq Q<|vl B) dN.nil) dN.nil) lg<|bj h (λh=>kS h λx h=>match h with|rfl=>⟨.inr Q,_,_,(cc (rn 4 2 Q Q Q Q)<|cc (ft [(4,.ms Oq 2 (C0 e))] mC)<|cc (gv (1,2) (1,0) Q)<|dr _ _ _ _),(uF ⟨.bD<|eI aD.aq _ _,tv⟩),od x⟩) λh=>lp h [0] (λs=>[QF 583,UW 5 s.1,UW 6 s.2.1]) [] (λs=>[CX 0 1 2 s.2.2]) [0] (λs=>[(5,H s.1)]) [] (λs=>[CX 0 1 2 s.2]) I I qA (λ_⟨k,u,a0⟩h=>bu h λh=>jn h [0,6] (λs=>Wv (QF 583) 5 s.1) [] (λs=>[CX 0 1 2 s.2]) I (λh _=>.inl<|kS h λf h=>⟨f.1,f.2,(u.toNat*2),Q,R h λz l h=>⟨u.toNat,0,_,Q,(gl l Q),F 2<|cG h o1 kE9 M λa3 h=>bu h λh=>kS h λi h=>⟨i.1,i.2,(k.toNat*2),Q,R h λa4 m h=>⟨k.toNat,0,_,Q,(gl m Q),Q,((a0.set k.toNat z).map aD.aq),(gI zA),jA h⟩⟩⟩⟩) λ⟨a1,a2⟩h=>jA h) λ⟨a,v⟩h=>kS h λb h=>⟨b.1,b.2.1,b.2.2,a.toNat,Q,((Qv (C0 e)).toNat-a.toNat),Q,(R h λa5 o h=>let a9:U aD:=(v.take a.toNat++Em (Qv (C0 e)).toNat a.toNat (aD.mk bk bk)++v.drop (a.toNat+((Qv (C0 e)).toNat-a.toNat)));⟨aY o,_,.inl Q,_,(F7 zA),R h λa6 d h=>⟨(aY d).1,(aY d).2.1,(aY d).2.2,0,Q,(a.toNat-0),Q,R h λa7 p h=>R h λa8 t h=>match h with|rfl=>⟨.inr Q,_,_,(cc (ur 4 2 Q Q (aY p) Q) (cc (ft [(4,.ms Oq 2 (a.toNat-0))] mC) (cc (gv (1,2) (1,0) Q) (dr _ _ _ _)))),(uF ⟨.bD (eI aD.aq _ _),tv⟩),od (aY t)⟩⟩⟩)⟩
def Gu(a:V):=Nv (gL a.key) 1 bk (Jr a.key 0)
def IG{a r}(h:Gu a=K r):CB 576 [V.X a] r:=en f576<|F 0<|sT<|bw h λh=>EL
def acK:=some (U5 2)
def S9{r}(h:acK=K r):Gh 579 [] r:=en f579<|F 0 O
def xz i d f a k:=(mN (HI i d f a) k.ai).b λu=>Da (VY u) (aih k.ae (HI i d f a) u) λd6=>cN d6 (Dl (0<=u/\UV u d.length) (u.toNat=f/\f<d.length) (Gm k.ae) λd8=>(nG d8).b λc3=>(nH c3).b λa5=>(Gu a).b λl=>Da (C8 l) (lj k.ae l) λb6=>Da b6 (aaH k.ae a) λa2=>Zy (HE a5.1==0) ((Bp k.name).b λc6=>(mN (HI i d f a) k.name).b λc7=>(mO [AR.e 1,Dm,AR.e 6,AR.b (!c6),wg,AR.b (mz c7),CJ,AR.b a2,AR.e 4,AR.b (mK (d.length:Int) 8)]).b λa6=>Nv a6 0 (a6,i,d.set f a) ((lr a l).b λv=>zF (0<=v/\v<J5 a.ae) a.ae v λc8=>mY (λ(d9:Nat)(c9:Z)=>λa3=>(lr a c9).b λw=>zF (0<=w/\w<J5 a.ae) a.ae w λa7=>YS a3.length ([a7]:U af) 96 a3 [a7]) k.ae [c8] λb9=>y6 (λ(m,p)=>HM (m<jO a.aX) ((zF (0<=m/\m<jO a.aX) a.aX m λx=>(lj k.ae x.ar).b λd0=>dz d0 (YS p.length ([x]:U aD) 32 p [x]) p).j λb7=>il (PY m,b7)) p) (0,Zz l a.name) λc0=>(xx a.ae k).b λa8=>(xy a.aX k).b λa9=>(pB i (d.set f {a with ae:=a8.1,aX:=a9.1}) (Rp k.name b9 [l] c0 2 1)).b λb0=>Y4 (Hu (d.set f {a with ae:=a8.1,aX:=a9.1})=d.length) (0,b0.1,b0.2))) (Bp k.name) λd1=>(mN (HI i d f a) k.name).b λd2=>(mO [AR.e 1,AR.b (vO (HE a5.1) (HE k.ae)),AR.e 6,AR.b (!d1),wg,AR.b (mz d2),CJ,AR.b a2,AR.e 4,AR.b (mK (d.length:Int) 8)]).b λb1=>Nv b1 0 (b1,i,d.set f a) ((lr a l).b λz=>zF (0<=z/\z<J5 a.ae) a.ae z λd3=>mY (λ(e0:Nat)(d4:Z)=>λa4=>(lr a d4).b λa0=>zF (0<=a0/\a0<J5 a.ae) a.ae a0 λb2=>YS a4.length ([b2]:U af) 96 a4 [b2]) k.ae [d3] λc1=>y6 (λ(o,t)=>HM (o<jO a.aX) ((zF (0<=o/\o<jO a.aX) a.aX o λa1=>(lj k.ae a1.ar).b λd5=>dz d5 (YS t.length ([a1]:U aD) 32 t [a1]) t).j λb8=>il (PY o,b8)) t) (0,Zz l a.name) λc2=>(xx a.ae k).b λb3=>(xy a.aX k).b λb4=>(pB i (d.set f {a with ae:=b3.1,aX:=b4.1}) (Rp k.name c1 [l] c2 2 1)).b λb5=>Y4 (Hu (d.set f {a with ae:=b3.1,aX:=b4.1})=d.length) (0,b5.1,b5.2)))
def kC7{j e d a k r}(h:xz j e d a k=K r):Ac 547 [pT 0 0,GStep.X k] [] [cd 0 0 [.ms (0,1) 2 ((j.map az.aq).length),.ms (0,2) 13 e.length],oD 0 1 2 (j.map az.aq),oD 0 2 13 (eB V.aq e d (.agg (.str a.name::.ms (0,3) 6 ((a.ae.map af.aq).length)::.ms (0,4) 1 ((a.key.map G.str).length)::.ms (0,5) 2 ((a.aX.map aD.aq).length)::a.aH.T []))),oD 0 3 6 (a.ae.map af.aq),oD 0 4 1 (a.key.map G.str),oD 0 5 2 (a.aX.map aD.aq)] (H r.1) [cd 0 0 (aj.C (aj.mk r.2.1 r.2.2)),oD 0 1 2 (([]:U az).map az.aq),oD 0 2 13 (([]:U V).map V.aq),oD 0 3 6 (([]:U af).map af.aq),oD 0 4 1 (([]:U Z).map G.str),oD 0 5 2 (([]:U aD).map aD.aq)]:=eN f547<|ic 6 7<|dO ⟨E 0 5 ((6,.al (1,8))::(qc 5 1 (qt 7 1 []))),[(1,8)],9⟩<|R h λb c h=>cR (m8 c) Cu lg<|tV<|jz h 5 [2,3,5] 29 I (λh=>bI h λh=>R h λ_ a h=>cR (t81 a) (vc Cm<|vc (vf .nil<|vc (vq Q<|vc (vq Q<|vc E8<|vc (vm Q cD<|qY<|Eg) dN.nil) dN.nil)<|vc (vq Q<|vl B) dN.nil) dN.nil) Ga zB) λ_ h=>bn h λh=>dO ⟨E 0 6 ((6,.al (1,9))::(qt 7 1 [])),[(1,9)],10⟩<|kS h λc h=>kS h λf h=>⟨c.1,c.2,(b.toNat*13),Q,R h λ_ c h=>(bE [] 10 (Ml c) Q) B Q Q tv tv<|R h λ_ c h=>(bE [(1,10)] 11 (rI c) Q) B Q Q ⟨Q,tv⟩ tv<|R h λ_ c h=>(bE [(1,11)] 12 (rJ c) Q) B Q Q tv dk ⟨b.toNat,0,_,Q,iN f,R h λc g h=>cR (IG g) (vc Eg dN.nil) Ib<|jb h 5 [2,3,6,7,8] (zb 52) [(1,11),(1,10),(1,8)] W I I6 λ_ h=>jz h 5 [2,3,6,7,8] 58 I (λh=>bI h λh=>R h λ_ a h=>cR (t28 a) (vc Cm<|vc (vf .nil<|vc (vq Q<|vc (vr Q aoa Q<|vc Cm<|vc E8<|vc E8<|vc E8<|vc Cm<|vc Cm<|vc Cm<|vc Cm<|vc Cm<|vc Cm<|vc Cm<|vc Cm<|EA) dN.nil) dN.nil) dN.nil) Ga zB) λ_ h=>dO ⟨(E 0 16<|E 19 6<|E 28 11<|qc 16 1<|E 17 2<|qc 25 1<|E 26 2<|E 39 1<|qt 40 1<|E 41 1 []),[],13⟩<|bi h (λh=>akO) λh=>sT<|akO⟩⟩
def aml(a:af)(d:V):=Ux (lr d a.name)
def ibz{a b r}(h:aml a b=K r):Ad 592 [af.X a,.aS b.C 0] (.bool r):=en f592<|F 0<|S h lI λ_ h=>O
def amX e a:=Lr (λ(d:Nat)(f:af)=>λ_=>(aml f a).b λi=>F6 i d) e
def gk1{i a r}(h:amX i a=K r):H3 163 [mL i,fN 592 [.aS a.C 0]] r:=en f163<|sT<|je h ND (λb _=>[FH 592 [.aS a.C 0],Kl b]) [] (λ_ _=>[]) [] W [] W aa I qA GD (λa _ _ _ b c _ h=>.inl ⟨λ_=>.inl<|nV b<|S h ibz λ_ h=>ER,M4⟩) Dx λ_ h=>O
def amQ d a:=Ux (amX d a)
def frC{b a r}(h:amQ b a=K r):Ad 365 [mL b,fN 592 [.aS a.C 0]] (.bool r):=en f365<|S h gk1 λ_ h=>O
def amJ(a:af)(b:Z):=DW a.name b
def fqA{a b r}(h:amJ a b=K r):Ad 591 [af.X a,.aS (nW b) 0] (.bool r):=en f591<|F 0 O
def amH e a:=Lr (λ(d:Nat)(f:af)=>λ_=>(amJ f a).b λi=>F6 i d) e
def foA{i a r}(h:amH i a=K r):H3 163 [mL i,fN 591 [.aS (nW a) 0]] r:=en f163<|sT<|je h ND (λb _=>[FH 591 [.aS (nW a) 0],Kl b]) [] (λ_ _=>[]) [] W [] W aa I qA GD (λa _ _ _ b c _ h=>.inl ⟨λ_=>.inl<|nV b<|S h fqA λ_ h=>ER,M4⟩) Dx λ_ h=>O
def am4(a:af)(b:Z):=DW a.name b
def fc1{a b r}(h:am4 a b=K r):l8 591 [af.X a,l4] [CN b] (.bool r):=en f591<|F 1 O
def alc a k:=(amH a k).b λp=>Y (p==(-1)) ((aU ((((a.take ((a.map af.aq).length)).map af.aq).length)=(a.map af.aq).length)).b λa5=>some ((a.take ((a.map af.aq).length)),([]:U af))) ((aV (λ(e,f,i)=>(Y (decide (f<(QJ a))) (((aU (0<=f/\f<(QJ a))).b λw=>(aA i f).b λm=>(am4 m k).b λv=>Y (!v) ((aU (0<=e/\e<(QJ a))).b λx=>(aA i e).b λz=>il ((w6 (e+1)),(i.set e.toNat m))) (il (e,i))).j λ(t,u)=>il (t,(w6 (f+1)),u)) (ir (.inl (e,i))))) 1000000 (p,(w6 (p+1)),a)).j λ(d,o)=>(aU (0<=d/\d<=(((a.map af.aq).length:Nat):Int)/\(((a.map af.aq).length:Nat):Int)<=(((a.map af.aq).length:Nat):Int))).b λa0=>(aU ((o.map af.aq).length=(a.map af.aq).length)).b λa1=>(let l:U af:=(o.take d.toNat++List.replicate ((((a.map af.aq).length:Nat):Int).toNat-d.toNat) (af.mk bk rB)++o.drop (d.toNat+((((a.map af.aq).length:Nat):Int).toNat-d.toNat)));(aU (0<=(0:Int)/\0<=d/\d<=(((a.map af.aq).length:Nat):Int))).b λa2=>(aU ((l.map af.aq).length=(a.map af.aq).length)).b λa3=>(aU ((((l.take (d.toNat-0)).map af.aq).length)=(d.toNat-0))).b λa4=>some ((l.take (d.toNat-0)),([]:U af))))
def exT{e j r}(h:alc e j=K r):Ac 580 [.ms (0,1) 6 (mZ e),J8 591] [CN j] [Zv 0 1 e] (.ms Rr 6 (mZ r.1)) ([Zv 0 1 r.2]++[Zv 1 0 r.1]):=eN f580<|R h λb0 w h=>cR (foA w) (vc (vm Q Q<|vl B)<|vc (vf .nil<|vc (vq Q<|vl B) dN.nil) dN.nil) lg<|bj h (λh=>kS h λx h=>match h with|rfl=>⟨.inr Q,_,_,(cc (rn 4 2 Q Q Q Q)<|cc (ft [(4,.ms Oq 6 (mZ e))] mC)<|cc (gv (1,2) (1,0) Q)<|dr _ _ _ _),(uF ⟨.bD<|eI af.aq _ _,tv⟩),od x⟩) λh=>lp h [0] (λs=>[QF 591,UW 5 s.1,UW 6 s.2.1]) [] (λs=>[Zv 0 1 s.2.2]) [0] (λs=>[(5,H s.1)]) [] (λs=>[Zv 0 1 s.2]) I I qA (λ_⟨k,u,a0⟩h=>bu h λh=>jn h [0,6] (λs=>Wv (QF 591) 5 s.1) [] (λs=>[Zv 0 1 s.2]) I (λh _=>.inl<|kS h λf h=>⟨f.1,f.2,(u.toNat*6),Q,R h λz l h=>⟨u.toNat,0,_,Q,(gl l Q),F 2<|cG h o1 fc1 M λa3 h=>bu h λh=>kS h λi h=>⟨i.1,i.2,(k.toNat*6),Q,R h λa4 m h=>⟨k.toNat,0,_,Q,(gl m Q),Q,((a0.set k.toNat z).map af.aq),(gI zA),jA h⟩⟩⟩⟩) λ⟨a1,a2⟩h=>jA h) λ⟨a,v⟩h=>kS h λb h=>⟨b.1,b.2.1,b.2.2,a.toNat,Q,((Qv (mZ e)).toNat-a.toNat),Q,(R h λa5 o h=>let a9:U af:=(v.take a.toNat++Em (Qv (mZ e)).toNat a.toNat (af.mk bk rB)++v.drop (a.toNat+((Qv (mZ e)).toNat-a.toNat)));⟨aY o,_,.inl Q,_,(F7 (.agg (di (ee B)))),R h λa6 d h=>⟨(aY d).1,(aY d).2.1,(aY d).2.2,0,Q,(a.toNat-0),Q,R h λa7 p h=>R h λa8 t h=>match h with|rfl=>⟨.inr Q,_,_,(cc (ur 4 2 Q Q (aY p) Q) (cc (ft [(4,.ms Oq 6 (a.toNat-0))] mC) (cc (gv (1,2) (1,0) Q) (dr _ _ _ _)))),(uF ⟨.bD (eI af.aq _ _),tv⟩),od (aY t)⟩⟩⟩)⟩
def Ta(m:aj)(o:Z):=KR (λ(u:Nat)(e:V)=>λk=>mY (λ(p:Nat)(d:aD)=>λa=>sP (bg d.ai o) (YS a.length (Zz d.ar e.name:U aD) 32 a (Zz d.ar e.name)) a λf=>il f) e.aX k λi=>il i) m.an []
def acL{j k r}(h:Ta j k=K r):Ad 593 [aj.X j,.str k] (lG r):=en f593<|F 0<|sT<|.inr<|gc 5 2 1 Q Q Q<|zI h 13 [1,11,12] (λa=>[(5,Ur 1 a)]) H6 (λa=>[oQ 1 1 a]) I qA (sq 11 Q) (λ_ _ _ _ a b _ h=>.inl ⟨λ_=>.inl<|nV a<|F 2<|sT<|je h [1,7,11,12,13,18,19] (λa b=>[(5,Ur 1 b),Ht 20 a]) [] (λ_ a=>[oQ 1 1 a]) [1,11,12,13] (λa=>[(5,Ur 1 a)]) Vs (λa=>[oQ 1 1 a]) aa I qA (sq 18 Q) (λ_ _ _ _ a b _ h=>.inl ⟨λ_=>jn h [1,7,11,12,13,18,19,20] (λa=>[(5,Ur 1 a)]) [] (λa=>[oQ 1 1 a]) I (λh _=>.inl<|nV a<|F 3<|E6) λ_ h=>jA h,ZC⟩) (λ_=>.inl ⟨Vu,λ_=>⟨Q,dk,QP⟩⟩) λ_ h=>jA h,ZC⟩) (λ_=>.inl ⟨Vu,λ_=>⟨Q,dk,In⟩⟩) λ_ h=>O
def Tb(a:J):=Am (a.ah==2) (a.n==1)
def XE{a r}(h:Tb a=K r):Ad 623 [J.X a] (.bool r):=en f623<|F 0<|jb h 4 [] (zb 10) H6 W I E1 λ_ h=>O
def Gv a d:=(Tb d).b λe=>Cj e a (Tb a) λf=>AW f d (EH Gf [a,d])
def al1{a b r}(h:Gv a b=K r):Gh 594 [J.X a,J.X b] r:=en f594<|iZ 0 1 2<|.inl<|S h XE λ_ h=>bw h λh=>S h XE λ_ h=>bw h λh=>T2
def xA(i:U az)(a:U V)(d:Nat)(f:V)(a6:GStep):=(mN (HI i a d f) a6.ai).b λp=>(mN (HI i a d f) a6.name).b λt=>l5 (VY p) (VY t) λc1=>cN c1 (J6 (0<=p/\UV p a.length) (p.toNat≠d) λc5=>eE a p λk=>J6 (0<=t/\UV t a.length) (t.toNat≠d) λc3=>eE a t λj=>(Gu k).b λo=>(Gs j o).b λu=>(nF j.ae).b λa7=>(alc a7 o).b λl=>(amQ l.1 k).b λm=>Zy (C8 o) ((Gv k.aH j.aH).b λa8=>fE (yS (fg (J5 k.ae) (J5 l.1)) 8) (fv (Bo a8) λa9=>VX a9) λa1=>(mO [CJ,Dm,wg,AR.b m,AR.e 4,AR.b a1]).b λv=>Nv v 0 (v,i,a.set d f) none) (Gu j) λb0=>Y (!bg b0 o) ((Gv k.aH j.aH).b λb1=>fE (yS (fg (J5 k.ae) (J5 l.1)) 8) (fv (Bo b1) λb2=>VX b2) λa2=>(mO [CJ,Dm,wg,AR.b m,AR.e 4,AR.b a2]).b λw=>Nv w 0 (w,i,a.set d f) none) (iM (u<0) ((Gv k.aH j.aH).b λb3=>fE (yS (fg (J5 k.ae) (J5 l.1)) 8) (fv (Bo b3) λb4=>VX b4) λa3=>(mO [CJ,Dm,wg,AR.b m,AR.e 4,AR.b a3]).b λx=>Nv x 0 (x,i,a.set d f) none) (eE j.aX u λb5=>Zy (!bg b5.ai k.name) ((Gv k.aH j.aH).b λb6=>fE (yS (fg (J5 k.ae) (J5 l.1)) 8) (fv (Bo b6) λb7=>VX b7) λa4=>(mO [CJ,Dm,wg,AR.b m,AR.e 4,AR.b a4]).b λz=>Nv z 0 (z,i,a.set d f) none) (Ta (HI i a d f) j.name) λb8=>(Gv k.aH j.aH).b λb9=>fE (yS (fg (J5 k.ae) (J5 l.1)) 8) (fv (Bo b9) λc0=>VX c0) λa5=>(mO [CJ,AR.b (Cc (List.replicate (C0 b8) G.any).length 0),wg,AR.b m,AR.e 4,AR.b a5]).b λa0=>Nv a0 0 (a0,i,a.set d f) none)))
def ent{d f i a a1 r}(h:xA d f i a a1=K r):Ac 550 [pT 0 0,GStep.X a1] [] [cd 0 0 [.ms (0,1) 2 ((d.map az.aq).length),.ms (0,2) 13 f.length],oD 0 1 2 (d.map az.aq),oD 0 2 13 (eB V.aq f i (.agg (.str a.name::.ms (0,3) 6 ((a.ae.map af.aq).length)::.ms (0,4) 1 ((a.key.map G.str).length)::.ms (0,5) 2 ((a.aX.map aD.aq).length)::a.aH.T []))),oD 0 3 6 (a.ae.map af.aq),oD 0 4 1 (a.key.map G.str),oD 0 5 2 (a.aX.map aD.aq)] (H r.1) [cd 0 0 (aj.C (aj.mk r.2.1 r.2.2)),oD 0 1 2 (([]:U az).map az.aq),oD 0 2 13 (([]:U V).map V.aq),oD 0 3 6 (([]:U af).map af.aq),oD 0 4 1 (([]:U Z).map G.str),oD 0 5 2 (([]:U aD).map aD.aq)]:=eN f550<|F 6<|dO ⟨E 0 5<|E 6 5<|qc 5 1<|qt 11 1<|E 12 2 [],[],7⟩<|R h λa b h=>cR (m8 b) Cu lg<|tV<|R h λb c h=>cR (m8 c) Cu lg<|jb h 3 [0,5,6] (zb 33) [(1,6)] W I E1 λ_ h=>bn h λh=>dO ⟨E 0 14 ((14,.al (1,6))::((15,.al (1,7))::((16,.tp)::(qt 17 1 [])))),[(1,6),(1,7)],8⟩<|kS h λc h=>kS h λd h=>⟨c.1,c.2,(a.toNat*13),Q,R h λ_ c h=>⟨a.toNat,0,_,Q,(Aq c Q d),kS h λa h=>kS h λc h=>⟨a.1,a.2,(b.toNat*13),Q,R h λ_ a h=>⟨b.toNat,0,_,Q,(Aq a Q c),tV<|S h IG λ_ h=>F 8<|S h ID λ_ h=>R h λ_ a h=>(bE [] 9 (xb a) Q) B Q Q tv tv<|R h λ_ a h=>(bE [(1,8),(1,9)] 10 (exT a) Q) B Q Q ⟨Q,tv⟩ dk<|R h λa b h=>cR (frC b) (vc E8<|vc (vf .nil<|vc (vq Q<|vl B) dN.nil) dN.nil) Ga<|dO ⟨(E 0 4<|E 5 1<|qc 4 1<|E 6 23<|qt 29 1<|E 30 4 []),[],11⟩<|bi h (λh=>⟨λ_=>⟨λ_=>⟨λ_=>Jn,nofun⟩,nofun⟩,nofun⟩) λh=>S h IG λ_ h=>tV<|bi h (λh=>⟨λ_=>⟨λ_=>Jn,nofun⟩,nofun⟩) λh=>bi h (λh=>⟨λ_=>Jn,nofun⟩) λh=>nM h λ_ h=>bi h (λh=>Jn) λh=>R h λb c h=>cR (acL c) Cu Of<|sT<|S h al1 λ_ h=>F 11<|sT<|jb h 4 [0,5,6,7,8,10,11,14] (λc=>[(99,AR.av (AR.e 23)),(101,AR.av (AR.b (decide (((List.replicate (b.map aD.aq).length G.any).length:Int)>0)))),(102,AR.av (AR.e 8)),(104,AR.av (AR.b a)),(105,AR.av (AR.e 4)),(117,.bool c)]) [(1,9),(1,8)] W I (λh=>bi h (λh=>oj h▸⟨Q,uG,uE⟩) λh=>S h Gp λ_ h=>oj h▸⟨Q,uG,uE⟩) λ_ h=>.inl<|cY h m9 Zm λ_ h=>bj h (λh=>EC) no⟩⟩⟩⟩
def xB(i:U az)(d:U V)(f:Nat)(a:V)(j:GStep):=(mN (HI i d f a) j.ai).b λk=>be (VY k) (7,i,d.set f a) (Dl (0<=k/\UV k d.length) (k.toNat=f/\f<d.length) (lr a j.ar) λu=>yZ u 0 (gP (0<=k/\UV k d.length) (Bp j.name) λv=>(mN (HI i d f a) j.name).b λw=>(Gs a j.ar).b λp=>(mO [AR.e 6,AR.b (!v),wg,AR.b (mz w),CJ,AR.b (mz p),AR.e 4,AR.b (mK (d.length:Int) 8)]).b λm=>Nv m 0 (m,i,d.set f a) (A7 (HJ a.aX.length (Zz j.ar j.name:U aD)) 32 (lr {a with aX:=a.aX++Zz j.ar j.name} j.ar) λl=>zF (0<=l/\l<J5 a.ae) a.ae l λt=>(pB i (d.set f {a with aX:=a.aX++Zz j.ar j.name}) (Rp j.name [t] [j.ar] [] 2 1)).b λo=>Y4 (Hu (d.set f {a with aX:=a.aX++Zz j.ar j.name})=d.length) (0,o.1,o.2))))
def enH{f b d a j r}(h:xB f b d a j=K r):Jh 553 [l4,GStep.X j] [v9 [.ms (0,1) 2 (v4 f),.ms (0,2) 13 b.length],Zx 0 1 f,oD 0 2 13 (eB V.aq b d (.agg (.str a.name::.ms (0,3) 6 (mZ a.ae)::.ms (0,4) 1 (zf a.key)::lv 0 5 a.aX::a.aH.T []))),Zv 0 3 a.ae,Ww 4 a.key,oQ 0 5 a.aX] (H r.1) [v9 (En r.2.1 r.2.2),Zx 0 1 CO,lz 0 2 D6,Zv 0 3 Dp,Ww 4 Bb,CX 0 5 2 EI]:=eN f553<|F 6<|dO ⟨E 0 5<|qt 5 1<|E 6 1 [],[],7⟩<|R h λc e h=>cR (m8 e) an5 lg<|dO ⟨E 0 12<|qt 12 1<|E 13 2 [],[],7⟩<|bi h (λh=>.inl ⟨λ_=>oj h▸⟨.inr Q,_,_,(cc (er (0,0) 0 Q Q Q Q)<|cc (em (0,2) 1 Q Q Q Q Q)<|cc (em (0,2) 2 Q Q Q Q Q)<|cc (er (0,0) 1 Q Q Q cD)<|cc (Z0 (0,5) Q)<|dr _ _ _ _),⟨co<|cV<|cn (ls<|cr<|.agg<|ja<|dT) B,ku⟩,.refl _⟩,nofun⟩) λh=>kS h λe h=>kS h λf h=>⟨e.1,e.2,(c.toNat*13),Q,c.toNat,0,_,Q,iN f,R h λ_ e h=>cR (lI e) (vc IC<|EA) lg<|bn h λh=>kS h λe h=>⟨e.1,e.2,(c.toNat*13),Q,dO ⟨(E 0 3<|E 6 6<|E 15 6<|E 24 8<|qc 3 1<|E 4 2<|qc 12 1<|E 13 2<|qc 21 1<|E 22 2<|E 32 1<|qt 33 1<|E 34 1 []),[],7⟩ ⟨c.toNat,0,_,Q,iN f,S h Gr λ_ h=>tV<|R h λ_ e h=>cR (m8 e) an5 lg<|tV<|R h λ_ e h=>cR (ID e) (vc IC<|EA) lg<|tV<|cY h m9 Zm λ_ h=>bj h (λh=>oj h▸⟨.inr Q,_,_,(cc (er (0,0) 0 Q Q Q Q)<|cc (em (0,2) 1 Q Q Q Q Q)<|cc (em (0,2) 2 Q Q Q Q Q)<|cc (er (0,0) 1 Q Q Q cD)<|cc (Z0 (0,5) Q)<|dr _ _ _ _),⟨co<|cV<|cn (ls<|cr<|.agg<|ja<|dT) B,ku⟩,.refl _⟩) λh=>dO ⟨E 0 11<|qc 11 1<|E 12 2<|qt 14 1 [],[],7⟩ ⟨c.toNat,3,_,Q,iN f,aR h λh=>tV ⟨c.toNat,3,_,Q,iN f,Q,(eB V.aq b d<|.agg (.str a.name::.ms (0,3) 6 (mZ a.ae)::.ms (0,4) 1 (zf a.key)::lv 0 5 (a.aX++Zz j.ar j.name)::a.aH.T [])),(awg (.agg<|ja<|cn (lt<|ap B B) B) f.1),dO ⟨E 0 12<|E 16 3<|qc 12 1<|E 13 3<|qc 19 1<|E 20 1<|qt 21 1 [],[],7⟩ ⟨c.toNat,1,_,Q,iN f,c.toNat,0,_,Q,iN f,R h λc e h=>cR (lI e) (vc IC<|EA) lg<|tV<|kS h λe h=>⟨e.1,e.2,(c.toNat*6),Q,R h λ_ e h=>⟨c.toNat,0,_,Q,(gl e Q),cU (S9 Q) B<|tV<|R h λ_ c h=>kS h λe h=>(tz (0,2) 1 Q Q Q Q Q<|tz (0,2) 2 Q Q Q Q Q<|(iR o3 (rP c) Q) (cV<|cn (.agg<|cV<|cn (ls B)<|cn (ls B)<|fm<|di<|gM B) B) Q tv ⟨co<|cV<|cn (od e) B,(uj ⟨.bD (ys:=(DG (b.set d (V.mk a.name a.ae a.key (a.aX++Zz j.ar j.name) a.aH))))<|cr<|.agg<|ja<|dT,tv⟩)⟩<|oj h▸⟨SG,_,_,(cc (Z0 (0,5) Q)<|dr _ _ _ _),vE,.refl _⟩)⟩⟩⟩⟩⟩⟩⟩⟩
def alR(a:aG)(d:GStep):=jg (lj d.ae a.name)
def bdK{a b r}(h:alR a b=K r):HD 601 [aG.X a,l4] (GStep.C b) (.bool r):=en f601<|F 1<|CS
def akl e a:=Lr (λ(d:Nat)(f:aG)=>λ_=>(alR f a).b λi=>F6 i d) e
def axY{i a r}(h:akl i a=K r):l3 413 [ui i,J8 601] (GStep.C a) r:=en f413<|sT<|je h ND (λa _=>[QF 601,Kl a]) [] (λ_ _=>[]) [] W [] W aa I qA GD (λa _ _ _ b c _ h=>.inl ⟨λ_=>.inl<|nV b<|cG h o1 bdK M λ_ h=>ER,M4⟩) Zo λ_ h=>O
def xC d a:=Ux (akl d a)
def akP{b a r}(h:xC b a=K r):HD 362 [ui b,J8 601] (GStep.C a) (.bool r):=en f362<|cG h o1 axY M λ_ h=>O
def XF(a:az)(b:az):=(S5 a.name b.name).bind λd=>some d
def acM{a b r}(h:XF a b=K r):H3 603 [az.X a,az.X b] r:=en f603<|ic 0 1<|S h Xw λ_ h=>O
def aka e l w:=DD (λ(i,k)=>HM (i<w) (y6 (λ(a,d)=>HM (a>l) (zF (0<=a/\a<QI e) d a λm=>zF (0<=P6 a/\P6 a<QI e) d (P6 a) λo=>(XF m o).b λp=>HM (p<0) (zF (0<=P6 a/\P6 a<QI e) d (P6 a) λf=>zF (0<=a/\a<QI e) d a λt=>zF (0<=a/\a<QI e) d a λa3=>Fd (0<=P6 a/\P6 a<QI e) (d.set a.toNat f) (P6 a) (P6 a,DU d a.toNat f (P6 a).toNat t)) d) d) (i,k) λv=>il (T3 i,v)) k) (T3 l,e)
def axX{v x z r}(h:aka v x z=K r):Jh 648 [.ms (0,0) 2 (v4 v),H x,H z,wm 603] [Zx 0 0 v] (.bZ []) [Zx 0 0 r]:=en f648<|lp h [0,1,2] (λs=>Wv (3,wm 603) 8 s.1) [] (λs=>[Zx 0 0 s.2]) [] W [] (λs=>[Zx 0 0 s]) I I qA (λ_⟨a6,a7⟩h=>bu h λh=>.inl<|lp h [0,1,2,8] (λs=>Wv (3,wm 603) 9 s.1) [] (λs=>[Zx 0 0 s.2]) [0,1,2,8] (λ_=>[(3,wm 603)]) [] (λs=>[Zx 0 0 s]) I I qA (λ_⟨a,w⟩h=>dO ⟨E 0 14<|qt 14 1<|E 15 2 [],[],1⟩<|bi h (λh=>kS h λb h=>⟨b.1,b.2,(a.toNat*2),Q,R h λa1 l h=>⟨a.toNat,0,_,Q,(gl l Q),kS h λd h=>⟨d.1,d.2,((Vo a).toNat * 2),Q,R h λa2 m h=>⟨(Vo a).toNat,0,_,Q,(gl m Q),S h acM λa3 h=>bu h λh=>.inl<|dO ⟨E 0 15<|qc 15 1<|E 16 1<|qt 17 1 [],[],1⟩<|kS h λe h=>⟨e.1,e.2,((Vo a).toNat * 2),Q,R h λk o h=>⟨(Vo a).toNat,0,_,Q,(gl o Q),kS h λf h=>⟨f.1,f.2,(a.toNat*2),Q,R h λa0 p h=>⟨a.toNat,0,_,Q,(gl p Q),kS h λi h=>⟨i.1,i.2,(a.toNat*2),Q,R h λa4 t h=>⟨a.toNat,0,_,Q,(gl t Q),Q,((w.set a.toNat k).map az.aq),(gI zA),tV<|kS h λj h=>⟨j.1,j.2,((Vo a).toNat * 2),Q,R h λa5 u h=>⟨(Vo a).toNat,0,_,Q,(gl u Q),Q,((DU w a.toNat k (Vo a).toNat a0).map az.aq),(gI zA),jA h⟩⟩⟩⟩⟩⟩⟩⟩⟩⟩⟩⟩) λh=>.inl ⟨nofun,λ_=>jA h⟩) λa9 h=>jA h) λa8 h=>oj h▸rN dk zS
def aj9(e:U az)(a:Int)(d:Int)(i:Int):=y6 (λ(_:Unit)=>iM (Gi d a<=12) ((aka e a d).b λf=>fS f) none) () Empty.elim
def axW{a b d e r}(h:aj9 a b d e=K r):Jh 629 [.ms (0,0) 2 (v4 a),H b,H d,H e,wm 603] [Zx 0 0 a] (.bZ []) [Zx 0 0 r]:=en f629<|R h λ_ c h=>.inr<|AC eS (λ(_:Unit)=>[(0,.ms (0,0) 2 (v4 a)),vT (H b),UW 2 d,UW 3 e,(4,wm 603),(10,.bool true),(11,.bool true)]) (λ(_:Unit)=>[Zx 0 0 a]) (λ(_:Empty)=>[]) (λ(_:Empty)=>[]) c ⟨Q,dk,Av⟩ (have f:=h;λ_ _ h=>.inl<|bj h (λh=>cG h o1 axX M λ_ h=>OF) no) λa _=>a.elim
def mt a:=CA (Mj (IntKind.u64.wrap (QI a))) λd=>aj9 a 0 (QI a) d
def agk{a r}(h:mt a=K r):Jh 602 [.ms (0,0) 2 (v4 a),wm 603] [Zx 0 0 a] (.bZ []) [Zx 0 0 r]:=en f602<|S h Sy λ_ h=>cG h o1 axW M λ_ h=>kv
end Go.Ab

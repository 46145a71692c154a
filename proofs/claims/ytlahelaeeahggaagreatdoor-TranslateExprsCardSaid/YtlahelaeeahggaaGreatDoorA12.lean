/- The logic of the walk. -/
import Derived.Lib.BitFns
import Derived.Lib.Bytealg
import Derived.Lib.Slices
import Derived.Lib.Small
import Derived.Lib.Strings
import Derived.Lib.Walk
import Derived.Test.YtlahelaeeahggaaGreatDoorProg
import Derived.Test.YtlahelaeeahggaaGreatDoorA11
set_option linter.all false
open Go Go.RowKit
namespace Go.Ab
section
set_option maxRecDepth 100000
open Go Go.RowKit Go.Proofs
abbrev s0:AV:=.an ⟨#[]⟩
abbrev i0:AV:=.int .i64 0
abbrev l0:AV:=.sl 0 .eD []
abbrev b0:AV:=.bool false
abbrev f0:AV:=.cy
abbrev p0:AV:=.dY
abbrev j0:AV:=.nilIface
abbrev lf:Tr:=.lf
abbrev du:Tr->Tr->Tr:=.nd none
abbrev iU(b:Nat)(f:amx (Nat×Nat))(z:amx AV)(c:amz):amy TE:=some ⟨z.length,b,true,.struct,f,z,c⟩
abbrev dm(b:Nat)(u:UK)(z:AV)(c:amz):amy TE:=some ⟨1,b,false,u,[],[z],c⟩
abbrev OS:amy TE:=dm 8 (.int .i64) i0 true
def tr:Tr:=(du (du (.nd OS (du (.nd (dm 8 (.pointer) p0 true) (.nd (dm 24 (.slice 33) l0 false) (du lf (.nd (iU 96 [(0,9),(1,42)] [s0,i0,s0,i0,l0,l0] false) lf (.nd (some ⟨256,256,true,.array 256 5,[],(.replicate 256 (.int .u8 0)),true⟩) lf lf))) (du (.nd (dm 8 (.func) f0 false) lf lf) (du lf (.nd (iU 16 [(0,9)] [s0] true) lf lf)))) (du (.nd (dm 8 (.func) f0 false) (.nd (dm 8 (.map 9 155) (.dq) false) lf lf) (.nd (some ⟨24,192,true,.array 8 206,[],(.replicate 24 f0),false⟩) (.nd (some ⟨26,416,true,.array 26 9,[],(.replicate 26 s0),true⟩) lf lf) lf)) lf)) (.nd (dm 24 (.slice 48) l0 false) (.nd (iU 136 [(0,3),(1,9),(2,3),(3,9),(4,30),(5,30),(6,37),(7,3),(8,3)] [i0,s0,i0,s0,l0,l0,l0,i0,i0] false) (du (du (.nd (dm 8 (.func) f0 false) lf lf) lf) lf) (du (du lf (.nd (dm 8 (.map 9 3) (.dq) false) lf lf)) (.nd (iU 152 [(0,23),(1,9),(2,9),(3,227),(4,228),(5,68),(6,229)] [l0,s0,s0,l0,l0,l0,l0] false) (.nd (iU 40 [(0,3),(1,4),(2,30)] [i0,b0,l0] false) lf lf) lf))) (.nd (iU 224 [(0,9),(1,52),(2,30),(3,53),(4,39)] [s0,l0,l0,l0,i0,s0,i0,s0,l0,l0,l0,i0,i0] false) (du (.nd (dm 8 (.func) f0 false) lf (.nd (dm 24 (.slice 5) l0 false) lf lf)) (du lf (.nd (dm 8 (.pointer) p0 true) lf lf))) (du (du lf (.nd OS lf lf)) lf)))) (.nd (dm 16 (.string) s0 true) (.nd (iU 8 [(0,17)] [p0] true) (.nd (iU 160 [(0,3),(1,9),(2,9),(3,9),(4,30),(5,33)] [i0,s0,s0,s0,l0,i0,i0,s0,l0,l0] false) lf (du (du (.nd (dm 8 (.func) f0 false) (.nd (dm 8 (.func) f0 false) lf lf) lf) lf) (.nd (dm 24 (.slice 501) l0 false) lf lf))) (.nd (iU 40 [(0,9),(1,49)] [s0,l0] false) (.nd (dm 24 (.slice 121) l0 false) (.nd (dm 8 (.func) f0 false) (.nd (dm 8 (.func) f0 false) (.nd (dm 8 (.func) f0 false) lf lf) lf) (.nd (some ⟨24,24,true,.array 24 5,[],(.replicate 24 (.int .u8 0)),true⟩) lf lf)) lf) (du lf (.nd (dm 8 (.func) f0 false) lf lf)))) (.nd (iU 48 [(0,24),(1,25)] [l0,l0] false) (du (du (du (.nd (dm 8 (.func) f0 false) lf lf) lf) (.nd (dm 8 (.func) f0 false) lf lf)) (du (du lf (.nd (dm 4 (.int .u32) (.int .u32 0) true) lf lf)) lf)) (.nd (iU 584 [(0,3),(1,9),(2,51),(4,55),(17,56),(18,4),(19,42),(24,39),(33,57),(34,3),(35,3),(36,3)] [i0,s0,s0,l0,s0,l0,l0,l0,i0,s0,i0,s0,l0,l0,l0,i0,i0,l0,b0,i0,s0,i0,l0,l0,i0,s0,i0,s0,l0,l0,l0,i0,i0,l0,i0,i0,i0] false) (du (.nd (iU 280 [(0,55),(13,9),(14,4),(15,152),(16,153)] [s0,l0,l0,l0,i0,s0,i0,s0,l0,l0,l0,i0,i0,s0,b0,l0,f0] false) (.nd (dm 24 (.slice 61) l0 false) (.nd (iU 264 [(0,266),(6,9),(7,39),(16,30),(17,30)] [p0,s0,s0,f0,f0,f0,s0,i0,s0,i0,s0,l0,l0,l0,i0,i0,l0,l0] false) lf lf) lf) lf) lf) (du (.nd (dm 8 (.pointer) p0 true) (.nd (dm 8 (.func) f0 false) lf lf) lf) (.nd (dm 8 (.func) f0 false) lf lf)))))) (.nd (dm 1 (.int .u8) (.int .u8 0) true) (.nd (dm 16 (.string) s0 true) (.nd (dm 8 (.pointer) p0 true) (.nd (iU 80 [(0,3),(1,3),(2,9),(3,30),(4,31)] [i0,i0,s0,l0,l0] false) (du (du (.nd (dm 8 (.func) f0 false) (.nd (dm 8 (.func) f0 false) lf lf) lf) lf) (du lf (.nd (iU 2 [(0,5),(1,5)] [.int .u8 0,.int .u8 0] true) lf lf))) (.nd (dm 8 (.pointer) p0 true) (.nd (iU 280 [(0,27),(2,27),(4,35),(14,30)] [l0,l0,l0,l0,i0,s0,s0,s0,l0,i0,i0,s0,l0,l0,l0] false) lf lf) lf)) (.nd (dm 24 (.slice 169) l0 false) (du (.nd (iU 288 [(0,27),(2,27),(4,35),(14,143),(15,30)] [l0,l0,l0,l0,i0,s0,s0,s0,l0,i0,i0,s0,l0,l0,.dq,l0] false) lf lf) (.nd (dm 24 (.slice 25) l0 false) (.nd (dm 24 (.slice 4) l0 false) lf lf) lf)) lf)) (.nd (dm 24 (.slice 55) l0 false) (du lf (.nd (iU 328 [(0,3),(1,9),(2,9),(3,39),(12,39),(21,3),(22,3)] [i0,s0,s0,i0,s0,i0,s0,l0,l0,l0,i0,i0,i0,s0,i0,s0,l0,l0,l0,i0,i0,i0,i0] false) (.nd (iU 104 [(0,9),(1,4),(2,42)] [s0,b0,i0,s0,i0,l0,l0] false) lf lf) (du (.nd (some ⟨5,5,true,.array 5 4,[],[b0,b0,b0,b0,b0],true⟩) lf lf) lf))) (.nd (dm 24 (.slice 105) l0 false) (du (.nd (dm 8 (.func) f0 false) (du (.nd (dm 8 (.pointer) p0 true) lf lf) lf) lf) (.nd (dm 8 (.func) f0 false) lf lf)) (.nd (iU 144 [(0,9),(1,9),(2,40),(3,3),(4,42)] [s0,s0,l0,i0,i0,s0,i0,l0,l0] false) lf (du (.nd (dm 8 (.int .u64) (.int .u64 0) true) lf lf) lf))))) (du (.nd (dm 4 (.int .i32) (.int .i32 0) true) (.nd (dm 24 (.slice 39) l0 false) (du (.nd (dm 24 (.slice 191) l0 false) (.nd (dm 8 (.pointer) p0 true) (.nd (dm 8 (.pointer) p0 true) lf lf) lf) (.nd (dm 8 (.map 3 4) (.dq) false) lf lf)) lf) (du lf (.nd (dm 24 (.slice 502) l0 false) lf lf))) (.nd (dm 24 (.slice 78) l0 false) (.nd (iU 120 [(0,22),(1,3),(2,9),(3,24),(4,25),(5,83)] [l0,i0,s0,l0,l0,l0] false) lf (.nd (iU 48 [(0,9),(1,9),(2,9)] [s0,s0,s0] true) lf (.nd (some ⟨32,32,true,.array 32 5,[],(.replicate 32 (.int .u8 0)),true⟩) lf lf))) (du lf (du lf (.nd (iU 120 [(0,9),(1,3),(2,3),(3,9),(4,4),(5,234)] [s0,i0,i0,s0,b0,i0,s0,s0,s0,i0] true) lf lf))))) (du (du (du (du (.nd (iU 64 [(0,3),(1,9),(2,9),(3,9),(4,3)] [i0,s0,s0,s0,i0] true) lf lf) lf) lf) lf) (.nd OS (.nd (dm 8 (.pointer) p0 true) lf (du lf (.nd (dm 8 (.pointer) p0 true) lf lf))) (du (.nd (iU 24 [(0,9),(1,61)] [s0,i0] true) lf lf) (du (.nd (dm 8 (.func) f0 false) lf lf) lf))))))) (.nd OS (.nd (dm 1 (.bool) b0 true) (.nd (iU 24 [(0,2),(1,3),(2,4),(3,6)] [i0,i0,b0,.int .u8 0] true) (.nd (dm 8 (.pointer) p0 true) (du (.nd (dm 8 (.func) f0 false) (du (du (.nd (dm 8 (.map 9 31) (.dq) false) lf lf) lf) lf) (.nd (dm 8 (.func) f0 false) (.nd (dm 8 (.func) f0 false) (.nd (dm 8 (.func) f0 false) lf lf) lf) lf)) (du (du (du (.nd (dm 8 (.func) f0 false) lf lf) lf) lf) lf)) (.nd (iU 40 [(0,9),(1,46)] [s0,l0] false) (.nd (dm 8 (.pointer) p0 true) lf (.nd (dm 8 (.pointer) p0 true) lf lf)) (.nd (iU 64 [(0,9),(1,3),(2,3),(3,3),(4,30)] [s0,i0,i0,i0,l0] false) lf (du lf (.nd (dm 8 (.pointer) p0 true) lf lf))))) (.nd (dm 24 (.slice 51) l0 false) (.nd (dm 24 (.slice 42) l0 false) (du (du (.nd (dm 8 (.func) f0 false) lf lf) lf) (du (.nd (dm 8 (.func) f0 false) lf lf) (.nd (dm 8 (.pointer) p0 true) lf lf))) (du (du (.nd (dm 8 (.func) f0 false) (.nd (dm 8 (.pointer) p0 true) lf lf) lf) lf) lf)) (.nd (dm 24 (.slice 116) l0 false) (.nd (dm 8 (.pointer) p0 true) (.nd (dm 24 (.slice 213) l0 false) (du (.nd (dm 8 (.func) f0 false) lf lf) lf) lf) lf) lf))) (.nd (dm 8 (.int .u64) (.int .u64 0) true) (.nd (dm 16 (.iface) j0 true) (du (.nd (dm 24 (.slice 112) l0 false) (du (.nd (dm 8 (.pointer) p0 true) lf lf) lf) (du lf (.nd (dm 8 (.int .u64) (.int .u64 0) true) lf lf))) (du lf (.nd (dm 24 (.slice 234) l0 false) (.nd (dm 24 (.slice 359) l0 false) lf lf) lf))) (.nd (dm 24 (.slice 74) l0 false) (du (.nd (some ⟨8,64,true,.array 8 147,[],(.replicate 8 f0),false⟩) lf (.nd (dm 8 (.int .u64) (.int .u64 0) true) lf lf)) (du (.nd (iU 248 [(0,9),(1,39),(10,30),(11,30),(12,30),(13,30)] [s0,i0,s0,i0,s0,l0,l0,l0,i0,i0,l0,l0,l0,l0] false) lf lf) lf)) (.nd (iU 264 [(0,9),(1,4),(2,42),(7,4),(8,39),(17,3),(18,3)] [s0,b0,i0,s0,i0,l0,l0,b0,i0,s0,i0,s0,l0,l0,l0,i0,i0,i0,i0] false) (du (.nd (dm 8 (.func) f0 false) lf lf) lf) (du (.nd (dm 8 (.func) f0 false) lf lf) lf)))) (du (du (du (du (.nd (dm 8 (.pointer) p0 true) lf lf) (.nd (dm 16 (.iface) j0 true) lf lf)) (.nd (dm 8 (.func) f0 false) lf lf)) (.nd (dm 24 (.slice 30) l0 false) (du (.nd (dm 24 (.slice 242) l0 false) lf lf) (.nd (some ⟨65,65,true,.array 65 5,[],(.replicate 65 (.int .u8 0)),true⟩) lf lf)) lf)) (du (du lf (du lf (.nd (dm 8 (.pointer) p0 true) lf lf))) (du lf (du lf (.nd (iU 16 [(0,3),(1,3)] [i0,i0] true) lf lf))))))) (.nd (dm 1 (.int .u8) (.int .u8 0) true) (.nd (dm 16 (.string) s0 true) (du (du (du lf (du (.nd (dm 8 (.func) f0 false) lf lf) (.nd (some ⟨32,32,true,.array 16 449,[],(.replicate 32 (.int .u8 0)),true⟩) lf lf))) (du (.nd (dm 8 (.func) f0 false) lf lf) (.nd (dm 8 (.pointer) p0 true) lf (.nd (dm 8 (.pointer) p0 true) lf lf)))) (du (du lf (du (.nd (dm 8 (.pointer) p0 true) lf lf) (.nd (some ⟨256,256,true,.array 256 4,[],(.replicate 256 b0),true⟩) lf lf))) (du lf (.nd (iU 32 [(0,3),(1,9),(2,3)] [i0,s0,i0] true) lf (.nd (iU 88 [(0,61),(1,9),(2,3),(3,3),(4,30),(5,31)] [i0,s0,i0,i0,l0,l0] false) lf lf))))) (du (.nd (iU 80 [(0,3),(1,9),(2,3),(3,30),(4,40)] [i0,s0,i0,l0,l0] false) (.nd (iU 96 [(0,9),(1,42)] [s0,i0,s0,i0,l0,l0] false) (du (.nd (iU 64 [(0,261),(1,9),(2,9),(3,262),(4,263),(5,264)] [p0,s0,s0,f0,f0,f0] false) lf lf) lf) (.nd (dm 8 (.func) f0 false) (.nd (dm 24 (.slice 269) l0 false) lf lf) lf)) (du (.nd (dm 8 (.func) f0 false) (du (.nd (iU 40 [(0,552),(1,9),(2,9)] [p0,s0,s0] true) lf lf) lf) (.nd (some ⟨20,160,true,.array 20 404,[],(.replicate 20 (.int .u64 0)),true⟩) lf lf)) (.nd (iU 64 [(0,3),(1,9),(2,9),(3,9),(4,3)] [i0,s0,s0,s0,i0] true) lf (.nd (dm 1 (.int .u8) (.int .u8 0) true) lf lf)))) (du (.nd (iU 40 [(0,22),(1,3),(2,3)] [l0,i0,i0] false) lf (du lf (.nd (some ⟨24,384,true,.array 24 9,[],(.replicate 24 s0),true⟩) lf lf))) (du (du lf (.nd (dm 8 (.pointer) p0 true) lf lf)) lf)))) (.nd (iU 24 [(0,9),(1,12)] [s0,.int .u64 0] true) (.nd (dm 24 (.slice 3) l0 false) (du (du (du (.nd (dm 8 (.func) f0 false) lf lf) (.nd (dm 8 (.map 3 30) (.dq) false) lf lf)) (du (.nd (dm 8 (.func) f0 false) lf lf) lf)) lf) (du (du (du (du (.nd (dm 24 (.slice 20) l0 false) lf lf) lf) lf) (du lf (.nd (some ⟨64,64,true,.array 64 5,[],(.replicate 64 (.int .u8 0)),true⟩) lf lf))) (du (du lf (.nd (dm 8 (.func) f0 false) lf lf)) (du (.nd (iU 72 [(0,268),(1,269)] [p0,i0,s0,s0,s0,i0] true) lf lf) (.nd (some ⟨2,32,true,.array 2 9,[],[s0,s0],true⟩) lf lf))))) (.nd (dm 24 (.slice 9) l0 false) (.nd (dm 24 (.slice 59) l0 false) (.nd (iU 32 [(0,9),(1,9)] [s0,s0] true) lf (.nd (iU 24 [(0,202),(1,203),(2,204)] [f0,f0,f0] false) lf (.nd (iU 48 [(0,9),(1,9),(2,396)] [s0,s0,j0] true) lf lf))) (du (du lf (.nd OS lf lf)) lf)) (du (du (.nd (dm 8 (.func) f0 false) lf lf) (du (.nd (dm 8 (.func) f0 false) lf lf) lf)) (du (du (.nd (dm 8 (.func) f0 false) lf lf) lf) lf)))))))
def Ll:amx amw:=[⟨#[97,110,100]⟩,⟨#[97,115]⟩,⟨#[99,104,101,99,107]⟩,⟨#[100,101,108,101,116,101]⟩,⟨#[101,108,115,101]⟩,⟨#[102,97,108,115,101]⟩,⟨#[102,117,110]⟩,⟨#[105,102]⟩,⟨#[105,110]⟩,⟨#[105,110,115,101,114,116]⟩,⟨#[107,101,121]⟩,⟨#[108,101,116]⟩,⟨#[109,97,116,99,104]⟩,⟨#[110,111,116]⟩,⟨#[111,114]⟩,⟨#[112,114,111,99]⟩,⟨#[114,101,102]⟩,⟨#[115,101,116]⟩,⟨#[116,97,98,108,101]⟩,⟨#[116,104,101,110]⟩,⟨#[116,111]⟩,⟨#[116,114,117,101]⟩,⟨#[116,121,112,101]⟩,⟨#[117,112,100,97,116,101]⟩,⟨#[119,104,101,114,101]⟩,⟨#[119,105,116,104]⟩]
def Y5:amx AV:=Ll.map AV.an
def Lm:(Ll.map AV.an).flatMap AV.cells=Y5:=rfl
def Ln:((Ll.map AV.an).all λy=>Nat.beq y.cells.length 1&&y.cells.all AV.dV)=true:=rfl
def ST:amx amw:=[⟨#[61,61]⟩,⟨#[33,61]⟩,⟨#[60,61]⟩,⟨#[60,45]⟩,⟨#[45,62]⟩,⟨#[43,43]⟩,⟨#[60]⟩,⟨#[62]⟩,⟨#[61]⟩,⟨#[43]⟩,⟨#[45]⟩,⟨#[42]⟩,⟨#[40]⟩,⟨#[41]⟩,⟨#[123]⟩,⟨#[125]⟩,⟨#[91]⟩,⟨#[93]⟩,⟨#[44]⟩,⟨#[46]⟩,⟨#[58]⟩,⟨#[124]⟩,⟨#[59]⟩,⟨#[63]⟩]
def Z4:amx AV:=ST.map AV.an
inductive R where
 |e (n:Int)
 |b (x:Bool)
def R.ty:R->Nat
 |.e _=>61
 |.b _=>4
def R.val:R->AV
 |.e n=>.int .i64 n
 |.b x=>.bool x
def R.av(x:R):AV:=.iface x.ty x.val
instance:Pl R.av:=⟨λx=>by cases x<;>trivial⟩
instance {S:amx Nm}(x:R):UN S x.av:=⟨by cases x<;>trivial⟩
def R.Y6:R->amz->amz
 |.e _,_=>false
 |.b x,c=>x==c
def R.bZ(x:R)(c:amz):OJ tr.find x.av (.iface 4 (.bool c)) (x.Y6 c):=by
 cases x with
 |e n=>exact .inl ⟨61,4,_,_,rfl,rfl,by decide,rfl⟩
 |b x=>exact .inr ⟨4,x,c,_,rfl,rfl,rfl,rfl,rfl,rfl⟩
def R.SU:R->amy Int
 |.e n=>some n
 |.b _=>none
def R.Ui{x:R}{n:Int}(h:x.SU=some n):x.av= .iface 61 (.int .i64 n):=by
 cases x with
 |e m=>simp only[R.SU,amT]at h;subst h;rfl
 |b _=>simp[R.SU]at h
def Uj:amx AV:=[.fn (.func 526) [] [],.any,.any,.fn (.func 529) [] [],.any,.any,.fn (.func 532) [] [],.any,.any,.fn (.func 535) [] [],.any,.any,.fn (.func 538) [] [],.any,.any,.fn (.func 541) [] [],.any,.any,.fn (.func 544) [] [],.any,.any,.fn (.func 547) [] [],.any,.any]
def gE:GE:=λk=>match k with
 |0=>some Uj
 |1=>some Y5
 |9=>some Z4
 |_=>none
def dX:tB Tryz.prog tr.find:=⟨Tr.tt (by decide+kernel),by decide+kernel⟩
end
section
variable {α β:Type}{a b x y:AV}{ws bs xs ys:amx AV}{o p:bk}{i k n m:Nat}{t:iA}{tm tn:Tm}{l q:HL}{j:Nm}
class Eb(a b:Bool):Prop where o:a=b
instance (a:amz):Eb a a:=⟨rfl⟩
class SA(x y:AV):Prop where o:Sub x y
class SL(xs ys:List AV):Prop where o:bC xs ys
class SO(o p:bk):Prop where o:iL o p
instance [h:SL xs ys]:SA (.sl n t xs) (.sl n .no ys):=⟨ls h.o⟩
instance [h:SL xs ys]:SA (.sl n t xs) (.sl n t ys):=⟨lt h.o⟩
instance:SA (.sl n t []) (.sl m t []):=⟨nf⟩
instance {f:α->AV}:SA (.sl n t []) (.sl m .no (([]:amx α).map f)):=⟨nl⟩
instance {f:α->AV}:SA (.sl n t []) (.sl m t (([]:amx α).map f)):=⟨nf⟩
instance {f:α->AV}{g:β->AV}:SA (.sl n t (([]:amx α).map f)) (.sl m .no (([]:amx β).map g)):=⟨nl⟩
instance {k:IntKind}:SA (.int k 0) (.int k ((0:Nat):Int)):=⟨.refl _⟩
instance {b c:amz}[h:SA (.bool c) x]:SA (.bool (if false=true then b else c)) x:=⟨h.o⟩
instance {b c:amz}[h:SA (.bool b) x]:SA (.bool (if true=true then b else c)) x:=⟨h.o⟩
instance [h:SL xs ys]:SA (.agg xs) (.agg ys):=⟨.agg h.o⟩
instance [h:SL xs ys]:SA (.bR xs) (.bR ys):=⟨.bR h.o⟩
instance [h:SL xs ys]:SA (.aQ xs n) (.aQ ys n):=⟨.aQ h.o⟩
instance:SA x x:=⟨.refl x⟩
instance {f:α->AV}{e:α}{es:amx α}[h:SA x (f e)][k:SL xs (es.map f)]:SL (x::xs) ((e::es).map f):=⟨.cons h.o k.o⟩
instance {f:α->AV}:SL [] (([]:amx α).map f):=⟨.refl _⟩
instance {f:α->AV}{us vs:amx α}[h:SL xs (us.map f)][k:SL ys (vs.map f)]:SL (xs++ys) ((us++vs).map f):=⟨ap h.o k.o⟩
instance [h:SA x y][k:SL xs ys]:SL (x::xs) (y::ys):=⟨.cons h.o k.o⟩
instance:SL xs xs:=⟨.refl xs⟩
instance [h:SL xs ys]:SO (.cells xs) (.cells ys):=⟨.cells h.o⟩
instance [h:SL xs ys]:SO (.br n xs) (.br n ys):=⟨.br h.o⟩
instance [h:SL xs ys]:SO (.tail n xs.length) (.tail n ys.length):=⟨lo h.o⟩
instance:SO o o:=⟨.refl o⟩
class LT(tm:Tm)(i:Nat)(x:outParam AV):Prop where o:get tm i=x
instance [e:Eb (Nat.beq k i) false][h:LT tm i x]:LT ((k,y)::tm) i x:=⟨by simp only[get,e.o];exact h.o⟩
instance:LT ((i,x)::tm) i x:=⟨by simp[get]⟩
class LH(l:HL)(j:Nm)(o:outParam bk):Prop where o:lk l j=some o
instance {c d:Nat}[e:Eb (Nat.beq k d) false][h:LH l (c,d) o]:LH (((i,k),p)::l) (c,d) o:=⟨by simp only[lk,qL,e.o,Bool.and_false];exact h.o⟩
instance:LH ((j,o)::l) j o:=⟨by simp[lk,gW.2 rfl]⟩
def wm{j i:Nm}:lk (cR j o l) i=if i=j then some o else lk l i:=by rw[<-cz,<-bm,<-cz];simp only[cE]
instance:LH (cR j o l) j o:=⟨by rw[wm,amH rfl]⟩
def OT{c d:Nat}(e:Nat.beq i c=false\/Nat.beq k d=false):(i,k)≠(c,d):=λh=>by
 obtain⟨rfl,rfl⟩:=Prod.mk.inj h;rcases e with e|e<;>simp at e
instance {c d:Nat}[e:Eb (Nat.beq k d) false][h:LH l (i,k) p]:LH (cR (c,d) o l) (i,k) p:=⟨by rw[wm,amL (OT (.inr e.o))];exact h.o⟩
class NS(xs:List AV)(r:outParam (List AV)):Prop where o:xs=r
instance:NS (x::xs) (x::xs):=⟨rfl⟩
instance [h:NS xs (x::ys)]:NS (dN xs 0 y) (y::ys):=⟨by rw[h.o];rfl⟩
instance [h:NS xs (x::ys)][k:NS (dN ys n y) ws]:NS (dN xs (n+1) y) (x::ws):=⟨by rw[h.o,<-k.o];rfl⟩
instance [h:NS (dN xs n y) ws][k:SL ws ys]:SL (dN xs n y) ys:=⟨by rw[h.o];exact k.o⟩
class KT(tm tn:Tm):Prop where o:nj tm tn
instance:KT tm []:=⟨trivial⟩
instance [h:LT tm i x][k:SA x y][r:KT tm tn]:KT tm ((i,y)::tn):=⟨by rw[h.o];exact k.o,r.o⟩
class KH(l q:HL):Prop where o:fS l q
instance:KH l []:=⟨trivial⟩
instance [h:LH l j p][k:SO p o][r:KH l q]:KH l ((j,o)::q):=⟨by rw[h.o];exact k.o,r.o⟩
class Rm(i:Nat):Prop where o:i+1<=4611686018427387904
instance [h:Rm i]:SA (.int .i64 (IntKind.i64.wrap ((i:Int)+1))) (.int .i64 ((i+1:Nat):Int)):=⟨wi h.o⟩
end
structure ai where
 aj:Int
 name:ByteArray
 n:Int
 aF:List ByteArray
 aG:List ai
mutual
def ai.ak:ai->AV
 |⟨a0,a1,a2,a3,a4⟩=>.agg [.int .i64 a0,.an a1,.int .i64 a2,.sl 1 .no (a3.map AV.an),.sl 5 .no (ai.iH a4)]
def ai.iH:amx ai->amx AV
 | []=>[]
 |x::xs=>ai.ak x::ai.iH xs
end
abbrev ai.T(e:ai)(r:amx AV):amx AV:=.int .i64 e.aj::.an e.name::.int .i64 e.n::.sl 1 .no (e.aF.map AV.an)::.sl 5 .no (e.aG.map ai.ak)::r
def ai.C(e:ai):amx AV:=e.T []
def ai.X(e:ai):AV:=.agg e.C
def ai.hD:(xs:amx ai)->ai.iH xs=xs.map ai.ak
 | []=>rfl
 |x::xs=>by simp[ai.iH,ai.hD xs]
def ai.bq:(e:ai)->e.ak=e.X
 |⟨a0,a1,a2,a3,a4⟩=>by simp[ai.ak,ai.X,ai.C,ai.T,ai.hD]
mutual
theorem ai.gq {S:amx Nm}:(e:ai)->UN S e.ak
 |⟨a0,a1,a2,a3,a4⟩=>by unfold ai.ak;have:=ai.fG (S:=S) a4;infer_instance
theorem ai.fG {S:amx Nm}:(xs:amx ai)->dM S (ai.iH xs)
 | []=>by unfold ai.iH;infer_instance
 |x::xs=>by unfold ai.iH;have:=ai.gq (S:=S) x;have:=ai.fG (S:=S) xs;infer_instance
end
def ai.fb{x:AV}{e:ai}(h:Sub x e.X):Sub x e.ak:=by rw[ai.bq];exact h
instance:Pl ai.ak:=⟨λe=>cW (e.gq (S:=[])).out⟩
instance {xs:amx AV}{e:ai}[h:SL xs (e.T [])]:SA (.agg xs) e.ak:=⟨ai.fb (.agg h.o)⟩
instance {S:amx Nm}(e:ai):dM S e.C:=inferInstanceAs (dM S (e.T []))
instance {S:amx Nm}(e:ai):UN S e.X:=inferInstanceAs (UN S (.agg e.C))
instance {xs:amx AV}{e:ai}[h:SL xs (e.T [])]:SL xs e.C:=⟨h.o⟩
instance {xs:amx AV}{e:ai}[h:SL (e.T []) xs]:SL e.C xs:=⟨h.o⟩
instance {xs:amx AV}{e:ai}[h:SL xs (e.T [])]:SA (.agg xs) e.X:=⟨.agg h.o⟩
structure aB where
 name:ByteArray
 has:Bool
 arg:ai
abbrev aB.T(e:aB)(r:amx AV):amx AV:=.an e.name::.bool e.has::e.arg.T (r)
def aB.C(e:aB):amx AV:=e.T []
def aB.X(e:aB):AV:=.agg e.C
abbrev aB.ak:aB->AV:=aB.X
instance {S:amx Nm}(e:aB):dM S e.C:=inferInstanceAs (dM S (e.T []))
instance {S:amx Nm}(e:aB):UN S e.X:=inferInstanceAs (UN S (.agg e.C))
instance:Pl aB.X:=⟨λe=>cW (inferInstance:UN [] e.X).out⟩
instance {xs:amx AV}{e:aB}[h:SL xs (e.T [])]:SL xs e.C:=⟨h.o⟩
instance {xs:amx AV}{e:aB}[h:SL (e.T []) xs]:SL e.C xs:=⟨h.o⟩
instance {xs:amx AV}{e:aB}[h:SL xs (e.T [])]:SA (.agg xs) e.X:=⟨.agg h.o⟩
structure ar where
 name:ByteArray
 bG:List aB
abbrev ar.T(e:ar)(r:amx AV):amx AV:=.an e.name::.sl 7 .no (e.bG.map aB.ak)::r
def ar.C(e:ar):amx AV:=e.T []
def ar.X(e:ar):AV:=.agg e.C
abbrev ar.ak:ar->AV:=ar.X
instance {S:amx Nm}(e:ar):dM S e.C:=inferInstanceAs (dM S (e.T []))
instance {S:amx Nm}(e:ar):UN S e.X:=inferInstanceAs (UN S (.agg e.C))
instance:Pl ar.X:=⟨λe=>cW (inferInstance:UN [] e.X).out⟩
instance {xs:amx AV}{e:ar}[h:SL xs (e.T [])]:SA (.agg xs) e.X:=⟨.agg h.o⟩
structure ae where
 name:ByteArray
 bx:ai
abbrev ae.T(e:ae)(r:amx AV):amx AV:=.an e.name::e.bx.T (r)
def ae.C(e:ae):amx AV:=e.T []
def ae.X(e:ae):AV:=.agg e.C
abbrev ae.ak:ae->AV:=ae.X
instance {S:amx Nm}(e:ae):dM S e.C:=inferInstanceAs (dM S (e.T []))
instance {S:amx Nm}(e:ae):UN S e.X:=inferInstanceAs (UN S (.agg e.C))
instance:Pl ae.X:=⟨λe=>cW (inferInstance:UN [] e.X).out⟩
instance {xs:amx AV}{e:ae}[h:SL xs (e.T [])]:SL xs e.C:=⟨h.o⟩
instance {xs:amx AV}{e:ae}[h:SL xs (e.T [])]:SA (.agg xs) e.X:=⟨.agg h.o⟩
structure ax where
 aw:ByteArray
 aD:ByteArray
abbrev ax.T(e:ax)(r:amx AV):amx AV:=.an e.aw::.an e.aD::r
def ax.C(e:ax):amx AV:=e.T []
def ax.X(e:ax):AV:=.agg e.C
abbrev ax.ak:ax->AV:=ax.X
instance {S:amx Nm}(e:ax):dM S e.C:=inferInstanceAs (dM S (e.T []))
instance {S:amx Nm}(e:ax):UN S e.X:=inferInstanceAs (UN S (.agg e.C))
instance:Pl ax.X:=⟨λe=>cW (inferInstance:UN [] e.X).out⟩
instance {xs:amx AV}{e:ax}[h:SL xs (e.T [])]:SL xs e.C:=⟨h.o⟩
instance {xs:amx AV}{e:ax}[h:SL xs (e.T [])]:SA (.agg xs) e.X:=⟨.agg h.o⟩
structure aa where
 aj:Int
 name:ByteArray
 n:Int
 s:ByteArray
 aF:List ByteArray
 binds:List ByteArray
 aG:List aa
 pos:Int
 ef:Int
mutual
def aa.ak:aa->AV
 |⟨a0,a1,a2,a3,a4,a5,a6,a7,a8⟩=>.agg [.int .i64 a0,.an a1,.int .i64 a2,.an a3,.sl 1 .no (a4.map AV.an),.sl 1 .no (a5.map AV.an),.sl 9 .no (aa.iH a6),.int .i64 a7,.int .i64 a8]
def aa.iH:amx aa->amx AV
 | []=>[]
 |x::xs=>aa.ak x::aa.iH xs
end
abbrev aa.T(e:aa)(r:amx AV):amx AV:=.int .i64 e.aj::.an e.name::.int .i64 e.n::.an e.s::.sl 1 .no (e.aF.map AV.an)::.sl 1 .no (e.binds.map AV.an)::.sl 9 .no (e.aG.map aa.ak)::.int .i64 e.pos::.int .i64 e.ef::r
def aa.C(e:aa):amx AV:=e.T []
def aa.X(e:aa):AV:=.agg e.C
def aa.hD:(xs:amx aa)->aa.iH xs=xs.map aa.ak
 | []=>rfl
 |x::xs=>by simp[aa.iH,aa.hD xs]
def aa.bq:(e:aa)->e.ak=e.X
 |⟨a0,a1,a2,a3,a4,a5,a6,a7,a8⟩=>by simp[aa.ak,aa.X,aa.C,aa.T,aa.hD]
mutual
theorem aa.gq {S:amx Nm}:(e:aa)->UN S e.ak
 |⟨a0,a1,a2,a3,a4,a5,a6,a7,a8⟩=>by unfold aa.ak;have:=aa.fG (S:=S) a6;infer_instance
theorem aa.fG {S:amx Nm}:(xs:amx aa)->dM S (aa.iH xs)
 | []=>by unfold aa.iH;infer_instance
 |x::xs=>by unfold aa.iH;have:=aa.gq (S:=S) x;have:=aa.fG (S:=S) xs;infer_instance
end
def aa.fb{x:AV}{e:aa}(h:Sub x e.X):Sub x e.ak:=by rw[aa.bq];exact h
instance:Pl aa.ak:=⟨λe=>cW (e.gq (S:=[])).out⟩
instance {xs:amx AV}{e:aa}[h:SL xs (e.T [])]:SA (.agg xs) e.ak:=⟨aa.fb (.agg h.o)⟩
instance {S:amx Nm}(e:aa):dM S e.C:=inferInstanceAs (dM S (e.T []))
instance {S:amx Nm}(e:aa):UN S e.X:=inferInstanceAs (UN S (.agg e.C))
instance {xs:amx AV}{e:aa}[h:SL xs (e.T [])]:SL xs e.C:=⟨h.o⟩
instance {xs:amx AV}{e:aa}[h:SL (e.T []) xs]:SL e.C xs:=⟨h.o⟩
instance {xs:amx AV}{e:aa}[h:SL xs (e.T [])]:SA (.agg xs) e.X:=⟨.agg h.o⟩
structure ac where
 name:ByteArray
 af:List ae
 key:List ByteArray
 aY:List ax
 aC:aa
abbrev ac.T(e:ac)(r:amx AV):amx AV:=.an e.name::.sl 6 .no (e.af.map ae.ak)::.sl 1 .no (e.key.map AV.an)::.sl 2 .no (e.aY.map ax.ak)::e.aC.T (r)
def ac.C(e:ac):amx AV:=e.T []
def ac.X(e:ac):AV:=.agg e.C
abbrev ac.ak:ac->AV:=ac.X
instance {S:amx Nm}(e:ac):dM S e.C:=inferInstanceAs (dM S (e.T []))
instance {S:amx Nm}(e:ac):UN S e.X:=inferInstanceAs (UN S (.agg e.C))
instance:Pl ac.X:=⟨λe=>cW (inferInstance:UN [] e.X).out⟩
instance {xs:amx AV}{e:ac}[h:SL xs (e.T [])]:SL xs e.C:=⟨h.o⟩
instance {xs:amx AV}{e:ac}[h:SL (e.T []) xs]:SL e.C xs:=⟨h.o⟩
instance {xs:amx AV}{e:ac}[h:SL xs (e.T [])]:SA (.agg xs) e.X:=⟨.agg h.o⟩
structure bE where
 name:ByteArray
 me:Bool
 bx:ai
 has:Bool
 default:aa
 pos:Int
 ef:Int
abbrev bE.T(e:bE)(r:amx AV):amx AV:=.an e.name::.bool e.me::e.bx.T (.bool e.has::e.default.T (.int .i64 e.pos::.int .i64 e.ef::r))
def bE.C(e:bE):amx AV:=e.T []
def bE.X(e:bE):AV:=.agg e.C
abbrev bE.ak:bE->AV:=bE.X
instance {S:amx Nm}(e:bE):dM S e.C:=inferInstanceAs (dM S (e.T []))
instance {S:amx Nm}(e:bE):UN S e.X:=inferInstanceAs (UN S (.agg e.C))
instance:Pl bE.X:=⟨λe=>cW (inferInstance:UN [] e.X).out⟩
instance {xs:amx AV}{e:bE}[h:SL xs (e.T [])]:SL xs e.C:=⟨h.o⟩
instance {xs:amx AV}{e:bE}[h:SL (e.T []) xs]:SL e.C xs:=⟨h.o⟩
instance {xs:amx AV}{e:bE}[h:SL xs (e.T [])]:SA (.agg xs) e.X:=⟨.agg h.o⟩
structure bO where
 aj:Int
 aD:ByteArray
 bind:ByteArray
 cond:aa
 value:aa
 pos:Int
 ef:Int
abbrev bO.T(e:bO)(r:amx AV):amx AV:=.int .i64 e.aj::.an e.aD::.an e.bind::e.cond.T (e.value.T (.int .i64 e.pos::.int .i64 e.ef::r))
def bO.C(e:bO):amx AV:=e.T []
def bO.X(e:bO):AV:=.agg e.C
abbrev bO.ak:bO->AV:=bO.X
instance {S:amx Nm}(e:bO):dM S e.C:=inferInstanceAs (dM S (e.T []))
instance {S:amx Nm}(e:bO):UN S e.X:=inferInstanceAs (UN S (.agg e.C))
instance:Pl bO.X:=⟨λe=>cW (inferInstance:UN [] e.X).out⟩
instance {xs:amx AV}{e:bO}[h:SL xs (e.T [])]:SL xs e.C:=⟨h.o⟩
instance {xs:amx AV}{e:bO}[h:SL xs (e.T [])]:SA (.agg xs) e.X:=⟨.agg h.o⟩
structure bh where
 aj:Int
 name:ByteArray
 sum:ar
 aD:ac
 params:List bE
 me:Bool
 bx:ai
 body:aa
 mf:List bO
 oV:Int
 pos:Int
 ef:Int
abbrev bh.T(e:bh)(r:amx AV):amx AV:=.int .i64 e.aj::.an e.name::e.sum.T (e.aD.T (.sl 19 .no (e.params.map bE.ak)::.bool e.me::e.bx.T (e.body.T (.sl 23 .no (e.mf.map bO.ak)::.int .i64 e.oV::.int .i64 e.pos::.int .i64 e.ef::r))))
def bh.C(e:bh):amx AV:=e.T []
def bh.X(e:bh):AV:=.agg e.C
abbrev bh.ak:bh->AV:=bh.X
instance {S:amx Nm}(e:bh):dM S e.C:=inferInstanceAs (dM S (e.T []))
instance {S:amx Nm}(e:bh):UN S e.X:=inferInstanceAs (UN S (.agg e.C))
instance:Pl bh.X:=⟨λe=>cW (inferInstance:UN [] e.X).out⟩
instance {xs:amx AV}{e:bh}[h:SL xs (e.T [])]:SL xs e.C:=⟨h.o⟩
instance {xs:amx AV}{e:bh}[h:SL xs (e.T [])]:SA (.agg xs) e.X:=⟨.agg h.o⟩
structure aK where
 name:ByteArray
 cb:List bh
abbrev aK.T(e:aK)(r:amx AV):amx AV:=.an e.name::.sl 37 .no (e.cb.map bh.ak)::r
def aK.C(e:aK):amx AV:=e.T []
def aK.X(e:aK):AV:=.agg e.C
abbrev aK.ak:aK->AV:=aK.X
instance {S:amx Nm}(e:aK):dM S e.C:=inferInstanceAs (dM S (e.T []))
instance {S:amx Nm}(e:aK):UN S e.X:=inferInstanceAs (UN S (.agg e.C))
instance:Pl aK.X:=⟨λe=>cW (inferInstance:UN [] e.X).out⟩
instance {xs:amx AV}{e:aK}[h:SL xs (e.T [])]:SA (.agg xs) e.X:=⟨.agg h.o⟩
structure ah where
 aN:List ar
 am:List ac
abbrev ah.T(e:ah)(r:amx AV):amx AV:=.sl 2 .no (e.aN.map ar.ak)::.sl 13 .no (e.am.map ac.ak)::r
def ah.C(e:ah):amx AV:=e.T []
def ah.X(e:ah):AV:=.agg e.C
instance {S:amx Nm}(e:ah):dM S e.C:=inferInstanceAs (dM S (e.T []))
instance {S:amx Nm}(e:ah):UN S e.X:=inferInstanceAs (UN S (.agg e.C))
instance {xs:amx AV}{e:ah}[h:SL xs (e.T [])]:SL xs e.C:=⟨h.o⟩
instance {xs:amx AV}{e:ah}[h:SL (e.T []) xs]:SL e.C xs:=⟨h.o⟩
instance {xs:amx AV}{e:ah}[h:SL xs (e.T [])]:SA (.agg xs) e.X:=⟨.agg h.o⟩
structure aA where
 aj:Int
 n:Int
 s:ByteArray
 aF:List ByteArray
 aG:List aA
mutual
def aA.ak:aA->AV
 |⟨a0,a1,a2,a3,a4⟩=>.agg [.int .i64 a0,.int .i64 a1,.an a2,.sl 1 .no (a3.map AV.an),.sl 5 .no (aA.iH a4)]
def aA.iH:amx aA->amx AV
 | []=>[]
 |x::xs=>aA.ak x::aA.iH xs
end
abbrev aA.T(e:aA)(r:amx AV):amx AV:=.int .i64 e.aj::.int .i64 e.n::.an e.s::.sl 1 .no (e.aF.map AV.an)::.sl 5 .no (e.aG.map aA.ak)::r
def aA.C(e:aA):amx AV:=e.T []
def aA.X(e:aA):AV:=.agg e.C
def aA.hD:(xs:amx aA)->aA.iH xs=xs.map aA.ak
 | []=>rfl
 |x::xs=>by simp[aA.iH,aA.hD xs]
def aA.bq:(e:aA)->e.ak=e.X
 |⟨a0,a1,a2,a3,a4⟩=>by simp[aA.ak,aA.X,aA.C,aA.T,aA.hD]
mutual
theorem aA.gq {S:amx Nm}:(e:aA)->UN S e.ak
 |⟨a0,a1,a2,a3,a4⟩=>by unfold aA.ak;have:=aA.fG (S:=S) a4;infer_instance
theorem aA.fG {S:amx Nm}:(xs:amx aA)->dM S (aA.iH xs)
 | []=>by unfold aA.iH;infer_instance
 |x::xs=>by unfold aA.iH;have:=aA.gq (S:=S) x;have:=aA.fG (S:=S) xs;infer_instance
end
def aA.fb{x:AV}{e:aA}(h:Sub x e.X):Sub x e.ak:=by rw[aA.bq];exact h
instance:Pl aA.ak:=⟨λe=>cW (e.gq (S:=[])).out⟩
instance {xs:amx AV}{e:aA}[h:SL xs (e.T [])]:SA (.agg xs) e.ak:=⟨aA.fb (.agg h.o)⟩
instance {S:amx Nm}(e:aA):dM S e.C:=inferInstanceAs (dM S (e.T []))
instance {S:amx Nm}(e:aA):UN S e.X:=inferInstanceAs (UN S (.agg e.C))
instance {xs:amx AV}{e:aA}[h:SL xs (e.T [])]:SL xs e.C:=⟨h.o⟩
instance {xs:amx AV}{e:aA}[h:SL (e.T []) xs]:SL e.C xs:=⟨h.o⟩
instance {xs:amx AV}{e:aA}[h:SL xs (e.T [])]:SA (.agg xs) e.X:=⟨.agg h.o⟩
structure GStep where
 aj:Int
 aD:ByteArray
 aw:ByteArray
 name:ByteArray
 af:List ByteArray
 default:aA
abbrev GStep.T(e:GStep)(r:amx AV):amx AV:=.int .i64 e.aj::.an e.aD::.an e.aw::.an e.name::.sl 1 .no (e.af.map AV.an)::e.default.T (r)
def GStep.C(e:GStep):amx AV:=e.T []
def GStep.X(e:GStep):AV:=.agg e.C
instance {S:amx Nm}(e:GStep):dM S e.C:=inferInstanceAs (dM S (e.T []))
instance {S:amx Nm}(e:GStep):UN S e.X:=inferInstanceAs (UN S (.agg e.C))
instance {xs:amx AV}{e:GStep}[h:SL xs (e.T [])]:SL xs e.C:=⟨h.o⟩
instance {xs:amx AV}{e:GStep}[h:SL (e.T []) xs]:SL e.C xs:=⟨h.o⟩
instance {xs:amx AV}{e:GStep}[h:SL xs (e.T [])]:SA (.agg xs) e.X:=⟨.agg h.o⟩
structure ce where
 Um:ByteArray
 pos:Int
 ef:Int
 Uo:Int
 aF:List ByteArray
abbrev ce.T(e:ce)(r:amx AV):amx AV:=.an e.Um::.int .i64 e.pos::.int .i64 e.ef::.int .i64 e.Uo::.sl 1 .no (e.aF.map AV.an)::r
def ce.C(e:ce):amx AV:=e.T []
def ce.X(e:ce):AV:=.agg e.C
abbrev ce.ak:ce->AV:=ce.X
instance {S:amx Nm}(e:ce):dM S e.C:=inferInstanceAs (dM S (e.T []))
instance {S:amx Nm}(e:ce):UN S e.X:=inferInstanceAs (UN S (.agg e.C))
instance:Pl ce.X:=⟨λe=>cW (inferInstance:UN [] e.X).out⟩
instance {xs:amx AV}{e:ce}[h:SL xs (e.T [])]:SA (.agg xs) e.X:=⟨.agg h.o⟩
structure aU where
 cC:ByteArray
 name:ByteArray
 params:List ai
 gr:Int
 lz:ai
abbrev aU.T(e:aU)(r:amx AV):amx AV:=.an e.cC::.an e.name::.sl 5 .no (e.params.map ai.ak)::.int .i64 e.gr::e.lz.T (r)
def aU.C(e:aU):amx AV:=e.T []
def aU.X(e:aU):AV:=.agg e.C
abbrev aU.ak:aU->AV:=aU.X
instance {S:amx Nm}(e:aU):dM S e.C:=inferInstanceAs (dM S (e.T []))
instance {S:amx Nm}(e:aU):UN S e.X:=inferInstanceAs (UN S (.agg e.C))
instance:Pl aU.X:=⟨λe=>cW (inferInstance:UN [] e.X).out⟩
instance {xs:amx AV}{e:aU}[h:SL xs (e.T [])]:SL xs e.C:=⟨h.o⟩
instance {xs:amx AV}{e:aU}[h:SL xs (e.T [])]:SA (.agg xs) e.X:=⟨.agg h.o⟩
structure ay where
 l:List Int
 i:Int
 cC:ByteArray
 aN:List ar
 am:List ac
 cK:List aU
structure aE where
 name:ByteArray
 bx:ai
abbrev aE.T(e:aE)(r:amx AV):amx AV:=.an e.name::e.bx.T (r)
def aE.C(e:aE):amx AV:=e.T []
def aE.X(e:aE):AV:=.agg e.C
abbrev aE.ak:aE->AV:=aE.X
instance {S:amx Nm}(e:aE):dM S e.C:=inferInstanceAs (dM S (e.T []))
instance {S:amx Nm}(e:aE):UN S e.X:=inferInstanceAs (UN S (.agg e.C))
instance:Pl aE.X:=⟨λe=>cW (inferInstance:UN [] e.X).out⟩
instance {xs:amx AV}{e:aE}[h:SL xs (e.T [])]:SA (.agg xs) e.X:=⟨.agg h.o⟩
structure bA where
 l:List Int
 i:Int
 pos:Int
abbrev bA.T(e:bA)(r:amx AV):amx AV:=.sl 1 .no (e.l.map (AV.int .i64))::.int .i64 e.i::.int .i64 e.pos::r
def bA.C(e:bA):amx AV:=e.T []
instance {S:amx Nm}(e:bA):dM S e.C:=inferInstanceAs (dM S (e.T []))
instance {xs:amx AV}{e:bA}[h:SL xs (e.T [])]:SL xs e.C:=⟨h.o⟩
instance {xs:amx AV}{e:bA}[h:SL (e.T []) xs]:SL e.C xs:=⟨h.o⟩
structure az where
 kb:ah
 Cy:ah
 x:GStep
 jl:List ByteArray
def az.C(e:az)(v:AV):amx AV:=e.kb.T (e.Cy.T (e.x.T (v::.sl 1 .no (e.jl.map AV.an)::[])))
def az.Cz(e:az)(v:AV):Sub (.aQ (e.C v) 0) (.aQ (e.C .any) 0):=.aQ (.cons (.refl _) (.cons (.refl _) (.cons (.refl _) (.cons (.refl _) (.cons (.refl _) (.cons (.refl _) (.cons (.refl _) (.cons (.refl _) (.cons (.refl _) (.cons (.refl _) (.cons (.refl _) (.cons (.refl _) (.cons (.refl _) (.cons (.refl _) (.cons (.any _) (.refl _))))))))))))))))
instance {S:amx Nm}(e:az){v:AV}[h:UN S v]:dM S (e.C v):=inferInstanceAs (dM S (e.kb.T (e.Cy.T (e.x.T (v::.sl 1 .no (e.jl.map AV.an)::[])))))
structure bQ where
 kb:ah
 Cy:ah
 x:GStep
 u:List ByteArray
abbrev bQ.T(e:bQ)(r:amx AV):amx AV:=e.kb.T (e.Cy.T (e.x.T (.sl 1 .no (e.u.map AV.an)::r)))
def bQ.C(e:bQ):amx AV:=e.T []
instance {S:amx Nm}(e:bQ):dM S e.C:=inferInstanceAs (dM S (e.T []))
instance {xs:amx AV}{e:bQ}[h:SL xs (e.T [])]:SL xs e.C:=⟨h.o⟩
instance {xs:amx AV}{e:bQ}[h:SL (e.T []) xs]:SL e.C xs:=⟨h.o⟩
structure cm where
 aD:ByteArray
 aw:ByteArray
 cj:ByteArray
abbrev cm.T(e:cm)(r:amx AV):amx AV:=.an e.aD::.an e.aw::.an e.cj::r
def cm.C(e:cm):amx AV:=e.T []
def cm.X(e:cm):AV:=.agg e.C
abbrev cm.ak:cm->AV:=cm.X
instance {S:amx Nm}(e:cm):dM S e.C:=inferInstanceAs (dM S (e.T []))
instance {S:amx Nm}(e:cm):UN S e.X:=inferInstanceAs (UN S (.agg e.C))
instance:Pl cm.X:=⟨λe=>cW (inferInstance:UN [] e.X).out⟩
instance {xs:amx AV}{e:cm}[h:SL xs (e.T [])]:SA (.agg xs) e.X:=⟨.agg h.o⟩
inductive iY where
 |d
 |rc (w:az)
 |sp (w:az)
 |su (w:az)
 |rk (cs:List ByteArray) (k:ByteArray)
def iY.num:iY->Nat
 |.d=>208
 |.rc _=>117
 |.sp _=>122
 |.su _=>126
 |.rk _ _=>129
def iY.qP:iY->amx AV
 |.d=>[]
 |.rc w|.sp w|.su w=>[.aQ [.aQ (w.C .any) 0] 0]
 |.rk cs k=>[.aQ [.sl 1 .no (cs.map AV.an)] 0,.aQ [.an k] 0]
def iY.ak(g:iY):AV:=.fn (.func g.num) [] g.qP
instance {S:amx Nm}(g:iY):dM S g.qP:=by cases g<;>unfold iY.qP<;>infer_instance
instance {S:amx Nm}(g:iY):UN S g.ak:=inferInstanceAs (UN S (.fn (.func g.num) [] g.qP))
structure aI where
 aD:ac
 cj:ByteArray
 plain:Bool
 gI:List cm
 get:iY
abbrev aI.T(e:aI)(r:amx AV):amx AV:=e.aD.T (.an e.cj::.bool e.plain::.sl 3 .no (e.gI.map cm.ak)::(iY.ak e.get)::r)
def aI.C(e:aI):amx AV:=e.T []
def aI.X(e:aI):AV:=.agg e.C
abbrev aI.ak:aI->AV:=aI.X
instance {S:amx Nm}(e:aI):dM S e.C:=inferInstanceAs (dM S (e.T []))
instance {S:amx Nm}(e:aI):UN S e.X:=inferInstanceAs (UN S (.agg e.C))
instance:Pl aI.X:=⟨λe=>cW (inferInstance:UN [] e.X).out⟩
structure aq where
 s:ByteArray
 e:Int
abbrev aq.T(e:aq)(r:amx AV):amx AV:=.an e.s::.int .i64 e.e::r
def aq.C(e:aq):amx AV:=e.T []
instance {S:amx Nm}(e:aq):dM S e.C:=inferInstanceAs (dM S (e.T []))
instance {xs:amx AV}{e:aq}[h:SL xs (e.T [])]:SL xs e.C:=⟨h.o⟩
instance {xs:amx AV}{e:aq}[h:SL (e.T []) xs]:SL e.C xs:=⟨h.o⟩
structure aJ where
 aj:Int
 cC:ByteArray
 p8:ByteArray
 name:ByteArray
 pos:Int
abbrev aJ.T(e:aJ)(r:amx AV):amx AV:=.int .i64 e.aj::.an e.cC::.an e.p8::.an e.name::.int .i64 e.pos::r
def aJ.C(e:aJ):amx AV:=e.T []
def aJ.X(e:aJ):AV:=.agg e.C
abbrev aJ.ak:aJ->AV:=aJ.X
instance {S:amx Nm}(e:aJ):dM S e.C:=inferInstanceAs (dM S (e.T []))
instance {S:amx Nm}(e:aJ):UN S e.X:=inferInstanceAs (UN S (.agg e.C))
instance:Pl aJ.X:=⟨λe=>cW (inferInstance:UN [] e.X).out⟩
instance {xs:amx AV}{e:aJ}[h:SL xs (e.T [])]:SA (.agg xs) e.X:=⟨.agg h.o⟩
structure dC where
 Um:ByteArray
 pos:Int
 ef:Int
 name:ByteArray
 OU:Bool
 Lo:aJ
abbrev dC.T(e:dC)(r:amx AV):amx AV:=.an e.Um::.int .i64 e.pos::.int .i64 e.ef::.an e.name::.bool e.OU::e.Lo.T (r)
def dC.C(e:dC):amx AV:=e.T []
def dC.X(e:dC):AV:=.agg e.C
abbrev dC.ak:dC->AV:=dC.X
instance {S:amx Nm}(e:dC):dM S e.C:=inferInstanceAs (dM S (e.T []))
instance {S:amx Nm}(e:dC):UN S e.X:=inferInstanceAs (UN S (.agg e.C))
instance:Pl dC.X:=⟨λe=>cW (inferInstance:UN [] e.X).out⟩
structure dD where
 e0:ByteArray
 e1:ByteArray
abbrev dD.T(e:dD)(r:amx AV):amx AV:=.an e.e0::.an e.e1::r
def dD.C(e:dD):amx AV:=e.T []
def dD.X(e:dD):AV:=.agg e.C
abbrev dD.ak:dD->AV:=dD.X
instance {S:amx Nm}(e:dD):dM S e.C:=inferInstanceAs (dM S (e.T []))
instance {S:amx Nm}(e:dD):UN S e.X:=inferInstanceAs (UN S (.agg e.C))
instance:Pl dD.X:=⟨λe=>cW (inferInstance:UN [] e.X).out⟩
structure dU where
 ms:List aK
 cC:ByteArray
 p8:ByteArray
 Uq:List dC
 Ur:List aJ
 Z5:List ce
 OV:List dD
abbrev dU.T(e:dU)(r:amx AV):amx AV:=.sl 2 .no (e.ms.map aK.ak)::.an e.cC::.an e.p8::.sl 10 .no (e.Uq.map dC.ak)::.sl 5 .no (e.Ur.map aJ.ak)::.sl 5 .no (e.Z5.map ce.ak)::.sl 2 .no (e.OV.map dD.ak)::r
def dU.C(e:dU):amx AV:=e.T []
instance {S:amx Nm}(e:dU):dM S e.C:=inferInstanceAs (dM S (e.T []))
instance {xs:amx AV}{e:dU}[h:SL xs (e.T [])]:SL xs e.C:=⟨h.o⟩
instance {xs:amx AV}{e:dU}[h:SL (e.T []) xs]:SL e.C xs:=⟨h.o⟩
structure cD where
 aj:Int
 oW:ByteArray
 pos:Int
abbrev cD.T(e:cD)(r:amx AV):amx AV:=.int .i64 e.aj::.an e.oW::.int .i64 e.pos::r
def cD.C(e:cD):amx AV:=e.T []
def cD.X(e:cD):AV:=.agg e.C
abbrev cD.ak:cD->AV:=cD.X
instance {S:amx Nm}(e:cD):dM S e.C:=inferInstanceAs (dM S (e.T []))
instance {S:amx Nm}(e:cD):UN S e.X:=inferInstanceAs (UN S (.agg e.C))
instance:Pl cD.X:=⟨λe=>cW (inferInstance:UN [] e.X).out⟩
structure nS where
 name:ByteArray
 Lp:aa
 sR:List ByteArray
 jl:List ByteArray
 kb:List ByteArray
 new:List ByteArray
structure aO where
 n:Int
 row:Bool
 aF:List ByteArray
abbrev aO.T(e:aO)(r:amx AV):amx AV:=.int .i64 e.n::.bool e.row::.sl 1 .no (e.aF.map AV.an)::r
def aO.C(e:aO):amx AV:=e.T []
def aO.X(e:aO):AV:=.agg e.C
abbrev aO.ak:aO->AV:=aO.X
instance {S:amx Nm}(e:aO):dM S e.C:=inferInstanceAs (dM S (e.T []))
instance {S:amx Nm}(e:aO):UN S e.X:=inferInstanceAs (UN S (.agg e.C))
instance:Pl aO.X:=⟨λe=>cW (inferInstance:UN [] e.X).out⟩
instance {xs:amx AV}{e:aO}[h:SL xs (e.T [])]:SA (.agg xs) e.X:=⟨.agg h.o⟩
structure fZ where
 e0:Bool
 e1:Bool
 e2:Bool
 e3:Bool
 e4:Bool
abbrev fZ.T(e:fZ)(r:amx AV):amx AV:=.bool e.e0::.bool e.e1::.bool e.e2::.bool e.e3::.bool e.e4::r
def fZ.C(e:fZ):amx AV:=e.T []
def fZ.X(e:fZ):AV:=.agg e.C
instance {S:amx Nm}(e:fZ):dM S e.C:=inferInstanceAs (dM S (e.T []))
instance {S:amx Nm}(e:fZ):UN S e.X:=inferInstanceAs (UN S (.agg e.C))
instance {xs:amx AV}{e:fZ}[h:SL xs (e.T [])]:SA (.agg xs) e.X:=⟨.agg h.o⟩
structure bo where
 aj:Int
 cC:ByteArray
 p8:ByteArray
 name:ByteArray
 pos:Int
abbrev bo.T(e:bo)(r:amx AV):amx AV:=.int .i64 e.aj::.an e.cC::.an e.p8::.an e.name::.int .i64 e.pos::r
def bo.C(e:bo):amx AV:=e.T []
def bo.X(e:bo):AV:=.agg e.C
abbrev bo.ak:bo->AV:=bo.X
instance {S:amx Nm}(e:bo):dM S e.C:=inferInstanceAs (dM S (e.T []))
instance {S:amx Nm}(e:bo):UN S e.X:=inferInstanceAs (UN S (.agg e.C))
instance:Pl bo.X:=⟨λe=>cW (inferInstance:UN [] e.X).out⟩
instance {ν:amx Nm}(e:az){v v':AV}[h:Rn ν v v']:sK ν (e.C v) (e.C v'):=inferInstanceAs (sK ν (e.kb.T (e.Cy.T (e.x.T (v::.sl 1 .no (e.jl.map AV.an)::[])))) (e.kb.T (e.Cy.T (e.x.T (v'::.sl 1 .no (e.jl.map AV.an)::[])))))
instance {ν:amx Nm}{N:Nat}(e:az){v v':AV}[h:R2 ν N v v']:ul ν N (e.C v) (e.C v'):=inferInstanceAs (ul ν N (e.kb.T (e.Cy.T (e.x.T (v::.sl 1 .no (e.jl.map AV.an)::[])))) (e.kb.T (e.Cy.T (e.x.T (v'::.sl 1 .no (e.jl.map AV.an)::[])))))
instance {a c:Nm}(e:az){v v':AV}[h:R3 a c v v']:wg a c (e.C v) (e.C v'):=inferInstanceAs (wg a c (e.kb.T (e.Cy.T (e.x.T (v::.sl 1 .no (e.jl.map AV.an)::[])))) (e.kb.T (e.Cy.T (e.x.T (v'::.sl 1 .no (e.jl.map AV.an)::[])))))
abbrev F(x:Int):AV:=.int .i64 x
abbrev N(x:amx amw):AV:=.sl 1 .no (x.map AV.an)
abbrev cI(a b:Nat)(x:amx amw):AV:=.sl 1 (.tail (a,b)) (x.map AV.an)
abbrev cO(a b:Nat)(x:amx amw):Nm×bk:=((a,b),.tail 1 (x.map AV.an).length)
abbrev jd(x:amx aa):AV:=.sl 9 .no (x.map aa.ak)
abbrev iK(a b:Nat)(x:amx aa):AV:=.sl 9 (.tail (a,b)) (x.map aa.ak)
abbrev iM(a b:Nat)(x:amx aa):Nm×bk:=((a,b),.tail 9 (x.map aa.ak).length)
abbrev lB(x:amx Int):AV:=.sl 1 .no (x.map (AV.int .i64))
abbrev N6(a b:Nat)(x:amx Int):AV:=.sl 1 (.tail (a,b)) (x.map (AV.int .i64))
abbrev N7(a b:Nat)(x:amx Int):Nm×bk:=((a,b),.tail 1 (x.map (AV.int .i64)).length)
abbrev mI(x:amx ac):AV:=.sl 13 .no (x.map ac.ak)
abbrev p9(a b:Nat)(x:amx ac):AV:=.sl 13 (.tail (a,b)) (x.map ac.ak)
abbrev ik(a b:Nat)(x:amx ac):Nm×bk:=((a,b),.tail 13 (x.map ac.ak).length)
abbrev uo(a b:Nat)(x:amx aU):AV:=.sl 9 (.tail (a,b)) (x.map aU.ak)
abbrev im(a b:Nat)(x:amx aU):Nm×bk:=((a,b),.tail 9 (x.map aU.ak).length)
abbrev lM(x:amx ar):AV:=.sl 2 .no (x.map ar.ak)
abbrev BL(a b:Nat)(x:amx ar):AV:=.sl 2 (.tail (a,b)) (x.map ar.ak)
abbrev jm(a b:Nat)(x:amx ar):Nm×bk:=((a,b),.tail 2 (x.map ar.ak).length)
abbrev jP(x:amx ax):AV:=.sl 2 .no (x.map ax.ak)
abbrev je(a b:Nat)(x:amx ax):AV:=.sl 2 (.tail (a,b)) (x.map ax.ak)
abbrev lN(a b:Nat)(x:amx ax):Nm×bk:=((a,b),.tail 2 (x.map ax.ak).length)
abbrev kd(x:amx ae):AV:=.sl 6 .no (x.map ae.ak)
abbrev nT(a b:Nat)(x:amx ae):AV:=.sl 6 (.tail (a,b)) (x.map ae.ak)
abbrev EG(a b:Nat)(x:amx ae):Nm×bk:=((a,b),.tail 6 (x.map ae.ak).length)
abbrev kI(x:amx cm):AV:=.sl 3 .no (x.map cm.ak)
abbrev Y7(a b:Nat)(x:amx cm):AV:=.sl 3 (.tail (a,b)) (x.map cm.ak)
abbrev Y8(a b:Nat)(x:amx cm):Nm×bk:=((a,b),.tail 3 (x.map cm.ak).length)
abbrev nG(a b:Nat)(x:amx bh):AV:=.sl 37 (.tail (a,b)) (x.map bh.ak)
abbrev nH(a b:Nat)(x:amx bh):Nm×bk:=((a,b),.tail 37 (x.map bh.ak).length)
abbrev pp(x:amx aB):AV:=.sl 7 .no (x.map aB.ak)
abbrev Y9(a b:Nat)(x:amx aB):AV:=.sl 7 (.tail (a,b)) (x.map aB.ak)
abbrev Za(a b:Nat)(x:amx aB):Nm×bk:=((a,b),.tail 7 (x.map aB.ak).length)
abbrev qa(x:amx aE):AV:=.sl 6 .no (x.map aE.ak)
abbrev Zb(a b:Nat)(x:amx aE):AV:=.sl 6 (.tail (a,b)) (x.map aE.ak)
abbrev Zc(a b:Nat)(x:amx aE):Nm×bk:=((a,b),.tail 6 (x.map aE.ak).length)
abbrev CA(x:amx ai):AV:=.sl 5 .no (x.map ai.ak)
abbrev Zd(a b:Nat)(x:amx ai):AV:=.sl 5 (.tail (a,b)) (x.map ai.ak)
abbrev Ze(a b:Nat)(x:amx ai):Nm×bk:=((a,b),.tail 5 (x.map ai.ak).length)
abbrev OW(x:amx aA):AV:=.sl 5 .no (x.map aA.ak)
abbrev EH(x:amx bO):AV:=.sl 23 .no (x.map bO.ak)
abbrev OX(a b:Nat)(x:amx bO):AV:=.sl 23 (.tail (a,b)) (x.map bO.ak)
abbrev OY(a b:Nat)(x:amx bO):Nm×bk:=((a,b),.tail 23 (x.map bO.ak).length)
abbrev OZ(x:amx aK):AV:=.sl 2 .no (x.map aK.ak)
abbrev Lq(a b:Nat)(x:amx aK):AV:=.sl 2 (.tail (a,b)) (x.map aK.ak)
abbrev SV(a b:Nat)(x:amx aK):Nm×bk:=((a,b),.tail 2 (x.map aK.ak).length)
abbrev Lr(x:amx bE):AV:=.sl 19 .no (x.map bE.ak)
abbrev Us(a b:Nat)(x:amx bE):AV:=.sl 19 (.tail (a,b)) (x.map bE.ak)
abbrev Ut(a b:Nat)(x:amx bE):Nm×bk:=((a,b),.tail 19 (x.map bE.ak).length)
abbrev Z6(x:amx ce):AV:=.sl 5 .no (x.map ce.ak)
abbrev N9(a b:Nat)(x:amx ce):AV:=.sl 5 (.tail (a,b)) (x.map ce.ak)
abbrev Oa(a b:Nat)(x:amx ce):Nm×bk:=((a,b),.tail 5 (x.map ce.ak).length)
abbrev Ls(x:amx aJ):AV:=.sl 5 .no (x.map aJ.ak)
abbrev Z7(a b:Nat)(x:amx aJ):AV:=.sl 5 (.tail (a,b)) (x.map aJ.ak)
abbrev Z8(a b:Nat)(x:amx aJ):Nm×bk:=((a,b),.tail 5 (x.map aJ.ak).length)
abbrev ga(p:ay)(i:Int):Nm×bk:=((0,0),.cells [lB p.l,F i,.an p.cC,BL 0 1 p.aN,p9 0 2 p.am,uo 0 3 p.cK])
@[reducible] def cd{α:Type}(b:amz)(x y:α):α:=cond b x y
@[reducible] def cN{α:Type}(b:amz)(y:amy α):amy α:=cond b none y
end Go.Ab
@[reducible] def Option.b{α β:Type}(o:Option α)(f:α->Option β):Option β:=o.bind f
@[reducible] def Option.j{α β:Type}(o:Option (α⊕β))(f:α->Option β):Option β:=o.bind (Sum.elim f some)
namespace Go.Ab
@[reducible] def H{α β:Type}(x:α):amy (α⊕β):=some (.inl x)
@[reducible] def ir{α β:Type}(x:β):amy (α⊕β):=some (.inr x)
@[reducible] def w6(n:Int):Int:=IntKind.i64.wrap n
abbrev jp(x:amx amw):Int:=((x.map AV.an).length:Int)
abbrev EI(x:amx aa):Int:=((x.map aa.ak).length:Int)
abbrev Zf(x:amx Int):Int:=((x.map (AV.int .i64)).length:Int)
abbrev uq(x:amx ac):Int:=((x.map ac.ak).length:Int)
abbrev Kk(x:amx ar):Int:=((x.map ar.ak).length:Int)
abbrev SW(x:amx ax):Int:=((x.map ax.ak).length:Int)
abbrev Kl(x:amx ae):Int:=((x.map ae.ak).length:Int)
abbrev Z9(x:amx cm):Int:=((x.map cm.ak).length:Int)
abbrev Uu(x:amx aB):Int:=((x.map aB.ak).length:Int)
abbrev wn(x:amx ai):Int:=((x.map ai.ak).length:Int)
abbrev AQ(x:amx aA):Int:=((x.map aA.ak).length:Int)
abbrev lNO(x:amx bO):Int:=((x.map bO.ak).length:Int)
abbrev lNS(x:amx aJ):Int:=((x.map aJ.ak).length:Int)
abbrev bM:amw:=⟨#[]⟩
abbrev Km:amw:=⟨#[105,100]⟩
abbrev EJ:amw:=⟨#[120]⟩
abbrev qQ:amw:=⟨#[61,61]⟩
abbrev O0:amw:=⟨#[105,116,101,109]⟩
abbrev Ob:amw:=⟨#[121]⟩
abbrev SY:amw:=⟨#[40]⟩
abbrev CB:amw:=⟨#[60]⟩
abbrev Kn:amw:=⟨#[97,103,101]⟩
abbrev Uv:amw:=⟨#[112,101,114,115,111,110]⟩
abbrev EK:amw:=⟨#[41]⟩
abbrev AR:amw:=⟨#[114]⟩
abbrev CC:amw:=⟨#[34]⟩
abbrev py:amw:=⟨#[60,61]⟩
abbrev EL:amw:=⟨#[91]⟩
abbrev qR:amw:=⟨#[33,61]⟩
abbrev qS:amw:=⟨#[43]⟩
abbrev Lt:amw:=⟨#[97]⟩
abbrev EM:amw:=⟨#[98]⟩
abbrev u3:amw:=⟨#[45]⟩
abbrev O1:amw:=⟨#[67,111,108,111,114]⟩
abbrev EN:amw:=⟨#[97,112,112]⟩
abbrev O2:amw:=⟨#[111,119,110,101,114]⟩
abbrev AS:amw:=⟨#[110,111,116]⟩
abbrev qT:amw:=⟨#[115,99,104,101,109,97]⟩
abbrev CD:amw:=⟨#[115,111,114,116]⟩
abbrev u4:amw:=⟨#[42]⟩
abbrev u5:amw:=⟨#[43,43]⟩
abbrev EO:amw:=⟨#[46]⟩
abbrev EP:amw:=⟨#[93]⟩
abbrev AU:amw:=⟨#[97,110,100]⟩
abbrev EQ:amw:=⟨#[110,97,109,101]⟩
abbrev CE:amw:=⟨#[111,114]⟩
abbrev CF:amw:=⟨#[111,116,104,101,114]⟩
abbrev Uw:amw:=⟨#[116]⟩
abbrev CG:amw:=⟨#[79,110]⟩
abbrev O3:amw:=⟨#[82,101,100]⟩
abbrev Lu:amw:=⟨#[112]⟩
abbrev ER:amw:=⟨#[66,111,111,108]⟩
abbrev ES:amw:=⟨#[73,110,116]⟩
abbrev ET:amw:=⟨#[84,101,120,116]⟩
abbrev EU:amw:=⟨#[98,97,115,101]⟩
abbrev Lv:amw:=⟨#[101,120,116,114,97]⟩
abbrev Lw:amw:=⟨#[102,114,101,115,104]⟩
abbrev Lx:amw:=⟨#[108,97,116,101]⟩
abbrev Ux:amw:=⟨#[116,105,116,108,101]⟩
abbrev Uy:amw:=⟨#[119,111,114,100]⟩
abbrev EV:amw:=⟨#[44]⟩
abbrev EW:amw:=⟨#[63]⟩
abbrev Ly:amw:=⟨#[83,116,97,116,101]⟩
abbrev O4:amw:=⟨#[102]⟩
abbrev O5:amw:=⟨#[103]⟩
abbrev Uz:amw:=⟨#[110]⟩
abbrev UA:amw:=⟨#[114,111,119]⟩
abbrev O6:amw:=⟨#[115,105,122,101]⟩
abbrev O7:amw:=⟨#[122]⟩
abbrev EX:amw:=⟨#[123]⟩
abbrev EY:amw:=⟨#[124]⟩
abbrev EZ:amw:=⟨#[125]⟩
abbrev E0:amw:=⟨#[45,62]⟩
abbrev E1:amw:=⟨#[60,45]⟩
abbrev Lz:amw:=⟨#[79,102,102]⟩
abbrev O8:amw:=⟨#[97,98]⟩
abbrev O9:amw:=⟨#[100,105,115,116,105,110,99,116]⟩
abbrev UB:amw:=⟨#[100,111,110,101]⟩
abbrev UC:amw:=⟨#[102,108,97,103]⟩
abbrev Pa:amw:=⟨#[102,97,108,115,101]⟩
abbrev Pb:amw:=⟨#[115,117,109]⟩
abbrev Pc:amw:=⟨#[116,114,117,101]⟩
abbrev Pe:amw:=⟨#[116,120]⟩
abbrev Pf:amw:=⟨#[97,108,108]⟩
abbrev Pg:amw:=⟨#[97,110,121]⟩
abbrev UD:amw:=⟨#[99,111,108,111,114]⟩
abbrev Ph:amw:=⟨#[48,49,50,51,52,53,54,55,56,57,97,98,99,100,101,102,103,104,105,106,107,108,109,110,111,112,113,114,115,116,117,118,119,120,121,122]⟩
abbrev nU:ai:=⟨0,bM,0,[],[]⟩
abbrev DV(k:Int):ai:=⟨k,bM,0,[],[]⟩
abbrev nI(k:Int)(s:amw):ai:=⟨k,s,0,[],[]⟩
abbrev oX:aa:=⟨0,bM,0,bM,[],[],[],0,0⟩
abbrev Pi(k:Int):aa:=⟨k,bM,1,bM,[],[],[],0,0⟩
abbrev Oc(k:Int):aa:=⟨0,bM,k,bM,[],[],[],0,0⟩
abbrev gj(k:Int)(s:amw):aa:=⟨k,s,0,bM,[],[],[],0,0⟩
abbrev gb(k:Int)(s:amw)(x:amx aa):aa:=⟨k,s,0,bM,[],[],x,0,0⟩
abbrev Ko(k:Int)(s:amx amw)(x:amx aa):aa:=⟨k,bM,0,bM,s,[],x,0,0⟩
abbrev Od(x:aa):ac:=⟨bM,[],[],[],x⟩
abbrev Kp:ah:=⟨[],[]⟩
@[reducible] def fI{σ τ β:Type}(w:Nat->τ->σ->amy (σ⊕(σ⊕β)))(xs:amx τ)(s:σ):amy (σ⊕β):=bg w (λa=>a) 0 xs s
abbrev Y(a b:Nat)(x:amx AV):Nm×bk:=((a,b),.cells x)
abbrev oD(a b n:Nat)(x:amx AV):Nm×bk:=((a,b),.br n x)
abbrev fN(n:Nat)(x:amx AV):AV:=.fn (.func n) [] x
abbrev pT(a b:Nat):AV:=.ptr (a,b) 0
end Go.Ab
namespace Go.Proofs
section
set_option maxHeartbeats 1000000
set_option maxRecDepth 100000
def Tryz.ke(a b:ByteArray)(w:World):
 Calls Tryz.prog 618 #[.string a,.string b] w λe w'=>e= .returned (.int .i64 (Lib.compareBytes a.data.toList b.data.toList))/\w'=w:=by
 go_enter Tryz.func618,Tryz.ntmps618
 go_wp2
 rw[run_callFunc_extern Tryz.func644 (by kernel_rfl) (by kernel_rfl) (by kernel_rfl) (e:=Extern.BytealgCompare.compare) (by kernel_rfl),Lib.run_compareString];simp only[Result.andThen];rw[Oper.upon_value]
 go_wp2
 go_ret
 exact⟨rfl,rfl⟩
def Tryz.kf(s:ByteArray)(c:Int)(w:World):
 Calls Tryz.prog 501 #[.string s,.int .u8 c] w λe w'=>e= .returned (.int .i64 (Lib.indexByte s.data.toList c.toNat.toUInt8))/\w'=w:=by
 go_enter Tryz.func501,Tryz.ntmps501
 go_wp2
 rw[run_callFunc_extern Tryz.func502 (by kernel_rfl) (by kernel_rfl) (by kernel_rfl) (e:=Extern.BytealgIndexByte.indexByte) (by kernel_rfl),Lib.run_indexByteString];simp only[Result.andThen];rw[Oper.upon_value]
 go_wp2
 go_ret
 exact⟨rfl,rfl⟩
end
end Go.Proofs
namespace Go.Ab
section
set_option maxHeartbeats 1000000
set_option maxRecDepth 100000
open Go Go.RowKit Go.Proofs
variable {P:Program}{ge:GE}
def df.UE{f:FuncId}(he:bL P f=true){k:IntKind}(F:ByteArray->ByteArray->Int)(h:∀a b w,Calls P f #[.string a,.string b] w λe w'=>e= .returned (.int k (F a b))/\w'=w)(a b:ByteArray):
 df P ge f [.an a,.an b] [] [] (.int k (F a b)) []:=by
 refine⟨he,λg fr w vs hin r kk hv=>?_⟩;simp only[VL,V]at hv;obtain⟨_,_,e1,rfl,_,_,e2,rfl,e3⟩:=hv;have e:vs=#[.string a,.string b]:=by
  grind
 subst e;refine(h a b w).mono λx w' hx=>?_
 obtain⟨rfl,rfl⟩:=hx;exact⟨_,g,_,_,rfl,G.Le.refl g,r,by simp only[V],rfl,rfl⟩
def df.UF{f:FuncId}(he:bL P f=true){k k':IntKind}(F:ByteArray->Int->Int)(h:∀a b w,Calls P f #[.string a,.int k' b] w λe w'=>e= .returned (.int k (F a b))/\w'=w)(a:ByteArray)(b:Int):
 df P ge f [.an a,.int k' b] [] [] (.int k (F a b)) []:=by
 refine⟨he,λg fr w vs hin r kk hv=>?_⟩;simp only[VL,V]at hv;obtain⟨_,_,e1,rfl,_,_,e2,rfl,e3⟩:=hv;have e:vs=#[.string a,.int k' b]:=by
  grind
 subst e;refine(h a b w).mono λx w' hx=>?_
 obtain⟨rfl,rfl⟩:=hx;exact⟨_,g,_,_,rfl,G.Le.refl g,r,by simp only[V],rfl,rfl⟩
end
end Go.Ab
namespace Go.Proofs
set_option maxHeartbeats 4000000 in
set_option maxRecDepth 100000 in
def Tryz.u6 (x:Int) (w:World) (h0:0<=x) (h1:x<=18446744073709551615):
 Calls Tryz.prog 443 #[.int .u64 x] w λe w'=>e= .returned (.int .i64 (Lib.bitLen x.toNat))/\w'=w:=by
 go_enter Tryz.func443,Tryz.ntmps443
 go_wp2
 all_goals(go_ret;refine⟨congrArg Ending.returned (congrArg (Value.int IntKind.i64) ?_),rfl⟩)
 all_goals first
  |(
   rw[Lib.len8_of (x / 4294967296 / 65536 / 256 % 256) (by omega) (by omega)];have e:(x / 4294967296 / 65536 / 256 % 256).toNat=x.toNat / 72057594037927936:=by omega
   have l:=Lib.bitLen_le8' (x / 4294967296 / 65536 / 256 % 256) (by omega) (by omega);have s:=Lib.bitLen_shift56 x.toNat (by omega) (by omega);rw[e]at l |-;omega)
  |(
   rw[Lib.len8_of (x / 4294967296 / 65536 % 256) (by omega) (by omega)];have e:(x / 4294967296 / 65536 % 256).toNat=x.toNat / 281474976710656:=by omega
   have l:=Lib.bitLen_le8' (x / 4294967296 / 65536 % 256) (by omega) (by omega);have s:=Lib.bitLen_shift48 x.toNat (by omega) (by omega);rw[e]at l |-;omega)
  |(
   rw[Lib.len8_of (x / 4294967296 / 256 % 256) (by omega) (by omega)];have e:(x / 4294967296 / 256 % 256).toNat=x.toNat / 1099511627776:=by omega
   have l:=Lib.bitLen_le8' (x / 4294967296 / 256 % 256) (by omega) (by omega);have s:=Lib.bitLen_shift40 x.toNat (by omega) (by omega);rw[e]at l |-;omega)
  |(
   rw[Lib.len8_of (x / 4294967296 % 256) (by omega) (by omega)];have e:(x / 4294967296 % 256).toNat=x.toNat / 4294967296:=by omega
   have l:=Lib.bitLen_le8' (x / 4294967296 % 256) (by omega) (by omega);have s:=Lib.bitLen_shift32 x.toNat (by omega) (by omega);rw[e]at l |-;omega)
  |(
   rw[Lib.len8_of (x / 65536 / 256 % 256) (by omega) (by omega)];have e:(x / 65536 / 256 % 256).toNat=x.toNat / 16777216:=by omega
   have l:=Lib.bitLen_le8' (x / 65536 / 256 % 256) (by omega) (by omega);have s:=Lib.bitLen_shift24 x.toNat (by omega) (by omega);rw[e]at l |-;omega)
  |(
   rw[Lib.len8_of (x / 65536 % 256) (by omega) (by omega)];have e:(x / 65536 % 256).toNat=x.toNat / 65536:=by omega
   have l:=Lib.bitLen_le8' (x / 65536 % 256) (by omega) (by omega);have s:=Lib.bitLen_shift16 x.toNat (by omega) (by omega);rw[e]at l |-;omega)
  |(
   rw[Lib.len8_of (x / 256 % 256) (by omega) (by omega)];have e:(x / 256 % 256).toNat=x.toNat / 256:=by omega
   have l:=Lib.bitLen_le8' (x / 256 % 256) (by omega) (by omega);have s:=Lib.bitLen_shift8 x.toNat (by omega) (by omega);rw[e]at l |-;omega)
  |(
   rw[Lib.len8_of (x % 256) (by omega) (by omega)];have e:(x % 256).toNat=x.toNat:=by omega
   have l:=Lib.bitLen_le8' (x % 256) (by omega) (by omega);rw[e]at l |-;omega)
end Go.Proofs
namespace Go.Ab
section
open Go Go.RowKit Go.Proofs
variable {P:Program}{ge:GE}
def df.ofI{f:FuncId}(he:bL P f=true){k k':IntKind}(F:Int->Int)(C:Int->Prop)(h:∀a w,C a->Calls P f #[.int k' a] w λe w'=>e= .returned (.int k (F a))/\w'=w)(a:Int)(hc:C a):
 df P ge f [.int k' a] [] [] (.int k (F a)) []:=by
 refine⟨he,λg fr w vs hin r kk hv=>?_⟩;simp only[VL,V]at hv;obtain⟨_,_,e1,rfl,e3⟩:=hv;have e:vs=#[.int k' a]:=by
  grind
 subst e;refine(h a w hc).mono λx w' hx=>?_
 obtain⟨rfl,rfl⟩:=hx;exact⟨_,g,_,_,rfl,G.Le.refl g,r,by simp only[V],rfl,rfl⟩
end
end Go.Ab

/-
 The functions of the program: each computes what is said of it.
-/
import Derived.Test.YthmhafeaiaigoaaGreatN13
import Derived.Test.YthmhafeaiaigoaaGreatProg
import Derived.KernelRfl
set_option linter.all false
namespace Go.D
open Go.Proofs
open Tryz
def TL:List (TypeId×TN):=[(3,.int),(5,.byte),(22,.bs),(51,.Wire),(57,.Frame),(68,.Client),(77,.Event),(113,.Note),(147,.Out),(167,.Sess),(224,.Credit),(272,.Op),(329,.Cand)]
def tnT:TypeId→Option TN:=λt=>RC t TL
theorem zk0:Tryz.prog.follows .mixedOrders=true:=by kernel_rfl
theorem zmN:zd4 prog TL=true:=by kernel_rfl
variable [zas TL]
def a0:An:=⟨[],[],[],[],[]⟩
abbrev u2{A B R:Type}(f:A→B→R):A×B→R:=λx=>f x.1 x.2
abbrev u3{A B C R:Type}(f:A→B→C→R):A×B×C→R:=λx=>f x.1 x.2.1 x.2.2
abbrev u4{A B C D R:Type}(f:A→B→C→D→R):A×B×C×D→R:=λx=>f x.1 x.2.1 x.2.2.1 x.2.2.2
abbrev u5{A B C D E R:Type}(f:A→B→C→D→E→R):A×B×C×D×E→R:=λx=>f x.1 x.2.1 x.2.2.1 x.2.2.2.1 x.2.2.2.2
abbrev u6{A B C D E F R:Type}(f:A→B→C→D→E→F→R):A×B×C×D×E×F→R:=λx=>f x.1 x.2.1 x.2.2.1 x.2.2.2.1 x.2.2.2.2.1 x.2.2.2.2.2
abbrev u7{A B C D E F G R:Type}(f:A→B→C→D→E→F→G→R):A×B×C×D×E×F×G→R:=λx=>f x.1 x.2.1 x.2.2.1 x.2.2.2.1 x.2.2.2.2.1 x.2.2.2.2.2.1 x.2.2.2.2.2.2
abbrev u8{A B C D E F G H R:Type}(f:A→B→C→D→E→F→G→H→R):A×B×C×D×E×F×G×H→R:=λx=>f x.1 x.2.1 x.2.2.1 x.2.2.2.1 x.2.2.2.2.1 x.2.2.2.2.2.1 x.2.2.2.2.2.2.1 x.2.2.2.2.2.2.2
def Ph:List (Nat×bB)→Prop
 | []=>True
 | (g,ci) :: l=>BB prog g ci∧Ph l
theorem pn:Ph []:=trivial
theorem ph{n:Nat}:∀(l:List (Nat×bB)),(l.all λp=>Nat.blt p.1 1048576)=true→Ph l→gG ⟨prog,λt=>RC t TL,λf=>hG f l,n,IL⟩
 | [],_,_=>zwc
 | (g,ci) :: l,h,k=>by
  simp only[List.all_cons,Bool.and_eq_true]at h;have hg:g % 1048576=g:=Nat.mod_eq_of_lt (by simpa[Nat.blt_eq]using h.1);exact zuC (by rw[hg];exact k.1) (ph l h.2 k.2)
def okB (n m : Nat) (l : List (Nat × bB)) (fn : Func) (ks : List sB) (ats : List Ty) : Bool := (l.all λp => Nat.blt p.1 1048576) && (fn.body.isSome && !(fn.name == "runtime.NumGoroutine") && Nat.beq n fn.ntmps && FC ks ats && Nat.ble m fn.ntmps)
theorem eC{f:Nat}{fn:Func}{ks:List sB}{ats rts:List Ty}{F:eB ats→Option (eB rts)}{sh:List (Bool×Nat)}{own:List Nat}(n:Nat){l:List (Nat×bB)}
  (hp:Ph l) (hf:prog.funcs[f]?=some fn) (an:An) (Raw:eB ats→Option (eB rts))
  (DX:∀{x},xA ats x→∀{r},F x=some r→Raw x=some r)
  (he:(okB n ks.length l fn ks ats,λx=>zat ⟨prog,λt=>RC t TL,λf=>hG f l,n,IL⟩ fn (fn.body.getD .skip) an ks own sh rts (fB ats x))=(true,Raw):=by kernel_rfl):BB prog f (jB ks ats rts F sh own false):=by
 obtain⟨h0,h1⟩:=Prod.mk.inj he;obtain⟨ha,hb⟩:=Bool.and_eq_true_iff.1 h0;exact evC n zk0 zmN (ph l ha hp) hf an Raw hb (λx=>congrFun h1 x) λ_ _ hb h=>DX hb h
theorem eR{f:Nat}{fn:Func}{ks:List sB}{ats rts:List Ty}{F:eB ats→Option (eB rts)}{sh:List (Bool×Nat)}{own:List Nat}(n:Nat){l:List (Nat×bB)}
  (hp:Ph l) (hf:prog.funcs[f]?=some fn) (an:An)
  (he:(okB n ks.length l fn ks ats,λx=>zat ⟨prog,λt=>RC t TL,λf=>hG f l,n,IL⟩ fn (fn.body.getD .skip) an ks own sh rts (fB ats x))=(true,F):=by kernel_rfl):
  BB prog f (jB ks ats rts F sh own false):=eC n hp hf an F (λ_ _ h=>h) he
theorem eP{f:Nat}{fn:Func}{m:Nat}{ats rts:List Ty}{F:eB ats→Option (eB rts)}{sh:List (Bool×Nat)}(n:Nat){l:List (Nat×bB)}
  (hp:Ph l) (hf:prog.funcs[f]?=some fn) (an:An) (Raw:eB ats→Option (eB rts))
  (DX:∀{x},xA ats x→∀{r},F x=some r→Raw x=some r)
  (he:(okB n m l fn (eE m) ats,λx=>zd2 ⟨prog,λt=>RC t TL,λf=>hG f l,n,IL⟩ fn (fn.body.getD .skip) an (eE m) rts (fB ats x))=(true,Raw):=by kernel_rfl):BB prog f (jB (eE m) ats rts F sh [] true):=by
 obtain⟨h0,h1⟩:=Prod.mk.inj he;obtain⟨ha,hb⟩:=Bool.and_eq_true_iff.1 h0;exact evP n zk0 zmN (ph l ha hp) hf an Raw hb (λx=>congrFun h1 x) λ_ _ hb h=>DX hb h
theorem eQ{f:Nat}{fn:Func}{m:Nat}{ats rts:List Ty}{F:eB ats→Option (eB rts)}{sh:List (Bool×Nat)}(n:Nat){l:List (Nat×bB)}
  (hp:Ph l) (hf:prog.funcs[f]?=some fn) (an:An)
  (he:(okB n m l fn (eE m) ats,λx=>zd2 ⟨prog,λt=>RC t TL,λf=>hG f l,n,IL⟩ fn (fn.body.getD .skip) an (eE m) rts (fB ats x))=(true,F):=by kernel_rfl):
  BB prog f (jB (eE m) ats rts F sh [] true):=eP n hp hf an F (λ_ _ h=>h) he
theorem eD{f:Nat}{fn:Func}{ks:List sB}{ats rts:List Ty}{G:eB ats→eB rts}{sh:List (Bool×Nat)}{own:List Nat}(n:Nat){l:List (Nat×bB)}
  (hp:Ph l) (hf:prog.funcs[f]?=some fn) (an:An) (Raw:eB ats→Option (eB rts))
  (DX:∀{x},xA ats x→Raw x=some (G x))
  (he:(okB n ks.length l fn ks ats,λx=>zat ⟨prog,λt=>RC t TL,λf=>hG f l,n,IL⟩ fn (fn.body.getD .skip) an ks own sh rts (fB ats x))=(true,Raw):=by kernel_rfl):BB prog f (jB ks ats rts (λx=>some (G x)) sh own false):=eC n hp hf an Raw (λhb _ h=>(DX hb).trans h) he
abbrev mA:Ty:= .sl .byte
abbrev yA:Ty:= .v .bool
abbrev OA:Ty:= .cells .Cur
abbrev gA:Ty:= .v .int
abbrev nI:Ty:= .v .Dice
abbrev tE:Ty:= .sl .int
abbrev NM:Ty:= .v .Jar
abbrev XD:Ty:= .v .Tab
abbrev kE:Ty:= .v .Ep
abbrev bC:Ty:= .v .Chan
abbrev PB:Ty:= .v .Addr
abbrev RE:Ty:= .v .Win
abbrev OD:Ty:= .v .Paths
abbrev PC:Ty:= .v .Sess
abbrev ZE:Ty:= .sl .Credit
abbrev gD:Ty:= .v .Server
abbrev mK:Ty:= .sl .bs
abbrev rC:Ty:= .v .Client
abbrev dF:Ty:= .v .Note
abbrev zE:Ty:= .v .World
abbrev BF:Ty:= .sl .Wire
abbrev SC:Ty:= .sl .Note
abbrev zB:Ty:= .v .Frame
abbrev jI:Ty:= .v .Timer
abbrev AH:Ty:= .sl .Frame
abbrev IS:Ty:= .v .Wire
abbrev ZG:Ty:= .cells .World
abbrev rG:Ty:= .sl .Out
abbrev zb9:Ty:= .cells .bs
abbrev xV:Ty:= .v .Hash
def tnS:TN→Nat×List Nat
 | .Addr=>(2,[])
 | .Cand=>(4,[2])
 | .Chan=>(15,[1,3,6,8,11,14])
 | .Client=>(41,[1,5,8,9,11,12,15,16,18,20,23,25,28,31])
 | .Dice=>(2,[0])
 | .Ep=>(5,[1,4])
 | .Frame=>(11,[2,3,5,6,9,10])
 | .Hash=>(3,[0,1])
 | .Jar=>(1,[0])
 | .Note=>(12,[3,4,7,8])
 | .Paths=>(3,[2])
 | .Server=>(7,[0,1,2,5,6])
 | .Sess=>(24,[1,2,4,6,9,11,14,17,20])
 | .Tab=>(2,[1])
 | .Timer=>(4,[])
 | .Win=>(2,[1])
 | .Wire=>(5,[4])
 | .World=>(14,[1,2,3,4,7,8,9,11,12,13])
 | _=>(0,[])
def tyS:Ty→Bool×Nat
 | .v n=>match(tnS n).1 with
  | 0=>(false,1)
  | k=>(true,k)
 | _=>(false,1)
def tyO:Nat→List Ty→List Nat
 | _,[]=>[]
 | p, .v n :: l=>(tnS n).2.map (λi=>p+i)++tyO (p+(tyS (.v n)).2) l
 | p,_ :: l=>p :: tyO (p+1) l
abbrev CT(n:Nat)(c:bB):=BB prog n c
abbrev cA(a r:List Ty)(F:eB a→Option (eB r)):=jB (eE a.length) a r F (r.map tyS) (tyO 0 r) false
abbrev cN(a r:List Ty)(F:eB a→Option (eB r)):=jB (eE a.length) a r F (r.map tyS) [] false
abbrev cE(a r:List Ty)(F:eB a→Option (eB r))(o:List Nat):=jB (eE a.length) a r F (r.map tyS) o false
abbrev rA:=iC.slot
abbrev fA:=iC.box
abbrev vA:=iC.own
def jj(a:List iC)(b:List (Nat×Nat)):JI:=⟨a,b,[]⟩
def jk(n:Nat)(a:List iC)(b:List (Nat×Nat)):Nat×JI:=(n,⟨a,b,[]⟩)
def jq(n s a b:Nat):Nat×JI:=(n,⟨[.slot s (.v .bool)],[(a,b)],[]⟩)
def jr(r:List (Nat×JI)):An:=⟨[],[],[],r,[]⟩
def jl(b l:List (Nat×JI)):An:=⟨[],b,l,[],[]⟩
def jc(c:List (Nat×JI)):An:=⟨c,[],[],[],[]⟩
def jm(b l r:List (Nat×JI)):An:=⟨[],b,l,r,[]⟩
def jn(c r:List (Nat×JI)):An:=⟨c,[],[],r,[]⟩
theorem QA{g0:Nat}{k0:bB}(h0:BB prog g0 k0):Ph [(g0,k0)]:=⟨h0,trivial⟩
theorem yB{g0:Nat}{k0:bB}{g1:Nat}{k1:bB}(h0:BB prog g0 k0)(h1:BB prog g1 k1):Ph [(g0,k0),(g1,k1)]:=⟨h0,h1,trivial⟩
theorem GB{g0:Nat}{k0:bB}{g1:Nat}{k1:bB}{g2:Nat}{k2:bB}(h0:BB prog g0 k0)(h1:BB prog g1 k1)(h2:BB prog g2 k2):Ph [(g0,k0),(g1,k1),(g2,k2)]:=⟨h0,h1,h2,trivial⟩
theorem mC{g0:Nat}{k0:bB}{g1:Nat}{k1:bB}{g2:Nat}{k2:bB}{g3:Nat}{k3:bB}(h0:BB prog g0 k0)(h1:BB prog g1 k1)(h2:BB prog g2 k2)(h3:BB prog g3 k3):Ph [(g0,k0),(g1,k1),(g2,k2),(g3,k3)]:=⟨h0,h1,h2,h3,trivial⟩
theorem vD{g0:Nat}{k0:bB}{g1:Nat}{k1:bB}{g2:Nat}{k2:bB}{g3:Nat}{k3:bB}{g4:Nat}{k4:bB}(h0:BB prog g0 k0)(h1:BB prog g1 k1)(h2:BB prog g2 k2)(h3:BB prog g3 k3)(h4:BB prog g4 k4):Ph [(g0,k0),(g1,k1),(g2,k2),(g3,k3),(g4,k4)]:=⟨h0,h1,h2,h3,h4,trivial⟩
theorem QE{g0:Nat}{k0:bB}{g1:Nat}{k1:bB}{g2:Nat}{k2:bB}{g3:Nat}{k3:bB}{g4:Nat}{k4:bB}{g5:Nat}{k5:bB}(h0:BB prog g0 k0)(h1:BB prog g1 k1)(h2:BB prog g2 k2)(h3:BB prog g3 k3)(h4:BB prog g4 k4)(h5:BB prog g5 k5):Ph [(g0,k0),(g1,k1),(g2,k2),(g3,k3),(g4,k4),(g5,k5)]:=⟨h0,h1,h2,h3,h4,h5,trivial⟩
theorem kG{g0:Nat}{k0:bB}{g1:Nat}{k1:bB}{g2:Nat}{k2:bB}{g3:Nat}{k3:bB}{g4:Nat}{k4:bB}{g5:Nat}{k5:bB}{g6:Nat}{k6:bB}(h0:BB prog g0 k0)(h1:BB prog g1 k1)(h2:BB prog g2 k2)(h3:BB prog g3 k3)(h4:BB prog g4 k4)(h5:BB prog g5 k5)(h6:BB prog g6 k6):Ph [(g0,k0),(g1,k1),(g2,k2),(g3,k3),(g4,k4),(g5,k5),(g6,k6)]:=⟨h0,h1,h2,h3,h4,h5,h6,trivial⟩
theorem KL{g0:Nat}{k0:bB}{g1:Nat}{k1:bB}{g2:Nat}{k2:bB}{g3:Nat}{k3:bB}{g4:Nat}{k4:bB}{g5:Nat}{k5:bB}{g6:Nat}{k6:bB}{g7:Nat}{k7:bB}(h0:BB prog g0 k0)(h1:BB prog g1 k1)(h2:BB prog g2 k2)(h3:BB prog g3 k3)(h4:BB prog g4 k4)(h5:BB prog g5 k5)(h6:BB prog g6 k6)(h7:BB prog g7 k7):Ph [(g0,k0),(g1,k1),(g2,k2),(g3,k3),(g4,k4),(g5,k5),(g6,k6),(g7,k7)]:=⟨h0,h1,h2,h3,h4,h5,h6,h7,trivial⟩
theorem IE{g0:Nat}{k0:bB}{g1:Nat}{k1:bB}{g2:Nat}{k2:bB}{g3:Nat}{k3:bB}{g4:Nat}{k4:bB}{g5:Nat}{k5:bB}{g6:Nat}{k6:bB}{g7:Nat}{k7:bB}{l:List (Nat×bB)}(h0:BB prog g0 k0)(h1:BB prog g1 k1)(h2:BB prog g2 k2)(h3:BB prog g3 k3)(h4:BB prog g4 k4)(h5:BB prog g5 k5)(h6:BB prog g6 k6)(h7:BB prog g7 k7)(h:Ph l):Ph ((g0,k0) :: (g1,k1) :: (g2,k2) :: (g3,k3) :: (g4,k4) :: (g5,k5) :: (g6,k6) :: (g7,k7) :: l):=⟨h0,h1,h2,h3,h4,h5,h6,h7,h⟩
theorem c6:CT 6 (cA [mA] [yA] (λx=>some (DT x))):=eD 6 pn func6 a0 Si zc3.ok
theorem c27:CT 27 (jB (eE 1) [mA] [OA] Gi [(false,1)] [] true):=eQ 32 pn func27 (jm [jk 0 [rA 3 gA] [(4,4),(8,27)]] [jk 3 [rA 3 gA,rA 4 gA] [(8,27)]] [jq 3 15 8 14])
theorem c29:CT 29 (cA [mA,gA] [gA] (u2 Ke)):=eR 15 pn func29 a0
theorem c84:CT 84 (jB [.ptr []] [OA] [gA,OA] Cd [(false,1)] [] false):=eR 58 pn func84 (jc [jk 2228229 [rA 3 gA,fA 0 .Cur []] [(35,56)]])
theorem wC:CT 35 (jB [.ptr [], .plain] [OA,gA] [gA,OA] (u2 Ar) [(false,1)] [] false):=eR 31 (QA c84) func35 a0
theorem XG:CT 32 (jB [.ptr [], .plain] [OA,gA] [yA,OA] (u2 Bb) [(false,1)] [] false):=eR 9 (QA wC) func32 a0
theorem LD:CT 34 (jB [.ptr [], .plain] [OA,gA] [mA,OA] (u2 Ay) [(false,1)] [0] false):=eR 20 (QA c84) func34 (jl [jk 0 [vA 5 .byte,fA 0 .Cur []] [(6,6),(8,18)]] [jk 3 [vA 5 .byte,rA 6 gA,fA 0 .Cur []] [(8,18)]])
theorem zez:CT 145 (cA [nI] [nI] (λx=>dK x)):=eC 10 pn func145 a0 Pw AU.ok
theorem DB:CT 53 (cA [gA,gA,gA] [yA] (λx=>some (eA x.1 x.2.1 x.2.2))):=eD 15 pn func53 (jr [jq 1 6 7 14]) (u3 Qp) zcN.ok
theorem c55:CT 55 (cA [nI] [yA] (λx=>some (ZB x))):=eD 12 (QA DB) func55 (jr [jq 1 2 3 11]) Ro zbB.ok
theorem JJ:CT 345 (cA [mA,gA,gA] [mA] (λx=>VB x.1 x.2.1 x.2.2)):=eC 35 pn func345 (jm [jk 0 [vA 7 .byte] [(8,8),(21,33)]] [jk 5 [vA 7 .byte,rA 8 gA] [(21,33)]] [jq 2 17 12 16]) (u3 Sf) zcv.ok
theorem zzg:CT 408 (cA [gA] [mA] (λx=>dN x)):=eC 27 (QA JJ) func408 (jm [jk 0 [vA 3 .byte] [(12,21)]] [jk 4 [vA 3 .byte] [(12,21)]] [jq 1 9 4 8]) Nl LS.ok
theorem zyM:CT 409 (cA [] [tE] (λ_=>some (EE))):=eD 2 pn func409 a0 (λ_=>Sg) zcn.ok
theorem zyN:CT 439 (cA [tE] [yA] (λx=>some (zdL x))):=eD 19 (QA DB) func439 (jl [jk 0 [] [(2,15)]] [jk 2 [rA 3 gA] [(2,2),(4,15)]]) Nm FQ.ok
theorem zyf:CT 440 (cA [] [tE] (λ_=>some (xI))):=eD 2 pn func440 a0 (λ_=>Sh) zc6.ok
theorem znJ:CT 407 (cA [mA,gA,gA] [gA,gA,yA] (λx=>kH x.1 x.2.1 x.2.2)):=eC 48 pn func407 (jm [jk 0 [rA 9 gA] [(10,10),(29,43)]] [jk 5 [rA 9 gA,rA 10 gA] [(29,43)]] [jq 1 28 11 27]) (u3 Nn) lS.ok
theorem zmW:CT 442 (cA [gA,gA] [gA] (λx=>oE x.1 x.2)):=eC 24 pn func442 (jr [jq 2 13 8 12]) (u2 No) SS.ok
theorem zxU:CT 441 (cA [mA] [tE] (λx=>pM x)):=eC 84 (yB znJ zmW) func441 (jl [jk 0 [vA 3 .int] [(4,7),(18,33)],jk 2 [vA 3 .int] [(8,12),(34,82)]] [jk 5 [vA 3 .int,rA 4 gA] [(5,7),(18,33)],jk 10 [vA 3 .int,rA 8 gA] [(9,12),(34,82)]]) Np PP.ok
theorem zxP:CT 410 (cA [tE,mA] [tE] (λx=>aL x.1 x.2)):=eC 156 (mC zyN zyf zxU zmW) func410 (jm [jk 0 [rA 8 gA,rA 9 gA,rA 10 gA,rA 11 gA,rA 12 gA,rA 13 gA,rA 14 gA,rA 15 gA] [(16,18),(60,128)],jk 2 [vA 5 .int] [(20,20),(138,154)]] [jk 8 [rA 8 gA,rA 9 gA,rA 10 gA,rA 11 gA,rA 12 gA,rA 13 gA,rA 14 gA,rA 15 gA,rA 16 gA] [(17,18),(60,128)],jk 22 [rA 20 gA,vA 5 .int] [(138,154)]] [jq 2 31 24 30]) (u2 Nq) UP.ok
theorem zx1:CT 411 (cA [tE] [mA] (λx=>UK x)):=eC 17 (QA JJ) func411 (jl [jk 0 [vA 3 .byte] [(4,4),(6,15)]] [jk 3 [vA 3 .byte,rA 4 gA] [(6,15)]]) Nr UR.ok
theorem zoi:CT 357 (cA [mA] [mA] (λx=>some (JE x))):=eD 33 (mC zzg zyM zxP zx1) func357 (jl [(0,⟨[vA 4 .int],[(5,5),(18,30)],[3]⟩)] [jk 6 [vA 4 .int,rA 5 gA] [(18,30)]]) Ns QS.ok
theorem zxE:CT 356 (cA [mA] [mA] (λx=>some (iE x))):=eD 23 (QA zoi) func356 ⟨[jk 851974 [vA 3 .byte] [(14,15)]],[jk 0 [vA 3 .byte] [(16,21)]],[jk 6 [vA 3 .byte] [(16,21)]],[],[]⟩ Nt YP.ok
theorem yT:CT 271 (cA [mA,mA] [mA] (λx=>some (XC x.1 x.2))):=eD 49 (yB zxE zoi) func271 (jm [jk 0 [vA 6 .byte,vA 7 .byte] [(8,8),(22,41)]] [jk 7 [vA 6 .byte,vA 7 .byte,rA 8 gA] [(22,41)]] [jq 1 16 9 15]) (u2 Nu) zS.ok
theorem znD:CT 255 (cA [mA,gA] [mA] (λx=>some (zD x.1 x.2))):=eD 24 (GB DB yT JJ) func255 (jr [jq 1 13 5 12]) (u2 Nv) zR.ok
theorem zex:CT 149 (cA [nI] [nI,mA] (λx=>ZD x)):=eC 27 (GB c55 zez znD) func149 (jr [jq 2 14 7 13]) Px gV.ok
theorem zyP:CT 358 (cA [mA,mA,gA] [mA,yA] (λx=>some (gH x.1 x.2.1 x.2.2))):=eD 52 (yB DB yT) func358 (jm [jk 0 [vA 8 .byte,vA 9 .byte] [(10,10),(27,46)]] [jk 6 [vA 8 .byte,vA 9 .byte,rA 10 gA] [(27,46)]] [jq 1 23 11 22]) (u3 Nx) FR.ok
theorem fN:CT 273 (cA [mA, .v .str] [mA] (λx=>ME x.1 x.2)):=eC 15 (QA zyP) func273 a0 (u2 Py) PU.ok
theorem zhO:CT 275 (cA [mA] [NM] (λx=>some (eG x))):=eD 10 (QA fN) func275 a0 Pz WU.ok
theorem zhS:CT 276 (cA [gA] [XD] (λx=>some (lE x))):=eD 9 (QA DB) func276 a0 Qa KU.ok
theorem zhx:CT 126 (cA [NM] [yA] (λx=>some (PE x))):=eD 7 pn func126 a0 Rp zb8.ok
theorem znR:CT 238 (cA [XD] [gA] (λx=>wJ x)):=eC 22 pn func238 ⟨[jk 1179655 [rA 3 gA] [(19,20)]],[jk 0 [rA 3 gA] [(4,20)]],[jk 3 [rA 3 gA,rA 4 gA] [(5,20)]],[],[]⟩ Rq zcu.ok
theorem zn9:CT 241 (cA [kE] [yA] (λx=>some (VF x))):=eD 30 pn func241 (jr [jq 1 2 3 29]) Lj IQ.ok
theorem znT:CT 134 (cA [bC] [yA] (λx=>some (tC x))):=eD 38 (QA zn9) func134 (jr [jq 1 2 3 37]) Me DP.ok
theorem HJ:CT 159 (cA [gA] [PB] (λx=>some (vB x))):=eD 12 (QA DB) func159 a0 Rc zcB.ok
theorem znM:CT 395 (cA [RE,gA] [yA] (λx=>XF x.1 x.2)):=eC 19 pn func395 a0 (u2 Qu) zcl.ok
theorem znZ:CT 340 (cA [RE] [yA] (λx=>some (dD x))):=eD 46 (yB DB znM) func340 (jm [jk 0 [] [(2,3),(15,25)],jk 2 [] [(2,2),(4,4),(39,45)]] [jk 4 [rA 3 gA] [(2,2),(15,25)],jk 11 [rA 4 gA] [(2,2),(39,45)]] [jq 1 14 5 13,jq 8 35 26 34]) Li YR.ok
theorem zhl:CT 242 (cA [kE] [yA] (λx=>some (YC x))):=eD 22 (yB DB znZ) func242 (jr [jq 1 2 3 21]) Qv zcr.ok
theorem AI:CT 135 (cA [bC] [yA] (λx=>uC x)):=eC 74 (GB DB zn9 zhl) func135 (jn [jk 1376261 [] [(2,3),(22,54)],jk 1572871 [rA 3 gA] []] [jq 1 19 4 18,jq 7 45 25 44,jq 9 54 46 53,jq 13 2 59 73]) Lk dR.ok
theorem LL:CT 58 (cA [mA,mA] [yA] (λx=>FB x.1 x.2)):=eC 10 pn func58 a0 (u2 Qs) zbN.ok
theorem TG:CT 131 (cA [PB] [yA] (λx=>some (GA x))):=eD 11 (QA DB) func131 (jr [jq 1 2 3 10]) Ra zbq.ok
theorem zeC:CT 339 (cA [OD] [yA] (λx=>some (sC x))):=eD 65 (yB DB TG) func339 (jm [jk 0 [] [(2,5),(16,64)],jk 2 [] [(2,2),(5,5),(51,64)]] [jk 4 [rA 3 gA] [(2,2),(4,5),(16,64)],jk 10 [rA 5 gA] [(2,2),(51,64)]] [jq 1 15 6 14,jq 7 50 28 49]) Mf LQ.ok
theorem QO:CT 239 (cA [PC] [yA] (λx=>KD x)):=eC 77 (QE DB LL znT AI HJ zeC) func239 (jr [jq 1 30 3 29,jq 4 2 33 54,jq 5 2 55 76]) Mg jR.ok
theorem zej:CT 240 (cA [XD,mA] [gA] (λx=>ID x.1 x.2)):=eC 22 (QA LL) func240 (jl [jk 0 [] [(4,21)]] [jk 2 [rA 5 gA] [(4,4),(6,21)]]) (u2 Rr) zbL.ok
theorem zhW:CT 127 (cA [XD] [yA] (λx=>uG x)):=eC 47 (mC DB znR QO zej) func127 (jm [jk 0 [] [(2,3),(21,46)]] [jk 4 [rA 3 gA] [(2,2),(21,46)]] [jq 1 20 4 19,jq 6 46 28 45]) Mh QR.ok
theorem zen:CT 128 (cA [ZE] [yA] (λx=>some (iD x))):=eD 61 (yB DB TG) func128 (jm [jk 0 [] [(2,4),(8,60)],jk 2 [] [(2,2),(4,4),(45,60)]] [jk 4 [rA 3 gA] [(2,2),(4,4),(8,60)],jk 9 [rA 4 gA] [(2,2),(45,60)]] [jq 6 44 14 43]) Mi FP.ok
theorem sT:CT 129 (cA [mA] [yA] (λx=>some (AC x))):=eD 6 (QA DB) func129 a0 Rs zch.ok
theorem lN:CT 54 (cA [gD] [yA] (λx=>HC x)):=eC 67 (QE DB c55 zhx zhW zen sT) func54 (jm [jk 0 [] [(2,3),(34,47)],jk 2 [] [(2,2),(4,4),(48,66)]] [jk 4 [rA 3 gA] [(2,2),(34,47)],jk 9 [rA 4 gA] [(2,2),(48,66)]] [jq 1 33 5 32]) Rt za1.ok
theorem zof:CT 299 (cA [mK,mA,gA] [gD] (λx=>KR x.1 x.2.1 x.2.2)):=eC 45 (mC lN zex zhO zhS) func299 (jl [jk 0 [fA 9 .Server [0,1,2,5,6]] [(10,10),(23,39)]] [jk 4 [rA 10 gA,fA 9 .Server [0,1,2,5,6]] [(23,39)]]) (u3 Qb) WT.ok
theorem zyb:CT 343 (cA [mA] [mA] (λx=>zdh x)):=eC 15 pn func343 (jc [jk 589828 [vA 3 .byte] [(10,11)]]) Qc DU.ok
theorem zh0:CT 289 (cA [gA,mA,PB] [rC] (λx=>XI x.1 x.2.1 x.2.2)):=eC 27 (GB DB sT TG) func289 (jr [jq 1 19 7 18]) (u3 Qd) cU.ok
theorem zel:CT 151 (cA [mA] [dF] (λx=>TD x)):=eC 7 pn func151 a0 Qe aU.ok
theorem zyD:CT 247 (cA [mA,mA,mA,gA] [zE] (λx=>zcJ x.1 x.2.1 x.2.2.1 x.2.2.2)):=eC 46 (kG lN zel HJ znD zh0 zof zyb) func247 a0 (u4 Qf) lU.ok
theorem zyx:CT 142 (jB [.ptr []] [OA] [zE,OA] Gj [(true,14)] [1,2,3,4,7,8,9,11,12,13] false):=eR 13 (GB LD wC zyD) func142 a0
theorem znL:CT 397 (cA [RE] [RE] (λx=>(λ(a0:Aq)=>nA a0) x)):=eC 10 pn func397 a0 Or uR.ok
theorem zei:CT 347 (cA [kE] [kE] (λx=>(λ(a0:Ax)=>nA a0) x)):=eC 15 (QA znL) func347 a0 Ot tR.ok
theorem zzV:CT 348 (cA [kE,yA] [kE] (λx=>zdI x.1 x.2)):=eC 27 (QA zei) func348 a0 (u2 Ou) PR.ok
theorem AK:CT 254 (cA [bC] [bC] (λx=>(λ(a0:Ak)=>nA a0) x)):=eC 26 (yB zei zzV) func254 a0 Ov aR.ok
theorem zeA:CT 427 (cA [.v .Cand] [.v .Cand] (λx=>DH x)):=eC 12 pn func427 a0 Ry zbi.ok
theorem zew:CT 379 (cA [OD] [OD] (λx=>(λ(a0:Aj)=>nA a0) x)):=eC 27 (QA zeA) func379 (jl [jk 0 [fA 3 .Paths [2]] [(4,4),(8,25)]] [jk 3 [rA 4 gA,fA 3 .Paths [2]] [(8,25)]]) Ow QQ.ok
theorem MO:CT 305 (cA [PC] [PC] (λx=>(λ(a0:Ai)=>nA a0) x)):=eC 24 (yB AK zew) func305 a0 Ox RQ.ok
theorem zhD:CT 251 (cA [XD] [XD] (λx=>(λ(a0:Ap)=>nA a0) x)):=eC 27 (QA MO) func251 (jl [jk 0 [fA 3 .Tab [1]] [(4,4),(8,25)]] [jk 3 [rA 4 gA,fA 3 .Tab [1]] [(8,25)]]) Oy uQ.ok
theorem vT:CT 144 (cA [gD] [gD] (λx=>(λ(a0:Ac)=>nA a0) x)):=eC 42 (yB zez zhD) func144 (jl [jk 0 [fA 3 .Server [0,1,2,5,6]] [(4,4),(22,40)]] [jk 3 [rA 4 gA,fA 3 .Server [0,1,2,5,6]] [(22,40)]]) Oz MQ.ok
theorem zAb:CT 146 (cA [BF] [BF] (λx=>(λ(a0:List Am)=>nA a0) x)):=eC 34 pn func146 (jl [jk 0 [vA 3 .Wire] [(4,4),(6,32)]] [jk 3 [vA 3 .Wire,rA 4 gA] [(6,32)]]) Pa wQ.ok
theorem zzK:CT 252 (cA [dF] [dF] (λx=>(λ(a0:Ae)=>nA a0) x)):=eC 24 pn func252 a0 Pb ZQ.ok
theorem zzk:CT 147 (cA [SC] [SC] (λx=>(λ(a0:List Ae)=>nA a0) x)):=eC 21 (QA zzK) func147 (jl [jk 0 [vA 3 .Note] [(4,4),(6,19)]] [jk 3 [vA 3 .Note,rA 4 gA] [(6,19)]]) Pd JR.ok
theorem zeu:CT 253 (cA [zB] [zB] (λx=>(λ(a0:Ab)=>nA a0) x)):=eC 34 pn func253 a0 Pe BR.ok
theorem eN:CT 148 (cA [rC] [rC] (λx=>(λ(a0:Ad)=>nA a0) x)):=eC 24 (yB zeu AK) func148 a0 Pf DQ.ok
theorem c66:CT 66 (cA [zE] [zE] (λx=>(λ(a0:Aa)=>nA a0) x)):=eC 59 (vD vT zez zAb zzk eN) func66 (jl [jk 0 [fA 3 .World [1,2,3,4,7,8,9,11,12,13]] [(4,4),(21,38)],jk 2 [fA 3 .World [1,2,3,4,7,8,9,11,12,13]] [(5,5),(39,57)]] [jk 3 [rA 4 gA,fA 3 .World [1,2,3,4,7,8,9,11,12,13]] [(21,38)],jk 7 [rA 5 gA,fA 3 .World [1,2,3,4,7,8,9,11,12,13]] [(39,57)]]) Pg KQ.ok
theorem DD:CT 31 (jB [.ptr [], .plain] [OA,tE] [gA,OA] (u2 As) [(false,1)] [] false):=eR 12 (QA wC) func31 a0
theorem zzO:CT 344 (jB [.ptr []] [OA] [.v .Op,OA] Kd [(true,4)] [3] false):=eR 25 (GB DD LD wC) func344 (jc [jk 655364 [fA 0 .Cur [],fA 3 .Op [3]] [(11,16)]])
theorem zmS:CT 269 (cA [gA] [gA] Di):=eR 9 pn func269 a0
theorem zzy:CT 248 (jB [.ptr [], .plain] [OA,gA] [.sl .Op,OA] (u2 Is) [(false,1)] [0] false):=eR 53 (GB wC zmS zzO) func248 (jm [jk 0 [vA 5 .Op,rA 6 gA,fA 0 .Cur []] [(7,9),(15,43)],jk 2 [fA 0 .Cur [],fA 8 .Op [3]] [(9,9),(21,33)],jk 4 [vA 5 .Op] [(6,6),(44,51)]] [jk 4 [vA 5 .Op,rA 6 gA,rA 7 gA,fA 0 .Cur []] [(8,9),(15,43)],jk 8 [rA 9 gA,fA 0 .Cur [],fA 8 .Op [3]] [(21,33)],jk 13 [vA 5 .Op,rA 6 gA] [(44,51)]] [jq 8 29 21 28])
theorem zzb:CT 249 (jB [.ptr []] [OA] [gA,mA,OA] Iu [(false,1),(false,1)] [1] false):=eR 25 (GB DD LD wC) func249 a0
theorem zeo:CT 371 (cA [gA,mA,gA,gA] [mA] (u4 Ce)):=eR 37 (yB DB JJ) func371 (jr [jq 1 26 9 25])
theorem VO:CT 243 (cA [gA] [yA] (λx=>some (fC x))):=eD 5 (QA DB) func243 a0 Rw zbU.ok
theorem zhX:CT 244 (cA [gA,gA] [yA] (λx=>some (dG x.1 x.2))):=eD 19 pn func244 (jr [jq 3 14 9 13]) (u2 Pr) HU.ok
theorem zyW:CT 412 (cA [mA,mA,gA] [mA] (u3 Gk)):=eR 23 (GB DB yT JJ) func412 (jr [jq 1 14 7 13])
theorem zy8:CT 359 (cA [mA,mA,gA] [mA] (u3 Fa)):=eR 41 (yB DB zyW) func359 (jm [jk 0 [vA 7 .byte] [(8,8),(24,35)]] [jk 5 [vA 7 .byte,rA 8 gA] [(24,35)]] [jq 1 21 9 20])
theorem zhv:CT 274 (cA [mA,mA,mA] [mA] (u3 Ea)):=eR 49 (QA zy8) func274 (jm [jk 0 [vA 7 .byte] [(9,9),(30,47)]] [jk 6 [vA 7 .byte,rA 9 gA] [(30,47)]] [jq 2 23 11 22])
theorem FL:CT 136 (cA [zB] [yA] (λx=>some (AB x))):=eD 174 (GB DB VO zhX) func136 (jr [jq 2 2 6 61,jq 3 87 62 86,jq 7 2 92 117,jq 9 2 120 145,jq 11 2 148 173]) Ml UQ.ok
theorem SO:CT 346 (cA [gA,zB] [mA] (u2 Bv)):=eR 40 (mC DB FL VO zeo) func346 (jr [jq 1 19 6 18])
theorem zaD:CT 272 (cA [mA,mA] [mA] (u2 Ct)):=eR 17 (QA yT) func272 a0
theorem zhE:CT 293 (cA [mA,gA,mA,gA,gA,gA,mA] [zB,yA] (u7 Eb)):=eR 72 (QE VO zhX zaD zhv SO zeo) func293 (jm [jk 0 [fA 17 .Frame [2,3,5,6,9,10]] [(18,18),(56,64)]] [jk 6 [rA 18 gA,fA 17 .Frame [2,3,5,6,9,10]] [(56,64)]] [jq 2 43 24 42])
theorem zys:CT 250 (cA [mA,gA,gA,mA,gA,gA,gA,mA] [.sl .Op] (u8 Iv)):=eR 65 (mC DB zhE JJ SO) func250 (jr [jq 2 37 31 36])
theorem zzU:CT 143 (jB [.ptr [], .plain, .ptr [], .plain] [OA,zE, .cells .int,yA] [.v .Event,OA, .cells .int] (u4 Iw) [(true,6)] [4] false):=eR 239 (kG DD XG LD wC zzy zzb zys) func143 (jn [jk 5111823 [fA 0 .Cur [],fA 9 .Event [4,5]] [(79,86)],jq 6225941 95 97 97,jk 6225942 [fA 9 .Event [4],fA 0 .Cur []] [(10,15),(98,204)],jk 6881305 [fA 0 .Cur [],fA 9 .Event [4]] [(10,14),(106,155)],jk 8060956 [rA 11 mA] [(124,129)],(10027040,⟨[fA 9 .Event [4]],[(154,155)],[14]⟩),jk 10223650 [fA 9 .Event [4,5],fA 0 .Cur []] [(15,15),(158,204)],jk 10420260 [fA 9 .Event [4,5],fA 0 .Cur []] [(15,15),(161,204)],jk 10616870 [fA 9 .Event [4,5],fA 0 .Cur []] [(15,15),(164,204)],jk 11010089 [fA 9 .Event [4,5],fA 0 .Cur []] [(15,15),(170,204)],jk 11206699 [fA 9 .Event [4,5],fA 0 .Cur []] [(15,15),(173,204)],jk 11599918 [fA 0 .Cur [],fA 9 .Event [4,5]] [(15,15),(179,204)],jk 11796527 [fA 9 .Event [4,5],fA 0 .Cur []] [(181,184)],jk 12124210 [fA 9 .Event [4,5],fA 0 .Cur []] [(15,15),(187,204)],jq 13434934 205 207 208,jq 13434935 205 208 208,jk 13434936 [fA 9 .Event [4],fA 0 .Cur [],fA 8 .Event [4,5]] [(10,15),(64,204),(209,237)],jq 14090299 215 217 217,jk 14090300 [fA 9 .Event [4],fA 0 .Cur [],fA 8 .Event [4,5]] [(10,15),(64,204),(218,237)],jq 14876736 227 229 229,jk 14876737 [fA 9 .Event [4],fA 0 .Cur [],fA 8 .Event [4,5]] [(10,15),(64,204),(230,237)],jk 15138883 [fA 9 .Event [4],fA 0 .Cur [],fA 8 .Event [4,5]] [(10,15),(64,204),(233,237)],jq 15335493 234 236 236,jk 15335494 [fA 9 .Event [4],fA 0 .Cur [],fA 8 .Event [4,5]] [(10,15),(64,204),(237,237)]] [jk 2 [rA 34 yA,fA 0 .Cur []] [(23,33)],jk 7 [rA 59 yA,fA 0 .Cur []] [(47,58)],jk 13 [rA 78 yA,fA 0 .Cur []] [(71,77)],jk 26 [rA 123 yA,fA 0 .Cur []] [(117,122)]])
theorem c67:CT 67 (cA [.v .Event] [yA] (λx=>some (sG x))):=eD 33 (QA DB) func67 (jr [jq 1 2 3 32]) Qq zbd.ok
theorem zmX:CT 132 (cA [jI] [yA] (λx=>some (tD x))):=eD 37 (QA DB) func132 (jr [jq 3 2 9 36]) Mj oQ.ok
theorem zzS:CT 133 (cA [zB] [yA] (λx=>some (IF x))):=eD 62 pn func133 (jr [jq 1 2 3 61]) Mk lP.ok
theorem mN:CT 57 (cA [rC] [yA] (λx=>GD x)):=eC 204 (IE DB LL sT TG zmX zzS znT AI (QA FL)) func57 (jr [jq 1 36 3 35,jq 4 2 40 70,jq 8 2 78 108,jq 9 122 109 121,jq 12 2 126 133,jq 13 2 134 203]) Mm gQ.ok
theorem BT:CT 256 (cA [gA] [jI] Bf):=eR 10 (QA DB) func256 a0
theorem znj:CT 257 (cA [rC] [zB] Fb):=eR 10 pn func257 a0
theorem zm5:CT 150 (cA [rC,gA,mA] [rC,AH,SC,gA] (u3 Fc)):=eR 57 (vD DB mN eN BT znj) func150 (jr [jq 2 26 14 25])
theorem c85:CT 85 (cA [] [PB] (λ_=>some (MD))):=eD 2 (QA HJ) func85 a0 (λ_=>Rd) zc1.ok
theorem zhr:CT 351 (cA [zB] [mA] Bj):=eR 91 (yB FL JJ) func351 ⟨[jk 2097161 [vA 3 .byte] [(4,4),(15,31),(34,89)],jk 3276815 [vA 3 .byte] [(15,31),(52,89)],jk 4325394 [vA 3 .byte] [(15,31),(68,89)]],[jk 1 [vA 3 .byte] [(4,4),(43,49)]],[jk 10 [vA 3 .byte,rA 4 gA] [(43,49)]],[],[]⟩
theorem zhz:CT 262 (cA [PB,PB,zB] [IS] (u3 Ec)):=eR 12 (QA zhr) func262 a0
theorem zhw:CT 258 (cA [rC,AH] [BF] (u2 Ed)):=eR 26 (yB c85 zhz) func258 (jl [jk 0 [vA 5 .Wire] [(6,6),(8,24)]] [jk 3 [vA 5 .Wire,rA 6 gA] [(8,24)]])
theorem zht:CT 155 (jB [.ptr [1,11,12,13], .plain, .plain] [ZG,BF,SC] [ZG] (u3 Cf) [] [1,11,12,13] false):=eR 41 pn func155 ⟨[jk 1179653 [fA 0 .World [1,11,12,13]] [(19,31)]],[jk 0 [fA 0 .World [1,11,12,13]] [(6,31)]],[jk 1 [rA 6 gA,fA 0 .World [1,11,12,13]] [(7,31)]],[],[]⟩
theorem zz8:CT 152 (jB [.ptr [1,11,12,13], .plain, .plain, .plain, .plain] [ZG,gA,rC,AH,SC] [ZG] (u5 Dj) [] [1,11,12,13] false):=eR 23 (yB zht zhw) func152 a0
theorem zze:CT 349 (cA [kE,gA,mA,gA,mA] [kE,zB,gA] (u5 Gm)):=eR 78 (QE zhl VO zhX zhE zei zeo) func349 (jr [jq 2 41 18 40,jq 4 50 44 49])
theorem wT:CT 259 (cE [bC,gA,mA] [bC,zB,gA] (u3 Cg) [1,8,11,14,17,18,20,21,24,25]):=eR 40 (GB AI AK zze) func259 (jc [(2228231,⟨[fA 9 .Chan [1,8,11,14]],[(35,36)],[1000010]⟩)])
theorem zh1:CT 350 (cA [mA,mA] [dF] (u2 Ee)):=eR 12 pn func350 a0
theorem UO:CT 260 (cA [bC,zB] [dF] (u2 Bp)):=eR 13 (yB SO zh1) func260 a0
theorem zzv:CT 153 (cE [rC,gA,mA] [rC,AH,SC,gA] (u3 Gn) [1,5,8,9,11,12,15,16,18,25,28,31,41,42]):=eR 75 (vD DB mN eN wT UO) func153 ⟨[],[],[],[jq 2 29 17 28],[(11,[1000012])]⟩
theorem zyo:CT 261 (cE [PC,mA] [PC,rG,SC,gA] (u2 Gp) [1,2,4,11,14,17,20,24,25]):=eR 71 (mC QO wT UO MO) func261 ⟨[],[],[],[jq 2 22 15 21],[(11,[1000010])]⟩
theorem zyS:CT 154 (cA [gD,gA,gA,mA] [gD,rG,SC,gA] (u4 Gq)):=eR 66 (mC DB lN vT zyo) func154 (jn [(3604489,⟨[fA 12 .Server [0,1,2,5,6]],[(56,61)],[1000013]⟩)] [jq 2 26 19 25])
theorem zoe:CT 156 (cA [rG] [BF] Fd):=eR 28 (yB c85 zhz) func156 (jl [jk 0 [vA 3 .Wire] [(4,4),(6,26)]] [jk 3 [vA 3 .Wire,rA 4 gA] [(6,26)]])
theorem zyO:CT 363 (cA [jI,gA] [yA] (u2 Cu)):=eR 21 (yB DB zmX) func363 (jr [jq 1 4 5 20])
theorem zhp:CT 290 (cA [jI,gA] [jI,gA] (u2 Cv)):=eR 29 (QA zyO) func290 (jc [jk 1310728 [rA 6 gA] []])
theorem zoh:CT 277 (cA [rC] [rC] Dk):=eR 10 (QA zh0) func277 a0
theorem znC:CT 352 (cA [bC,gA] [bC] (u2 Bw)):=eR 34 (GB DB AI AK) func352 (jn [jk 1835012 [fA 5 .Chan [1,3,6,8,11,14]] [(29,32)]] [jq 2 28 8 27])
theorem zep:CT 294 (cA [gA] [mA] Bk):=eR 10 (yB DB JJ) func294 a0
theorem zog:CT 266 (cE [bC] [bC,zB,gA] Fe [1,8,11,14,17,18,20,21,24,25]):=eR 27 (mC AI AK wT zep) func266 (jr [jq 1 13 5 12])
theorem zz9:CT 263 (cE [rC,gA] [rC,AH,SC] (u2 Gr) [1,5,8,9,11,12,15,16,41,42]):=eR 159 (IE DB mN eN zeu BT znj UO zog (GB zoh zhp znC)) func263 (jn [jk 4587533 [vA 8 .Frame] [(71,75)],jk 5373967 [vA 8 .Frame] [(83,88)],jk 8585241 [fA 7 .Client [1,5,8,9,11,12,15,16,18,20,23,25,28,31]] [(132,134)],(9371676,⟨[vA 8 .Frame,vA 9 .Note,fA 7 .Client [1,5,8,9,11,12,15,16]],[(144,155)],[1000015,1000014]⟩)] [jq 4 33 21 32,jq 11 70 64 69,jq 13 82 76 81])
theorem pT:CT 190 (cA [PC] [PC] Ch):=eR 21 (yB QO MO) func190 a0
theorem zm0:CT 428 (cA [OD,gA] [OD] (u2 Bx)):=eR 47 (mC DB zeC zew zeA) func428 ⟨[jk 2228233 [fA 5 .Paths [2]] [(35,45)]],[jk 0 [fA 5 .Paths [2]] [(6,6),(20,45)]],[jk 5 [rA 6 gA,fA 5 .Paths [2]] [(20,45)]],[jq 1 14 7 13],[]⟩
theorem zxX:CT 398 (cA [PC,gA] [PC] (u2 Gs)):=eR 39 (QE DB pT QO MO znC zm0) func398 (jr [jq 2 19 8 18])
theorem zx9:CT 353 (cA [XD,gA] [XD] (u2 Gt)):=eR 52 (mC DB zhW zhD zxX) func353 ⟨[(2883594,⟨[fA 5 .Tab [1]],[(45,50)],[1000007]⟩)],[jk 0 [fA 5 .Tab [1]] [(6,7),(21,50)]],[jk 5 [rA 6 gA,fA 5 .Tab [1]] [(7,7),(21,50)]],[jq 1 15 8 14,jq 8 44 35 43],[]⟩
theorem znq:CT 278 (cA [PC] [dF] Ff):=eR 10 pn func278 a0
theorem zyv:CT 264 (cE [gD,gA] [gD,SC] (u2 Gu) [7]):=eR 79 (QE DB lN vT zej znq zx9) func264 ⟨[jk 4325388 [vA 7 .Note] [(67,76)]],[(0,⟨[vA 7 .Note],[(8,9),(28,76)],[1000006]⟩)],[jk 7 [vA 7 .Note,rA 8 gA] [(9,9),(28,76)]],[jq 3 20 13 19,jq 10 66 46 65],[]⟩
theorem zy3:CT 157 (jB [.ptr [1,11,12,13]] [ZG] [BF,ZG] Gv [(false,1)] [0,2,12,13,14] false):=eR 86 (GB zhw zz9 zyv) func157 (jl [jk 0 [vA 3 .Wire,fA 0 .World [1,11,12,13]] [(4,7),(19,59)]] [jk 4 [vA 3 .Wire,rA 4 gA,fA 0 .World [1,11,12,13]] [(5,7),(19,59)]])
theorem zyz:CT 158 (cA [rC,PB] [rC] (u2 Ci)):=eR 17 (GB mN TG eN) func158 (jn [jk 851972 [fA 5 .Client [1,5,8,9,11,12,15,16,18,20,23,25,28,31]] [(14,15)]] [jq 2 13 8 12])
theorem zxK:CT 265 (cA [bC] [bC,yA] Dl):=eR 34 (GB AI AK fN) func265 (jr [jq 2 26 7 25])
theorem zx6:CT 160 (cE [rC,gA] [rC,AH,SC,gA] (u2 Gw) [1,5,8,9,11,12,15,16,18,25,28,31,41,42]):=eR 73 (kG DB mN eN BT UO zxK zog) func160 ⟨[],[],[],[jq 2 23 16 22,jq 4 36 27 35,jq 8 57 52 56],[(12,[1000012])]⟩
theorem c36:CT 36 (cA [zE,PB] [gA] (λx=>KH x.1 x.2)):=eC 30 (QA c85) func36 (jl [jk 0 [] [(4,5),(9,29)]] [jk 4 [rA 5 gA] [(4,4),(9,29)]]) (u2 Lr) VQ.ok
theorem zhY:CT 425 (cA [ZE,PB] [gA] (λx=>some (oB x.1 x.2))):=eD 20 pn func425 (jl [jk 0 [] [(4,19)]] [jk 2 [rA 5 gA] [(4,4),(6,19)]]) (u2 Rz) zci.ok
theorem zoa:CT 376 (cA [ZE,PB,gA] [ZE] (u3 Fg)):=eR 63 (mC DB zen TG zhY) func376 (jn [jk 3735564 [vA 7 .Credit] [(58,61)]] [jq 2 24 12 23])
theorem zn3:CT 355 (cA [mA] [zB,yA] Ef):=eR 140 (yB zhr znJ) func355 (jc [jk 3276815 [fA 2 .Frame [2,3,5,6,9,10],fA 4 .Frame [2,3,5,6,9,10]] [(3,3),(17,49),(52,131)],jk 4325396 [fA 2 .Frame [2,3,5,6,9,10],fA 4 .Frame [2,3,5,6,9,10]] [(3,3),(17,49),(68,131)],jk 6160411 [fA 2 .Frame [2,3,5,6,9,10],fA 4 .Frame [2,3,5,6,9,10]] [(3,3),(17,49),(96,131)]])
theorem znV:CT 431 (cA [XD,PB] [yA] (u2 Dm)):=eR 31 pn func431 (jm [jk 0 [] [(4,30)]] [jk 2 [rA 5 gA] [(4,4),(6,30)]] [jq 4 30 13 29])
theorem zns:CT 426 (cA [ZE,PB] [gA] (u2 By)):=eR 28 (yB zen zhY) func426 (jr [jq 2 15 9 14])
theorem zza:CT 399 (cA [gD,PB,gA] [yA] (u3 Fh)):=eR 19 (yB zns znV) func399 (jr [jq 1 6 7 18])
theorem zya:CT 432 (cA [mA,PB] [mA] (u2 Gx)):=eR 18 (yB TG JJ) func432 a0
theorem znc:CT 401 (cA [PB,gA,mA,mA,gA] [mA] (u5 Eg)):=eR 50 (mC DB TG JJ zya) func401 (jr [jq 1 34 12 33])
theorem znu:CT 400 (cA [NM,PB,gA,mA,mA,gA] [mA] (u6 Fi)):=eR 33 (GB zhx zaD znc) func400 (jr [jq 2 27 20 26])
theorem zyr:CT 433 (cA [gA,gA] [yA] (u2 Cw)):=eR 17 (QA DB) func433 (jr [jq 1 4 5 16])
theorem zyI:CT 450 (cA [mA,mA] [gA] (u2 Bq)):=eR 31 pn func450 (jl [jk 0 [rA 5 gA] [(6,6),(12,29)]] [jk 5 [rA 5 gA,rA 6 gA] [(12,29)]])
theorem zhQ:CT 434 (cA [mA,mA] [yA] (u2 Bm)):=eR 14 (QA zyI) func434 (jr [jq 1 4 5 13])
theorem zzT:CT 402 (cA [NM,gA,PB,zB] [gA] (u4 Gy)):=eR 52 (kG DB zhx TG FL znu zyr zhQ) func402 (jr [jq 1 31 9 30])
theorem zm9:CT 420 (cA [mA,mA] [mA] (u2 Bz)):=eR 8 (QA yT) func420 a0
theorem zhJ:CT 366 (cA [mA] [mA] Bh):=eR 12 (GB sT fN zm9) func366 a0
theorem zhu:CT 367 (cA [gA,mA,mA,gA,mA] [mA] (u5 Eh)):=eR 48 (yB DB JJ) func367 (jr [jq 1 34 12 33])
theorem znP:CT 380 (cA [mA,gA,mA,mA,gA,mA] [mA] (u6 Fj)):=eR 35 (GB zaD zhJ zhu) func380 (jr [jq 3 30 23 29])
theorem zAh:CT 403 (cA [mA,zB] [yA] (u2 Gz)):=eR 29 (GB FL znP zhQ) func403 (jr [jq 1 4 5 28])
theorem zxJ:CT 418 (cA [mA,mA,mA] [mA] (u3 Ha)):=eR 28 (yB sT zm9) func418 (jr [jq 1 19 7 18])
theorem zyL:CT 417 (cA [mA] [mA] Cy):=eR 9 (QA fN) func417 a0
theorem zyF:CT 419 (cA [mA,gA] [mA] (u2 Hb)):=eR 22 (yB DB fN) func419 (jl [jk 0 [vA 5 .byte] [(6,6),(14,20)]] [jk 5 [vA 5 .byte,rA 6 gA] [(14,20)]])
theorem zn8:CT 365 (cA [mA,mA,mA,gA] [mA] (u4 Fk)):=eR 22 (GB zyL zxJ zyF) func365 a0
theorem znG:CT 424 (cA [] [RE] (λ_=>Fl)):=eR 14 pn func424 (jl [jk 0 [fA 1 .Win [1]] [(2,2),(4,12)]] [jk 3 [rA 2 gA,fA 1 .Win [1]] [(4,12)]])
theorem zaF:CT 373 (cA [gA,mA] [kE] (u2 Ca)):=eR 20 (yB DB znG) func373 (jr [jq 1 12 5 11])
theorem zhC:CT 364 (cA [gA,mA,mA] [bC] (u3 Ei)):=eR 28 (yB DB zaF) func364 (jr [jq 1 19 7 18])
theorem znm:CT 381 (cA [PB] [OD] Cj):=eR 5 pn func381 a0
theorem zm6:CT 307 (cA [mA,gA,PB,zB] [PC] (u4 Fm)):=eR 58 (kG DB sT TG FL zhC zn8 znm) func307 (jr [jq 1 31 9 30])
theorem zhq:CT 302 (cA [XD,PC] [XD,gA] (u2 Bi)):=eR 48 (QE zhW znR QO zej zhD MO) func302 (jr [jq 2 20 9 19,jq 6 38 28 37])
theorem zh4:CT 370 (cA [mA,mA,mA] [dF] (u3 Dn)):=eR 17 pn func370 a0
theorem znN:CT 435 (cE [bC] [bC,zB,gA] Fn [1,8,11,14,17,18,20,21,24,25]):=eR 25 (mC AI AK wT zep) func435 (jr [jq 1 12 5 11])
theorem zy2:CT 404 (cE [PC] [PC,rG,SC] Hc [1,2,4,11,14,17,20,24,25]):=eR 53 (mC QO UO MO znN) func404 ⟨[],[],[],[jq 2 24 11 23],[(8,[1000007])]⟩
theorem zxF:CT 458 (cA [gA] [gA] Hd):=eR 8 pn func458 a0
theorem znF:CT 447 (cA [RE,gA] [yA] (u2 Br)):=eR 30 (mC DB znZ znM zxF) func447 (jr [jq 1 12 5 11,jq 3 4 13 29])
theorem zyg:CT 448 (cA [mA,gA,zB] [mA,yA] (u3 He)):=eR 42 (vD zaD zhv SO zeo zhQ) func448 (jr [(2,⟨[rA 28 yA],[(12,27)],[8]⟩)])
theorem znz:CT 449 (cA [RE,gA] [RE,yA] (u2 Ck)):=eR 73 (yB znL znF) func449 ⟨[jk 4521999 [fA 6 .Win [1]] [(70,71)]],[jk 0 [fA 6 .Win [1]] [(7,9),(21,48)]],[jk 6 [rA 7 gA,rA 8 gA,fA 6 .Win [1]] [(9,9),(21,48)]],[jq 6 27 21 26],[]⟩
theorem zzm:CT 421 (cA [kE,gA,zB] [kE,mA,gA] (u3 Cz)):=eR 64 (QE zhl SO zei znF zyg znz) func421 (jr [jq 2 30 14 29])
theorem zom:CT 368 (cA [bC,gA,zB] [bC,mA,gA] (u3 Ej)):=eR 174 (KL DB LL AI FL VO AK zaF zzm) func368 (jn [jk 5373966 [fA 9 .Chan [1,3,6,8,11,14]] [(83,85)]] [jq 2 40 22 39,jq 12 82 76 81,jq 15 97 88 96,jq 16 106 98 105,jq 23 139 127 138])
theorem znQ:CT 369 (cA [bC,gA] [mA,yA] (u2 Fo)):=eR 51 (QA AI) func369 (jr [jq 3 18 10 17,jq 7 45 34 44])
theorem zyy:CT 451 (cA [OD,PB] [.v .Cand,yA] (λx=>OM x.1 x.2)):=eC 33 (yB zeC zeA) func451 (jl [jk 0 [fA 4 .Cand [2]] [(5,6),(11,31)]] [jk 4 [rA 6 gA,fA 4 .Cand [2]] [(5,5),(11,31)]]) (u2 Mq) gR.ok
theorem zzE:CT 436 (cA [OD,gA,PB,mA] [OD,yA] (u4 Fp)):=eR 71 (vD DB LL zew zeA zyy) func436 ⟨[jk 3801098 [fA 12 .Paths [2]] [(59,69)]],[jk 0 [fA 12 .Paths [2]] [(13,13),(44,69)]],[jk 6 [rA 13 gA,fA 12 .Paths [2]] [(44,69)]],[(2,⟨[rA 39 yA],[(20,38)],[1000010]⟩)],[]⟩
theorem zxT:CT 452 (cA [bC] [bC,yA] Hf):=eR 38 (mC AI AK fN zaF) func452 (jr [jq 2 20 7 19])
theorem zzL:CT 437 (cA [bC,gA,mA] [bC,gA] (u3 Hg)):=eR 57 (QE DB LL AI AK zep zxT) func437 (jr [jq 2 33 13 32])
theorem zmR:CT 382 (cA [OD,gA,PB,mA] [OD,yA] (u4 Ek)):=eR 77 (vD DB TG zeC zew zm0) func382 (jm [jk 0 [fA 8 .Paths [2]] [(9,9),(11,11),(41,57)]] [jk 5 [rA 11 gA,fA 8 .Paths [2]] [(9,9),(41,57)]] [jq 1 35 12 34])
theorem zyE:CT 405 (cE [PC,gA,PB,zB,mA] [PC,rG,SC,yA] (u5 Hh) [1,2,24,25]):=eR 241 (IE TG QO wT UO MO SO zom znQ (vD zh4 zmR znN zzE zzL)) func405 (jn [(5898256,⟨[vA 15 .Out,vA 16 .Note,fA 14 .Sess [1,2]],[(22,28),(92,197)],[18]⟩),jk 7077906 [vA 15 .Out,vA 16 .Note,fA 14 .Sess [1,2]] [(22,28),(110,197)],(7798804,⟨[vA 16 .Note,fA 14 .Sess [1,2,4,6,9,11,14,17]],[(120,134)],[1000022]⟩),jk 8847383 [vA 15 .Out,vA 16 .Note,fA 14 .Sess [1,2,20]] [(24,28),(137,197)],(9633817,⟨[vA 15 .Out,vA 16 .Note,fA 14 .Sess [1,2,20]],[(26,28),(148,197)],[1000024]⟩),jk 10158106 [vA 16 .Note] [(156,171)],(11862046,⟨[vA 15 .Out,vA 16 .Note,fA 14 .Sess [1,2,20]],[(182,197)],[1000027,1000026]⟩)] [jq 4 49 38 48,jq 34 220 215 219])
theorem zzp:CT 438 (cA [zB] [gA] Em):=eR 6 (QA zhr) func438 a0
theorem znw:CT 377 (cA [ZE,PB,gA] [ZE,yA] (u3 Do)):=eR 44 (mC DB zen zhY zns) func377 (jr [jq 3 30 16 29])
theorem zx8:CT 406 (jB [.ptr [], .plain] [.cells .Server,rG] [rG, .cells .Server] (u2 Hi) [(false,1)] [0] false):=eR 60 (GB znw znV zzp) func406 ⟨[jk 1703943 [fA 0 .Server []] [(7,8),(27,51)]],[jk 0 [vA 5 .Out,fA 0 .Server []] [(6,8),(10,58)],jk 1 [vA 5 .Out,fA 0 .Server []] [(7,8),(16,58)]],[jk 3 [vA 5 .Out,rA 6 gA,fA 0 .Server []] [(7,8),(10,58)]],[],[]⟩
theorem zyY:CT 354 (cE [gD,gA,PB,mA] [gD,rG,SC] (u4 Hj) [7,8]):=eR 410 (IE DB lN LL TG vT zex zel zej (IE VO zhq zm6 zh1 zn3 zhJ zhu zh4 (IE zoa zza znu znc zzT zAh zy2 zyE (QA zx8)))) func354 (jn [(4653068,⟨[vA 12 .Out,vA 13 .Note,fA 11 .Server [],fA 8 .Server [0,1,2,5,6]],[(9,10),(16,33),(75,404)],[1000014]⟩),jk 9437204 [vA 12 .Out,vA 13 .Note,fA 8 .Server [0,1,2,5,6],fA 11 .Server [0,1,5,6]] [(9,10),(19,33),(148,404)],jk 12058648 [vA 13 .Note,rA 19 gA,fA 8 .Server [0,1,2,5,6],fA 11 .Server [0,1,2,5,6]] [(9,10),(20,22),(185,279)],jk 19791907 [vA 12 .Out,vA 13 .Note,fA 11 .Server [0,1,2,5,6]] [(24,26),(303,320)],jk 21037096 [vA 12 .Out,vA 13 .Note,fA 8 .Server [0,1,2,5,6],fA 11 .Server [0,1,5,6]] [(9,10),(27,33),(325,404)],jk 23134253 [vA 29 .byte] [(354,354)],(24903730,⟨[vA 13 .Note,fA 11 .Server [0,1,5,6]],[(381,387)],[1000028]⟩),jk 25624630 [vA 13 .Note] [(392,404)]] [jq 4 50 38 49,(11,⟨[rA 92 yA],[(75,91)],[1000011]⟩),jq 19 174 148 173,jq 33 302 286 301,jq 40 340 330 339])
theorem zn7:CT 306 (cA [mA,gA,zB] [zB,yA] (u3 Fq)):=eR 42 (GB FL zeu znP) func306 (jr [jq 1 17 10 16])
theorem znB:CT 292 (cE [rC,gA,zB] [rC,AH,SC] (u3 En) [1,5,8,9,11,12,15,16,41,42]):=eR 283 (IE DB mN LL FL eN VO zeu BT (IE wT UO zn7 SO zh1 zhC zn8 zhJ (mC zhu zom znQ zh4))) func292 (jn [(11272218,⟨[vA 11 .Note,fA 9 .Client [1,5,8,9,11,12,15,16]],[(173,197)],[1000014]⟩),jk 13434911 [vA 11 .Note,fA 9 .Client [1,5,8,9,11,12,15,16]] [(206,223)],jk 14811170 [vA 11 .Note] [(227,242)],(16056356,⟨[vA 10 .Frame,vA 11 .Note,fA 9 .Client [1,5,8,9,11,12,15,16]],[(19,21),(246,279)],[15]⟩),(16646182,⟨[vA 10 .Frame,vA 11 .Note,fA 9 .Client [1,5,8,9,11,12,15,16]],[(255,279)],[1000020,1000019]⟩)] [jq 4 38 26 37,jq 6 56 42 55,jq 15 131 123 130])
theorem zzW:CT 267 (jB [.ptr [1,11,12,13], .plain, .plain, .plain] [ZG,gA,PB,mA] [BF,ZG] (u4 Hk) [(false,1)] [0,2,12,13,14] false):=eR 95 (vD zoe zhw znB zyY zn3) func267 a0
theorem zxG:CT 161 (jB [.ptr [1,11,12,13], .plain, .plain, .plain] [ZG,gA,PB,mA] [ZG] (u4 Da) [] [1,11,12,13] false):=eR 18 (yB zht zzW) func161 a0
theorem zy6:CT 268 (cA [.v .Op] [yA] Dp):=eR 22 (QA DB) func268 (jr [jq 1 2 3 21])
theorem zyk:CT 270 (cA [mA,gA,gA] [mA,yA] (λx=>GJ x.1 x.2.1 x.2.2)):=eC 37 pn func270 (jr [jq 1 27 8 26]) (u3 Pi) KS.ok
theorem zzc:CT 162 (cA [.sl .Op,BF,mK] [mA,yA] (u3 Fr)):=eR 235 (kG zy6 zmS zyk yT zaD fN zhv) func162 ⟨[jk 3407887 [vA 12 .byte] [(6,7),(13,15),(54,211)],jk 3801105 [vA 12 .byte] [(6,7),(13,15),(60,211)],jk 4849685 [vA 12 .byte] [(6,7),(13,15),(76,211)],jk 5832729 [vA 12 .byte] [(6,7),(13,15),(91,211)],jk 7012382 [vA 12 .byte] [(6,7),(15,15),(109,211)],jk 7929888 [vA 12 .byte] [(6,7),(15,15),(123,211)],jk 10747943 [vA 12 .byte] [(166,211)],jk 11534377 [vA 12 .byte] [(178,211)],jk 12320811 [vA 12 .byte] [(190,211)],jk 12779565 [vA 12 .byte] [(197,211)]],[jk 0 [vA 8 .bs] [(6,7),(9,15),(21,225)],jk 3 [vA 12 .byte] [(15,15),(136,163)]],[jk 5 [vA 8 .bs,rA 9 gA] [(6,7),(10,15),(21,225)],jk 34 [vA 12 .byte,rA 15 gA] [(136,163)]],[jq 8 41 31 40,jq 45 218 212 217],[]⟩
theorem zyp:CT 163 (cA [gD] [gD,SC] Hl):=eR 48 (QE lN vT zex zel zhO zhS) func163 (jr [jq 2 17 9 16])
theorem zyu:CT 164 (cA [rC] [rC,SC] Hm):=eR 27 (GB mN eN zoh) func164 a0
theorem zz0:CT 165 (cA [gD,gA] [gD,SC,gA] (u2 Hn)):=eR 55 (vD DB lN vT pT znq) func165 (jr [jq 4 31 15 30])
theorem zzf:CT 279 (cA [bC] [mK] Ho):=eR 39 (QA AI) func279 (jc [jk 655366 [vA 3 .bs] [(11,18)],jk 1966089 [vA 3 .bs] [(31,37)]])
theorem zyd:CT 166 (jB [.ptr [1,11,12,13], .plain] [ZG,bC] [yA,ZG] (u2 Fs) [(false,1)] [2,12,13,14] false):=eR 40 (QA zzf) func166 a0
theorem zym:CT 167 (cA [nI,gA] [nI] (u2 Ft)):=eR 17 (GB DB c55 zez) func167 (jn [jk 851972 [fA 5 .Dice [0]] [(14,15)]] [jq 2 13 8 12])
theorem c68:CT 68 (jB [.ptr [1,11,12,13], .plain] [ZG, .v .Event] [yA,ZG] (u2 Hp) [(false,1)] [2,12,13,14] false):=eR 519 (IE c36 zex zm5 zel zz8 zzv zyS zht (IE zoe zy3 zyz HJ zx6 zxG zzc zyp (mC zyu zz0 zyd zym))) func68 (jn [jk 3276805 [fA 6 .Wire []] [(4,4),(51,70)],jk 4784138 [fA 0 .World [1,11,12,13]] [(4,4),(7,38),(75,518)],jk 8126482 [fA 0 .World [1,11,12,13]] [(4,4),(13,38),(126,518)],jk 10027031 [fA 0 .World [1,11,12,13]] [(4,4),(17,38),(155,518)],jk 12058653 [fA 0 .World [1,11,12,13]] [(4,4),(21,38),(186,518)],jk 12910626 [fA 0 .World [1,11,12,13]] [(4,4),(22,38),(199,518)],jk 14286884 [fA 0 .World [1,11,12,13]] [(4,4),(22,38),(220,518)],jk 16056361 [fA 0 .World [1,11,12,13]] [(4,4),(26,38),(247,518)],jk 17170478 [fA 0 .World [1,11,12,13]] [(4,4),(27,38),(264,518)],jk 17825840 [fA 0 .World [1,11,12,13]] [(4,4),(27,38),(274,518)],jk 18546738 [fA 0 .World [1,11,12,13]] [(4,4),(27,38),(285,518)],jk 21430330 [fA 0 .World [1,11,12,13]] [(4,4),(30,38),(329,518)],jk 23265343 [fA 0 .World [1,11,12,13]] [(4,4),(32,38),(357,518)],jk 24641605 [fA 0 .World [1,11,12,13]] [(4,4),(34,38),(378,518)],jk 26476618 [fA 0 .World [1,11,12,13]] [(4,4),(36,38),(406,518)],jk 32178260 [fA 0 .World [1,11,12,13]] [(493,518)],jk 32505941 [fA 0 .World [1,11,12,13]] [(497,518)]] [jq 3 50 43 49,jq 50 298 291 297,jk 79 [rA 4 yA,fA 0 .World [1,11,12,13]] [(429,449)],jk 81 [rA 4 yA,fA 0 .World [1,11,12,13]] [(452,490)]])
theorem c65:CT 65 (jB [.ptr [], .plain, .plain] [OA,gA,yA] [zE, .sl .Event,zE,OA] (u3 Hq) [(true,14),(false,1),(true,14)] [1,2,7,8,11,12,13,14,16,26,27,28] false):=eR 55 (QE wC c66 c67 c68 zyx zzU) func65 ⟨[jk 3276813 [fA 10 .World [1,11,12,13], .drop 15] [(51,51)]],[jk 0 [vA 11 .Event,fA 0 .Cur [],fA 12 .int [],fA 10 .World [1,11,12,13]] [(13,15),(25,51)]],[jk 6 [vA 11 .Event,rA 13 gA,fA 0 .Cur [],fA 12 .int [],fA 10 .World [1,11,12,13]] [(14,15),(25,51)]],[jk 11 [rA 50 yA,fA 15 .World [1,11,12,13]] [(39,49)]],[]⟩
theorem c28:CT 28 (jB [.ptr [], .plain] [OA,gA] [zE,OA] (u2 Hr) [(true,14)] [1,11,12,13] false):=eR 19 (yB XG c65) func28 a0
theorem c7:CT 7 (cE [mA] [zE] Jb [1,11,12,13]):=eR 11 (GB c27 c28 c29) func7 a0
theorem znt:CT 291 (jB [.ptr []] [OA] [zB,OA] Kh [(true,11)] [2,3,5,6,9,10] false):=eR 12 (yB LD wC) func291 a0
theorem zyT:CT 423 (jB [.ptr [], .plain] [OA,gA] [tE,OA] (u2 Jc) [(false,1)] [0] false):=eR 47 (GB DD XG wC) func423 ⟨[jk 1376264 [rA 6 gA,fA 0 .Cur []] [(22,26)],jk 2555915 [vA 5 .int,fA 0 .Cur []] [(40,45)]],[jk 0 [vA 5 .int,fA 0 .Cur []] [(6,7),(16,37)]],[jk 4 [vA 5 .int,rA 6 gA,rA 7 gA,fA 0 .Cur []] [(16,37)]],[],[]⟩
theorem zx7:CT 422 (cA [tE] [RE] Jd):=eR 22 (yB znG znz) func422 (jl [jk 0 [fA 3 .Win [1]] [(4,4),(6,20)]] [jk 3 [rA 4 gA,fA 3 .Win [1]] [(6,20)]])
theorem zhM:CT 372 (jB [.ptr []] [OA] [RE,OA] Ht [(true,2)] [1] false):=eR 6 (yB zx7 zyT) func372 a0
theorem zhU:CT 295 (jB [.ptr [], .plain] [OA,gA] [bC,OA] (u2 Hu) [(true,15)] [1,3,6,8,11,14] false):=eR 74 (kG DD XG LD fN zhC zhM zaF) func295 (jn [jk 1179653 [fA 0 .Cur [],fA 5 .Chan [1,3,6,8,11,14]] [(19,22)],jk 1572871 [fA 5 .Chan [1,3,6,8,11,14],fA 0 .Cur []] [(25,55)],jk 3538957 [fA 5 .Chan [1,3,6,8,11,14]] [(55,55)],jk 4390927 [fA 5 .Chan [1,3,6,8,11,14]] [(68,72)]] [jq 11 54 48 53,jk 13 [rA 67 yA,fA 0 .Cur []] [(56,66)]])
theorem znd:CT 296 (jB [.ptr [], .plain] [OA,gA] [jI,OA] (u2 Ki) [(true,4)] [] false):=eR 23 (GB wC BT zhp) func296 (jl [jk 0 [fA 5 .Timer []] [(6,6),(11,21)]] [jk 3 [rA 6 gA,fA 5 .Timer []] [(11,21)]])
theorem zyi:CT 181 (jB [.ptr []] [OA] [rC,OA] Jg [(true,41)] [1,5,8,9,11,12,15,16] false):=eR 137 (IE DD XG LD wC zm5 HJ BT zh0 (kG zhp znt znB zhE zep zhU znd)) func181 ⟨[jk 5898260 [fA 3 .Client [1,5,8,9,11,12,15,16]] [(91,93)],jk 7602201 [fA 0 .Cur [],fA 3 .Client [1,5,8,9,11,12,15,16]] [(117,135)],jk 8126491 [fA 0 .Cur [],fA 3 .Client [1,5,8,9,11,12,15,16,18,20,23,25,28,31]] [(125,135)],jk 8650781 [fA 3 .Client [1,5,8,9,11,12,15,16,18,20,23,25,28,31]] [(133,135)]],[jk 0 [fA 3 .Client [1,5,8,9,11,12,15,16]] [(7,7),(73,86)]],[jk 15 [rA 7 gA,fA 3 .Client [1,5,8,9,11,12,15,16]] [(73,86)]],[],[]⟩
theorem c82:CT 82 (jB [.ptr []] [OA] [PB,OA] Iz [(true,2)] [] false):=eR 17 (mC XG wC c84 HJ) func82 a0
theorem c83:CT 83 (jB [.ptr []] [OA] [gA,OA] Ir [(false,1)] [] false):=eR 6 (QA DD) func83 a0
theorem XO:CT 33 (jB [.ptr []] [OA] [PB,OA] Cl [(true,2)] [] false):=eR 20 (mC DD wC c82 c83) func33 (jc [jk 524293 [fA 0 .Cur [],fA 3 .Addr []] [(10,18)],jk 851975 [fA 0 .Cur [],fA 3 .Addr []] [(15,18)]])
theorem zn0:CT 297 (jB [.ptr []] [OA] [zB,OA] Kj [(true,11)] [2,3,5,6,9,10] false):=eR 79 (GB DD LD wC) func297 (jn [jk 2293770 [rA 4 gA] [],jk 2490380 [rA 4 gA] [],jk 2818063 [fA 0 .Cur [],fA 3 .Frame [2,3,5,6,9,10]] [(4,4),(11,42),(45,77)],jq 3407890 52 54 54,jk 3407891 [fA 0 .Cur [],fA 3 .Frame [2,3,5,6,9,10]] [(4,4),(11,42),(55,77)],jk 4587544 [fA 0 .Cur [],fA 3 .Frame [2,3,5,6,9,10]] [(71,77)]] [jq 8 35 28 34])
theorem zAc:CT 182 (jB [.ptr []] [OA] [zB,OA] Jh [(true,11)] [2,3,5,6,9,10] false):=eR 87 (mC DD LD wC zn0) func182 (jc [jk 524293 [fA 0 .Cur [],fA 3 .Frame [2,3,5,6,9,10]] [(10,85)],jk 917511 [fA 0 .Cur [],fA 3 .Frame [2,3,5,6,9,10]] [(16,85)],jk 1310729 [fA 0 .Cur [],fA 3 .Frame [2,3,5,6,9,10]] [(22,85)],jk 1835019 [fA 0 .Cur [],fA 3 .Frame [2,3,5,6,9,10]] [(30,85)],jk 2359309 [fA 0 .Cur [],fA 3 .Frame [2,3,5,6,9,10]] [(38,85)],jk 2752527 [fA 0 .Cur [],fA 3 .Frame [2,3,5,6,9,10]] [(44,85)],jk 3276817 [fA 0 .Cur [],fA 3 .Frame [2,3,5,6,9,10]] [(52,85)],jk 3801107 [fA 0 .Cur [],fA 3 .Frame [2,3,5,6,9,10]] [(60,85)],jk 4194325 [fA 0 .Cur [],fA 3 .Frame [2,3,5,6,9,10]] [(66,85)],jk 4587543 [fA 0 .Cur [],fA 3 .Frame [2,3,5,6,9,10]] [(72,85)],jk 5111833 [fA 0 .Cur [],fA 3 .Frame [2,3,5,6,9,10]] [(80,85)]])
theorem zxS:CT 374 (jB [.ptr []] [OA] [kE,OA] Je [(true,5)] [1,4] false):=eR 20 (vD DD XG LD zhM zaF) func374 (jc [jk 983045 [fA 0 .Cur [],fA 3 .Ep [1,4]] [(16,18)]])
theorem zyl:CT 375 (jB [.ptr []] [OA] [RE,OA] Jf [(true,2)] [1] false):=eR 33 (GB DD wC zhM) func375 (jc [jk 524293 [fA 0 .Cur [],fA 3 .Win [1]] [(10,31)],jk 917511 [fA 0 .Cur [],fA 3 .Win [1]] [(16,31)],jk 1572873 [fA 0 .Cur [],fA 3 .Win [1]] [(26,31)]])
theorem zyh:CT 298 (jB [.ptr []] [OA] [kE,OA] Kf [(true,5)] [1,4] false):=eR 34 (vD DD LD wC zxS zyl) func298 (jc [jk 524293 [fA 0 .Cur [],fA 3 .Ep [1,4]] [(10,32)],jk 917511 [fA 0 .Cur [],fA 3 .Ep [1,4]] [(16,32)],jk 1441801 [fA 0 .Cur [],fA 3 .Ep [1,4]] [(24,32)],jk 1835019 [fA 0 .Cur [],fA 3 .Ep [1,4]] [(30,32)]])
theorem znn:CT 183 (jB [.ptr []] [OA] [bC,OA] Kg [(true,15)] [1,3,6,8,11,14] false):=eR 52 (vD DD LD wC zhU zyh) func183 (jc [jk 655365 [fA 0 .Cur [],fA 3 .Chan [1,3,6,8,11,14]] [(12,50)],jk 1048583 [fA 0 .Cur [],fA 3 .Chan [1,3,6,8,11,14]] [(18,50)],jk 1376265 [fA 0 .Cur [],fA 3 .Chan [1,3,6,8,11,14]] [(23,50)],jk 1703947 [fA 0 .Cur [],fA 3 .Chan [1,3,6,8,11,14]] [(28,50)],jk 2031629 [fA 3 .Chan [1,3,6,8,11,14],fA 0 .Cur []] [(33,50)],jk 2424847 [fA 0 .Cur [],fA 3 .Chan [1,3,6,8,11,14]] [(39,50)],jk 2818065 [fA 0 .Cur [],fA 3 .Chan [1,3,6,8,11,14]] [(45,50)]])
theorem zyU:CT 184 (jB [.ptr []] [OA] [jI,OA] Kk [(true,4)] [] false):=eR 36 (GB DD wC znd) func184 (jc [jk 720901 [fA 0 .Cur [],fA 3 .Timer []] [(13,34)],jk 1114119 [fA 0 .Cur [],fA 3 .Timer []] [(19,34)],jk 1507337 [fA 0 .Cur [],fA 3 .Timer []] [(25,34)],jk 1900555 [fA 3 .Timer []] [(31,34)]])
theorem c77:CT 77 (jB [.ptr []] [OA] [rC,OA] Ji [(true,41)] [1,5,8,9,11,12,15,16] false):=eR 72 (KL DD XO LD wC zyi zAc znn zyU) func77 (jc [jk 524293 [fA 0 .Cur [],fA 3 .Client [1,5,8,9,11,12,15,16]] [(10,70)],jk 917511 [fA 0 .Cur [],fA 3 .Client [1,5,8,9,11,12,15,16]] [(16,70)],jk 1441801 [fA 0 .Cur [],fA 3 .Client [1,5,8,9,11,12,15,16]] [(24,70)],jk 1769483 [fA 0 .Cur [],fA 3 .Client [1,5,8,9,11,12,15,16]] [(29,70)],jk 2162701 [fA 0 .Cur [],fA 3 .Client [1,5,8,9,11,12,15,16]] [(35,70)],jk 2686991 [fA 0 .Cur [],fA 3 .Client [1,5,8,9,11,12,15,16]] [(43,70)],jk 3014673 [fA 0 .Cur [],fA 3 .Client [1,5,8,9,11,12,15,16]] [(48,70)],jk 3342355 [fA 0 .Cur [],fA 3 .Client [1,5,8,9,11,12,15,16]] [(53,70)],jk 3670037 [fA 0 .Cur [],fA 3 .Client [1,5,8,9,11,12,15,16]] [(58,70)],jk 3997719 [fA 0 .Cur [],fA 3 .Client [1,5,8,9,11,12,15,16]] [(63,70)],jk 4390937 [fA 3 .Client [1,5,8,9,11,12,15,16]] [(69,70)]])
theorem zzZ:CT 300 (jB [.ptr []] [OA] [mK,OA] Jj [(false,1)] [0] false):=eR 22 (yB LD wC) func300 (jl [jk 0 [vA 3 .bs,fA 0 .Cur []] [(4,4),(9,20)]] [jk 3 [vA 3 .bs,rA 4 gA,fA 0 .Cur []] [(9,20)]])
theorem zn1:CT 308 (jB [.ptr []] [OA] [OD,OA] Kl [(true,3)] [2] false):=eR 34 (vD LD wC HJ znm zmR) func308 (jl [jk 0 [fA 0 .Cur [],fA 3 .Paths [2]] [(4,5),(14,32)]] [jk 4 [rA 4 gA,rA 5 gA,fA 0 .Cur [],fA 3 .Paths [2]] [(14,32)]])
theorem zet:CT 191 (jB [.ptr []] [OA] [PC,OA] Fu [(true,24)] [1,6,9,11,14,17,20] false):=eR 43 (IE DD XG LD wC HJ znt zhU zn7 (yB zm6 zn1)) func191 (jc [jk 1900549 [fA 0 .Cur [],fA 5 .Sess [1,6,9,11,14,17,20]] [(30,36)],jk 2490376 [fA 0 .Cur [],fA 5 .Sess [1,6,9,11,14,17,20]] [(39,41)]])
theorem znX:CT 301 (jB [.ptr []] [OA] [XD,OA] Km [(true,2)] [1] false):=eR 47 (QE XG wC pT zet zhS zhq) func301 ⟨[jk 1966088 [fA 0 .Cur [],fA 3 .Tab [1]] [(5,5),(31,45)]],[jk 0 [fA 0 .Cur [],fA 3 .Tab [1]] [(4,5),(12,45)]],[jk 3 [rA 4 gA,fA 0 .Cur [],fA 3 .Tab [1]] [(5,5),(12,45)]],[jk 6 [rA 30 yA,fA 0 .Cur []] [(23,29)]],[]⟩
theorem zny:CT 303 (jB [.ptr [], .plain] [OA,gA] [ZE,OA] (u2 Kn) [(false,1)] [0] false):=eR 36 (vD DD wC HJ zoa znw) func303 (jl [jk 0 [vA 5 .Credit,fA 0 .Cur []] [(6,7),(13,34)]] [jk 3 [vA 5 .Credit,rA 6 gA,fA 0 .Cur []] [(7,7),(13,34)]])
theorem zy4:CT 185 (jB [.ptr []] [OA] [gD,OA] Jk [(true,7)] [0,1,2,5,6] false):=eR 54 (kG LD wC zof zzZ znX zhq zny) func185 ⟨[jk 2097160 [fA 3 .Server [0,1,2,5,6]] [(33,44)]],[jk 0 [fA 3 .Server [0,1,2,5,6]] [(5,5),(16,44)]],[jk 4 [rA 5 gA,fA 3 .Server [0,1,2,5,6]] [(16,44)]],[],[]⟩
theorem zzD:CT 186 (jB [.ptr [], .plain, .plain] [OA,mK,mK] [mK,OA] (u3 Jl) [(false,1)] [] false):=eR 11 (QA XG) func186 a0
theorem zAf:CT 187 (jB [.ptr []] [OA] [NM,OA] Jm [(true,1)] [0] false):=eR 16 (mC DD XG LD zhO) func187 (jc [jk 524292 [fA 0 .Cur [],fA 3 .Jar [0]] [(9,14)]])
theorem zyA:CT 378 (jB [.ptr []] [OA] [OD,OA] Jn [(true,3)] [2] false):=eR 66 (QE DD XG XO LD wC zn1) func378 (jn [jk 1507336 [fA 0 .Cur [],fA 3 .Paths [2]] [(25,64)],jk 1835018 [fA 0 .Cur [],fA 3 .Paths [2]] [(30,64)],jk 2424844 [fA 0 .Cur [],fA 3 .Paths [2]] [(39,64)],jk 3014670 [fA 0 .Cur [],fA 3 .Paths [2]] [(48,64)],jk 3670032 [fA 3 .Paths [2]] [(58,64)]] [jk 2 [rA 14 yA,fA 0 .Cur []] [(7,13)]])
theorem zxR:CT 304 (jB [.ptr []] [OA] [PC,OA] Jo [(true,24)] [1,6,9,11,14,17,20] false):=eR 58 (kG DD LD wC znn pT zet zyA) func304 (jc [jk 524293 [fA 0 .Cur [],fA 3 .Sess [1,6,9,11,14,17,20],fA 2 .Sess [1,2,4,6,9,11,14,17,20]] [(10,56)],jk 917511 [fA 0 .Cur [],fA 3 .Sess [1,6,9,11,14,17,20],fA 2 .Sess [1,2,4,6,9,11,14,17,20]] [(16,56)],jk 1245193 [fA 0 .Cur [],fA 3 .Sess [1,6,9,11,14,17,20],fA 2 .Sess [1,2,4,6,9,11,14,17,20]] [(21,56)],jk 1769483 [fA 0 .Cur [],fA 3 .Sess [1,6,9,11,14,17,20],fA 2 .Sess [1,2,4,6,9,11,14,17,20]] [(29,56)],jk 2097165 [fA 0 .Cur [],fA 3 .Sess [1,6,9,11,14,17,20],fA 2 .Sess [1,2,4,6,9,11,14,17,20]] [(34,56)],jk 2424847 [fA 0 .Cur [],fA 3 .Sess [1,6,9,11,14,17,20],fA 2 .Sess [1,2,4,6,9,11,14,17,20]] [(39,56)],jk 2818065 [fA 0 .Cur [],fA 3 .Sess [1,6,9,11,14,17,20],fA 2 .Sess [1,2,4,6,9,11,14,17,20]] [(45,56)],jk 3211283 [fA 3 .Sess [1,6,9,11,14,17,20],fA 2 .Sess [1,2,4,6,9,11,14,17,20]] [(51,56)],jq 3407893 52 54 54])
theorem zyJ:CT 188 (jB [.ptr []] [OA] [XD,OA] Jp [(true,2)] [1] false):=eR 65 (kG DD LD wC pT zet znX zxR) func188 ⟨[jk 655365 [fA 0 .Cur [],fA 3 .Tab [1]] [(4,5),(12,63)],jk 1048583 [fA 0 .Cur [],fA 3 .Tab [1]] [(4,5),(18,63)],jk 1638409 [fA 3 .Tab [1],fA 0 .Cur []] [(4,5),(27,63)],jk 1966090 [fA 3 .Tab [1]] [(31,39)],jk 2621452 [fA 0 .Cur [],fA 3 .Tab [1]] [(4,5),(42,63)]],[jk 1 [fA 0 .Cur [],fA 4 .Sess [],fA 3 .Tab [1]] [(5,5),(48,63)]],[jk 13 [rA 5 gA,fA 0 .Cur [],fA 4 .Sess [],fA 3 .Tab [1]] [(48,63)]],[],[]⟩
theorem zAa:CT 189 (jB [.ptr []] [OA] [ZE,OA] Jq [(false,1)] [0] false):=eR 60 (mC DD XO wC zny) func189 (jc [jk 1114120 [vA 3 .Credit,fA 0 .Cur []] [(19,58)],jk 1638410 [vA 3 .Credit,fA 0 .Cur []] [(27,58)],jk 2228236 [vA 3 .Credit,fA 0 .Cur []] [(36,58)],jk 3276814 [vA 3 .Credit] [(52,58)]])
theorem c78:CT 78 (jB [.ptr []] [OA] [gD,OA] Jr [(true,7)] [1,2,5,6] false):=eR 61 (IE DD wC zy4 zzD zAf zyJ zAa pT (QA zet)) func78 (jc [jk 524293 [fA 0 .Cur [],fA 3 .Server [1,2,5,6]] [(10,59)],jk 1179655 [fA 0 .Cur [],fA 3 .Server [0,1,2,5,6]] [(20,59)],jk 1507337 [fA 0 .Cur [],fA 3 .Server [0,1,2,5,6]] [(25,59)],jk 1966091 [fA 0 .Cur [],fA 3 .Server [0,1,2,5,6]] [(32,59)],jk 2293773 [fA 0 .Cur [],fA 3 .Server [0,1,2,5,6]] [(37,59)],jk 2621455 [fA 3 .Server [0,1,2,5,6],fA 0 .Cur []] [(42,59)],jk 3145745 [fA 0 .Cur [],fA 3 .Server [0,1,2,5,6]] [(50,59)]])
theorem zyj:CT 192 (jB [.ptr []] [OA] [nI,OA] Js [(true,2)] [0] false):=eR 11 (yB LD wC) func192 a0
theorem c79:CT 79 (jB [.ptr []] [OA] [nI,OA] Jt [(true,2)] [0] false):=eR 23 (mC DD LD wC zyj) func79 (jc [jk 524293 [fA 0 .Cur [],fA 3 .Dice [0]] [(10,21)],jk 917511 [fA 0 .Cur [],fA 3 .Dice [0]] [(16,21)]])
theorem zye:CT 193 (jB [.ptr []] [OA] [IS,OA] Ju [(true,5)] [4] false):=eR 26 (kG DD XG LD wC HJ zhz zn0) func193 a0
theorem c80:CT 80 (jB [.ptr []] [OA] [IS,OA] Jv [(true,5)] [4] false):=eR 24 (mC XO LD wC zye) func80 (jc [jk 524293 [fA 0 .Cur [],fA 3 .Wire [4]] [(10,22)],jk 851975 [fA 0 .Cur [],fA 3 .Wire [4]] [(15,22)],jk 1179657 [fA 0 .Cur [],fA 3 .Wire [4]] [(20,22)]])
theorem zAk:CT 309 (jB [.ptr []] [OA] [mA,OA] Hs [(false,1)] [0] false):=eR 19 (QA wC) func309 (jl [jk 0 [vA 3 .byte] [(5,5),(10,17)]] [jk 4 [vA 3 .byte,rA 5 gA] [(10,17)]])
theorem zz5:CT 310 (jB [.ptr []] [OA] [mA,OA] Ix [(false,1)] [0] false):=eR 19 (QA wC) func310 (jl [jk 0 [vA 3 .byte] [(5,5),(10,17)]] [jk 4 [vA 3 .byte,rA 5 gA] [(10,17)]])
theorem zx3:CT 194 (jB [.ptr []] [OA] [dF,OA] Iy [(true,12)] [3,4,7,8] false):=eR 36 (mC wC HJ zAk zz5) func194 a0
theorem c81:CT 81 (jB [.ptr []] [OA] [dF,OA] Ja [(true,12)] [3,4,7,8] false):=eR 82 (vD DD XO LD wC zx3) func81 (jc [jk 524293 [fA 0 .Cur [],fA 3 .Note [3,4,7,8]] [(10,80)],jk 917511 [fA 0 .Cur [],fA 3 .Note [3,4,7,8]] [(16,80)],jk 1310729 [fA 0 .Cur [],fA 3 .Note [3,4,7,8]] [(22,80)],jk 1703947 [fA 0 .Cur [],fA 3 .Note [3,4,7,8]] [(28,80)],jk 2228237 [fA 0 .Cur [],fA 3 .Note [3,4,7,8]] [(36,80)],jk 2752527 [fA 0 .Cur [],fA 3 .Note [3,4,7,8]] [(44,80)],jk 3145745 [fA 0 .Cur [],fA 3 .Note [3,4,7,8]] [(50,80)],jk 3538963 [fA 0 .Cur [],fA 3 .Note [3,4,7,8]] [(56,80)],jk 4063253 [fA 0 .Cur [],fA 3 .Note [3,4,7,8]] [(64,80)],jk 4587543 [fA 0 .Cur [],fA 3 .Note [3,4,7,8]] [(72,80)],jk 4915225 [fA 0 .Cur [],fA 3 .Note [3,4,7,8]] [(77,80)]])
theorem c30:CT 30 (jB [.ptr [], .plain] [OA,gA] [zE,OA] (u2 Jw) [(true,14)] [1,11,12,13] false):=eR 88 (IE c28 DD LD wC c77 c78 c79 c80 (QA c81)) func30 (jc [jk 720901 [fA 0 .Cur [],fA 5 .World [1,11,12,13]] [(13,86)],jk 1114119 [fA 0 .Cur [],fA 5 .World [1,11,12,13]] [(19,86)],jk 1703945 [fA 0 .Cur [],fA 5 .World [1,11,12,13]] [(28,86)],jk 2228235 [fA 0 .Cur [],fA 5 .World [1,11,12,13]] [(36,86)],jk 2555917 [fA 0 .Cur [],fA 5 .World [1,11,12,13]] [(41,86)],jk 2883599 [fA 0 .Cur [],fA 5 .World [1,11,12,13]] [(46,86)],jk 3473425 [fA 0 .Cur [],fA 5 .World [1,11,12,13]] [(55,86)],jk 4259859 [fA 0 .Cur [],fA 5 .World [1,11,12,13]] [(67,86)],jk 4849685 [fA 5 .World [1,11,12,13]] [(76,86)],jk 5242903 [fA 5 .World [1,11,12,13]] [(82,86)]])
theorem c37:CT 37 (jB [.ptr [], .plain] [OA,mA] [mA,OA] (u2 Jz) [(false,1)] [0] false):=eR 53 (yB wC c84) func37 (jc [jk 786437 [vA 5 .byte,fA 0 .Cur []] [(6,6),(14,51)],jk 1048582 [fA 0 .Cur [],vA 5 .byte] [(6,6),(17,32)],jk 2162697 [vA 5 .byte,fA 0 .Cur []] [(35,51)],jk 2424842 [vA 5 .byte,fA 0 .Cur []] [(38,43)],jk 2883596 [vA 5 .byte,fA 0 .Cur []] [(46,51)]])
theorem c8:CT 8 (cE [mA] [zE,gA,PB,mA] Ka [17]):=eR 72 (IE c27 c29 c30 DD XG XO LD wC (yB c36 c37)) func8 (jn [jk 3866634 [rA 8 gA] [(60,63)]] [jk 4 [rA 27 yA,fA 6 .Cur []] [(20,26)],(8,⟨[rA 59 yA,fA 6 .Cur []],[(51,58)],[1000007]⟩)])
theorem yC:CT 87 (cA [mA] [mA] (λx=>BA x)):=eC 6 pn func87 a0 Sa zcb.ok
theorem c90:CT 90 (cA [mK] [mK] (λx=>oS x)):=eC 20 (QA yC) func90 (jl [jk 0 [vA 3 .bs] [(5,5),(9,18)]] [jk 3 [vA 3 .bs,rA 9 gA] [(5,5),(10,18)]]) Pt qU.ok
theorem znU:CT 384 (cA [RE] [RE] (λx=>(λ(a0:Aq)=>nA a0) x)):=eC 10 pn func384 a0 Sj zbc.ok
theorem zhI:CT 312 (cA [kE] [kE] (λx=>(λ(a0:Ax)=>nA a0) x)):=eC 14 (yB yC znU) func312 a0 Qg NU.ok
theorem GL:CT 197 (cA [bC] [bC] (λx=>(λ(a0:Ak)=>nA a0) x)):=eC 20 (yB yC zhI) func197 a0 Qh mU.ok
theorem zaH:CT 383 (cA [OD] [OD] (λx=>(λ(a0:Aj)=>nA a0) x)):=eC 31 (QA yC) func383 (jl [jk 0 [fA 3 .Paths [2]] [(5,5),(12,29)]] [jk 3 [rA 12 gA,fA 3 .Paths [2]] [(5,5),(13,29)]]) Pj LP.ok
theorem TO:CT 311 (cA [PC] [PC] (λx=>(λ(a0:Ai)=>nA a0) x)):=eC 20 (GB yC GL zaH) func311 a0 Qi sU.ok
theorem zes:CT 195 (cA [XD] [XD] (λx=>(λ(a0:Ap)=>nA a0) x)):=eC 25 (QA TO) func195 (jl [jk 0 [fA 3 .Tab [1]] [(5,5),(12,23)]] [jk 3 [rA 12 gA,fA 3 .Tab [1]] [(5,5),(13,23)]]) Sk zbb.ok
theorem zhL:CT 196 (cA [ZE] [ZE] (λx=>(λ(a0:List Al)=>nA a0) x)):=eC 6 pn func196 a0 Qj OT.ok
theorem c86:CT 86 (cA [gD] [gD] (λx=>(λ(a0:Ac)=>nA a0) x)):=eC 26 (mC yC c90 zes zhL) func86 a0 Qk RT.ok
theorem zhm:CT 111 (cA [zB] [zB] (λx=>(λ(a0:Ab)=>nA a0) x)):=eC 28 (QA yC) func111 a0 Ql eU.ok
theorem ET:CT 88 (cA [rC] [rC] (λx=>(λ(a0:Ad)=>nA a0) x)):=eC 20 (GB yC zhm GL) func88 a0 Qm VT.ok
theorem c89:CT 89 (cA [BF] [BF] (λx=>(λ(a0:List Am)=>nA a0) x)):=eC 26 (QA yC) func89 (jl [jk 0 [vA 3 .Wire] [(5,5),(9,24)]] [jk 3 [vA 3 .Wire,rA 9 gA] [(5,5),(10,24)]]) Pk yP.ok
theorem zzz:CT 198 (cA [dF] [dF] (λx=>(λ(a0:Ae)=>nA a0) x)):=eC 20 (QA yC) func198 a0 Qn pU.ok
theorem c91:CT 91 (cA [SC] [SC] (λx=>(λ(a0:List Ae)=>nA a0) x)):=eC 20 (QA zzz) func91 (jl [jk 0 [vA 3 .Note] [(5,5),(9,18)]] [jk 3 [vA 3 .Note,rA 9 gA] [(5,5),(10,18)]]) Sl zaP.ok
theorem c38:CT 38 (cA [zE] [zE] (λx=>(λ(a0:Aa)=>nA a0) x)):=eC 48 (QE c86 yC ET c89 c90 c91) func38 (jl [jk 0 [fA 3 .World [1,2,3,4,7,8,9,11,12,13]] [(5,5),(23,34)]] [jk 3 [rA 23 gA,fA 3 .World [1,2,3,4,7,8,9,11,12,13]] [(5,5),(24,34)]]) Qo gU.ok
theorem YB:CT 39 (cA [gA,gA,gA] [yA] (λx=>some (eA x.1 x.2.1 x.2.2))):=eD 15 pn func39 (jr [jq 1 6 7 14]) (u3 Qr) zbT.ok
theorem zhN:CT 115 (cA [NM] [yA] (λx=>some (PE x))):=eD 7 pn func115 a0 Rh zb7.ok
theorem c48:CT 48 (cA [nI] [yA] (λx=>some (ZB x))):=eD 12 (QA YB) func48 (jr [jq 1 2 3 11]) Rg zbw.ok
theorem znl:CT 232 (cA [XD] [gA] (λx=>wJ x)):=eC 20 pn func232 ⟨[jk 983047 [rA 3 gA] [(16,17)]],[jk 0 [rA 3 gA] [(5,5),(9,18)]],[jk 3 [rA 3 gA,rA 9 gA] [(5,5),(10,18)]],[],[]⟩ Ri zcq.ok
theorem zI:CT 121 (cA [mA] [yA] (λx=>some (oA x))):=eD 6 pn func121 a0 Qw za8.ok
theorem EI:CT 51 (cA [mA,mA] [yA] (λx=>FB x.1 x.2)):=eC 10 pn func51 a0 (u2 Qt) zbX.ok
theorem zzq:CT 337 (cA [tE,tE] [yA] (λx=>some (zeb x.1 x.2))):=eD 26 pn func337 (jl [jk 0 [] [(4,6),(14,25)]] [jk 4 [rA 14 gA] [(4,6),(15,25)]]) (u2 Qz) za2.ok
theorem znY:CT 234 (cA [kE,kE] [yA] (λx=>zO x.1 x.2)):=eC 42 (yB EI zzq) func234 (jr [jq 1 4 5 41]) (u2 Lm) HR.ok
theorem zm7:CT 120 (cA [bC] [yA] (λx=>vO x)):=eC 40 (QA znY) func120 (jr [jq 1 2 3 39]) Lt vP.ok
theorem zaE:CT 235 (cA [gA] [yA] (λx=>some (PA x))):=eD 9 pn func235 (jr [jq 1 2 3 8]) Pm JU.ok
theorem zhT:CT 393 (cA [tE,gA] [yA] (λx=>some (GC x.1 x.2))):=eD 21 (QA YB) func393 (jl [jk 0 [] [(4,4),(6,6),(9,16)]] [jk 2 [rA 9 gA] [(4,4),(6,6),(10,16)]]) (u2 Pn) iU.ok
theorem zm2:CT 394 (cA [RE,gA] [yA] (λx=>XF x.1 x.2)):=eC 17 pn func394 a0 (u2 Qx) zbG.ok
theorem zn6:CT 338 (cA [RE] [yA] (λx=>some (dD x))):=eD 33 (GB YB zhT zm2) func338 (jm [jk 0 [] [(2,3),(17,23)]] [jk 4 [rA 3 gA] [(2,2),(17,23)]] [jq 1 13 4 12,jq 8 2 24 32]) Ll TR.ok
theorem zev:CT 236 (cA [kE] [yA] (λx=>some (YC x))):=eD 22 (yB YB zn6) func236 (jr [jq 1 2 3 21]) Qy zcD.ok
theorem zzG:CT 237 (cA [bC] [yA] (λx=>zdK x)):=eC 42 (GB YB znY zev) func237 (jr [jq 2 2 6 14,jq 3 28 15 27,jq 5 2 29 41]) Ln SR.ok
theorem EJ:CT 124 (cA [bC] [yA] (λx=>uC x)):=eC 45 (mC zI zaE zev zzG) func124 (jr [jq 1 23 3 22,jq 3 2 24 44]) Lo pR.ok
theorem jG:CT 16 (cA [PB] [yA] (λx=>some (GA x))):=eD 11 (QA YB) func16 (jr [jq 1 2 3 10]) Rb zbV.ok
theorem zem:CT 336 (cA [OD] [yA] (λx=>some (sC x))):=eD 64 (GB jG YB zI) func336 (jm [jk 0 [] [(2,4),(6,6),(20,63)],jk 2 [] [(2,2),(6,6),(53,62)]] [jk 4 [rA 20 gA] [(2,4),(6,6),(21,63)],jk 9 [rA 53 gA] [(2,2),(6,6),(54,62)]] [jq 1 16 7 15,jq 6 47 25 46]) Lu xQ.ok
theorem zT:CT 233 (cA [PC] [yA] (λx=>KD x)):=eC 76 (QE YB EI zm7 zI EJ zem) func233 (jr [jq 1 24 3 23,jq 4 2 27 48,jq 5 2 49 75]) Lv ER.ok
theorem zaC:CT 113 (cA [XD,mA] [gA] (λx=>ID x.1 x.2)):=eC 21 (QA EI) func113 (jl [jk 0 [] [(4,6),(10,20)]] [jk 2 [rA 10 gA] [(4,6),(11,20)]]) (u2 Rj) zbI.ok
theorem zeD:CT 116 (cA [XD] [yA] (λx=>uG x)):=eC 42 (mC YB zaC znl zT) func116 (jm [jk 0 [] [(2,4),(25,41)]] [jk 4 [rA 25 gA] [(2,4),(26,41)]] [jq 1 21 5 20,jq 6 40 30 39]) Lw NR.ok
theorem zer:CT 199 (cA [ZE,PB] [gA] (λx=>some (oB x.1 x.2))):=eD 20 pn func199 (jl [jk 0 [] [(4,6),(9,19)]] [jk 2 [rA 9 gA] [(4,6),(10,19)]]) (u2 Rl) za3.ok
theorem zeh:CT 117 (cA [ZE] [yA] (λx=>some (iD x))):=eD 43 (GB jG YB zer) func117 (jm [jk 0 [] [(2,4),(10,42)]] [jk 4 [rA 10 gA] [(2,4),(11,42)]] [jq 6 41 15 40]) Lx IP.ok
theorem zaG:CT 118 (cA [mA] [yA] (λx=>some (AC x))):=eD 6 (QA YB) func118 a0 Rm zce.ok
theorem c47:CT 47 (cA [gD] [yA] (λx=>HC x)):=eC 62 (QE YB c48 zhN zeD zeh zaG) func47 (jm [jk 0 [] [(2,2),(4,4),(39,46)],jk 2 [] [(2,2),(6,6),(51,61)]] [jk 4 [rA 39 gA] [(2,2),(4,4),(40,46)],jk 10 [rA 51 gA] [(2,2),(6,6),(52,61)]] [jq 1 35 7 34]) Ly bQ.ok
theorem c15:CT 15 (cA [IS] [yA] (λx=>some (CE x))):=eD 17 (QA jG) func15 (jr [jq 1 2 3 16]) Rx zbH.ok
theorem c49:CT 49 (cA [BF] [yA] (λx=>some (PD x))):=eD 18 (QA c15) func49 (jl [jk 0 [] [(2,2),(4,4),(7,14)]] [jk 2 [rA 7 gA] [(2,2),(4,4),(8,14)]]) Mo NQ.ok
theorem zm8:CT 119 (cA [zB,zB] [yA] (λx=>SN x.1 x.2)):=eC 80 (QA EI) func119 (jr [jq 1 4 5 79]) (u2 Lz) zP.ok
theorem znI:CT 122 (cA [jI] [yA] (λx=>some (tD x))):=eD 39 (QA YB) func122 (jr [jq 3 3 10 27,jq 4 2 28 38]) Ma PQ.ok
theorem WO:CT 95 (cA [gA] [yA] (λx=>some (fC x))):=eD 5 (QA YB) func95 a0 Rn zbR.ok
theorem zAj:CT 216 (cA [gA,gA] [yA] (λx=>some (dG x.1 x.2))):=eD 17 pn func216 (jc [jq 655366 10 12 12]) (u2 Pq) IU.ok
theorem IJ:CT 103 (cA [zB] [yA] (λx=>TC x)):=eC 165 (vD YB WO zm8 zI zAj) func103 (jn [jk 524293 [rA 4 yA,fA 3 .Frame []] [(12,158)],jk 1703944 [rA 4 yA,fA 3 .Frame []] [(30,158)],jk 3997707 [rA 4 yA,fA 3 .Frame []] [(65,158)],jk 7405582 [rA 4 yA,fA 3 .Frame [2,5,6]] [(117,158)]] [jq 5 4 18 25,jq 8 4 42 60,jq 11 4 83 112,jq 14 4 132 158,jq 15 2 159 164]) Mb sQ.ok
theorem zyZ:CT 123 (cA [rC] [yA] (λx=>zcK x)):=eC 74 (mC EI IJ zI EJ) func123 (jr [jq 1 35 3 34,jq 3 2 36 73]) Mc kQ.ok
theorem c50:CT 50 (cA [rC] [yA] (λx=>GD x)):=eC 161 (IE jG YB zaG zm8 zm7 zI znI zyZ (QA EJ)) func50 (jr [jq 1 20 5 19,jq 7 2 33 58,jq 9 2 61 92,jq 11 2 95 117,jq 13 2 120 160]) Md dQ.ok
theorem zzs:CT 125 (cA [mA,gA] [yA] (λx=>some (UC x.1 x.2))):=eD 14 pn func125 (jr [jq 1 4 5 13]) (u2 Pp) xU.ok
theorem c52:CT 52 (cA [dF] [yA] (λx=>some (jC x))):=eD 57 (GB jG YB zzs) func52 (jr [jq 1 2 3 56]) Lq IR.ok
theorem lG:CT 11 (cA [zE] [yA] (λx=>AE x)):=eC 101 (kG YB c47 c48 c49 c50 EI c52) func11 (jm [jk 0 [] [(2,4),(51,78)],jk 2 [] [(2,2),(6,6),(82,89)],jk 4 [] [(2,2),(8,8),(93,100)]] [jk 6 [rA 51 gA] [(2,4),(52,78)],jk 12 [rA 82 gA] [(2,2),(6,6),(83,89)],jk 18 [rA 93 gA] [(2,2),(8,8),(94,100)]] [jq 1 31 9 30,jq 3 47 32 46,jq 8 77 56 76]) Mp EQ.ok
theorem c92:CT 92 (cA [ZE,PB,gA] [ZE] (u3 Hy)):=eR 52 (vD jG YB zeh zhL zer) func92 (jn [jk 1900551 [vA 7 .Credit] [(30,50)],jk 2883593 [vA 7 .Credit] [(45,50)]] [jq 2 23 11 22])
theorem znx:CT 102 (jB [.ptr [], .plain] [zb9,gA] [mA,zb9] (u2 Bl) [(false,1)] [0] false):=eR 26 (QA yC) func102 a0
theorem zxL:CT 325 (cA [mA,gA,gA] [mA,yA] (λx=>GJ x.1 x.2.1 x.2.2)):=eC 36 pn func325 (jr [jq 1 27 8 26]) (u3 Mv) HS.ok
theorem znh:CT 215 (cA [mA,gA,gA] [gA,gA,yA] (λx=>kH x.1 x.2.1 x.2.2)):=eC 45 (QA zxL) func215 (jm [jk 0 [rA 11 gA] [(13,13),(31,40)]] [jk 8 [rA 11 gA,rA 31 gA] [(13,13),(32,40)]] [jq 1 19 14 18]) (u3 Mw) sS.ok
theorem zxZ:CT 101 (jB [.ptr [], .plain] [zb9,gA] [gA,zb9] (u2 Cq) [(false,1)] [] false):=eR 18 (yB znx znh) func101 a0
theorem AJ:CT 217 (cA [mK] [mA] (λx=>lD x)):=eC 18 pn func217 (jl [jk 0 [vA 3 .byte] [(5,5),(9,16)]] [jk 3 [vA 3 .byte,rA 9 gA] [(5,5),(10,16)]]) Mu kR.ok
theorem zK:CT 218 (cA [mA,gA,gA] [mA] (λx=>VB x.1 x.2.1 x.2.2)):=eC 35 pn func218 (jm [jk 0 [vA 7 .byte] [(8,8),(21,33)]] [jk 5 [vA 7 .byte,rA 8 gA] [(21,33)]] [jq 2 17 12 16]) (u3 Ms) AS.ok
theorem zhH:CT 104 (cA [zB] [mA] Bg):=eR 73 (GB IJ AJ zK) func104 a0
theorem c42:CT 42 (cN [mA] [zB,yA] Db):=eR 70 (QE EI WO zxZ znx IJ zhH) func42 (jn [jk 589829 [fA 4 .bs [],fA 5 .Frame [2,3,5,6,9,10]] [(13,57)],jk 1114120 [fA 4 .bs [],fA 5 .Frame [2,3,5,6,9,10]] [(26,57)],jk 1835017 [fA 4 .bs [],fA 5 .Frame [2,3,5,6,9,10]] [(29,30)],jk 2686991 [fA 4 .bs [],fA 5 .Frame [2,3,5,6,9,10]] [(42,43)],jk 2883601 [fA 4 .bs [],fA 5 .Frame [2,3,5,6,9,10]] [(48,57)]] [jq 6 17 18 25,(21,⟨[rA 67 yA],[(58,66)],[1000005]⟩)])
theorem c97:CT 97 (cA [XD,PB] [yA] (u2 Dc)):=eR 25 pn func97 (jm [jk 0 [] [(4,4),(6,6),(10,24)]] [jk 2 [rA 10 gA] [(4,4),(6,6),(11,24)]] [jq 4 23 14 22])
theorem zod:CT 214 (cA [ZE,PB] [gA] (u2 By)):=eR 28 (yB zeh zer) func214 (jr [jq 2 15 9 14])
theorem zm1:CT 200 (cA [gD,PB,gA] [yA] (u3 Fy)):=eR 19 (yB c97 zod) func200 (jr [jq 1 6 7 18])
theorem zy1:CT 457 (cA [] [tE] (λ_=>some (EE))):=eD 2 pn func457 a0 (λ_=>Sb) zco.ok
theorem zxV:CT 445 (cA [] [xV] (λ_=>some (CO))):=eD 3 (QA zy1) func445 a0 (λ_=>Sd) zbj.ok
theorem zm3:CT 453 (cA [xV] [yA] (λx=>some (NG x))):=eD 20 (yB YB zhT) func453 (jr [jq 1 2 3 19]) Mt CR.ok
theorem zoj:CT 461 (cA [gA,gA] [gA] (λx=>oE x.1 x.2)):=eC 23 pn func461 (jr [jq 2 12 7 11]) (u2 Mx) TS.ok
theorem zy7:CT 460 (cA [mA] [tE] (λx=>pM x)):=eC 79 (yB znh zoj) func460 (jl [jk 0 [vA 3 .int] [(4,4),(14,28)],jk 2 [vA 3 .int] [(5,9),(29,77)]] [jk 5 [rA 4 gA,vA 3 .int] [(14,28)],jk 9 [rA 5 gA,vA 3 .int] [(6,9),(29,77)]]) My cQ.ok
theorem zxB:CT 462 (cA [gA] [gA] (λx=>some (wM x))):=eD 14 pn func462 (jr [jq 1 9 4 8]) Kc pN.ok
theorem zzR:CT 463 (cA [gA,gA] [gA] (λx=>some (TF x.1 x.2))):=eD 9 pn func463 a0 (u2 Se) zcd.ok
theorem zzI:CT 459 (cA [tE,mA] [tE] (λx=>aL x.1 x.2)):=eC 151 (vD zhT zy7 zoj zxB zzR) func459 (jm [jk 0 [rA 7 gA,rA 8 gA,rA 9 gA,rA 10 gA,rA 11 gA,rA 12 gA,rA 13 gA,rA 14 gA] [(15,19),(60,124)],jk 2 [vA 5 .int] [(20,21),(135,149)]] [jk 7 [rA 7 gA,rA 8 gA,rA 9 gA,rA 10 gA,rA 11 gA,rA 12 gA,rA 13 gA,rA 14 gA,rA 15 gA] [(16,19),(60,124)],jk 16 [rA 135 gA,vA 5 .int] [(20,21),(136,149)]] [jq 2 32 25 31]) (u2 Mz) XP.ok
theorem znr:CT 454 (cN [tE,mA] [tE,mA] (λx=>xT x.1 x.2)):=eC 17 (QA zzI) func454 (jl [jk 0 [rA 0 tE,rA 1 mA] [(6,14)]] [jk 1 [rA 0 tE,rA 1 mA] [(6,14)]]) (u2 Na) fP.ok
theorem zz7:CT 444 (cA [xV,mA] [xV] (λx=>zdc x.1 x.2)):=eC 50 (mC yC AJ zm3 znr) func444 (jr [jq 1 17 7 16]) (u2 Nb) XQ.ok
theorem zx5:CT 455 (cA [gA] [mA] (λx=>dN x)):=eC 25 (yB YB zK) func455 (jl [jk 0 [vA 3 .byte] [(8,17)]] [jk 4 [vA 3 .byte] [(8,17)]]) Nc GS.ok
theorem zxH:CT 456 (cA [tE] [mA] (λx=>UK x)):=eC 18 (QA zK) func456 (jl [jk 0 [vA 3 .byte] [(5,5),(9,16)]] [jk 3 [vA 3 .byte,rA 9 gA] [(5,5),(10,16)]]) Nd MP.ok
theorem zzt:CT 443 (cA [xV] [mA] (λx=>zcX x)):=eC 23 (vD AJ zm3 znr zx5 zxH) func443 a0 Nf tQ.ok
theorem zmV:CT 414 (cA [mA] [mA] (λx=>some (JE x))):=eD 10 (GB zzt zz7 zxV) func414 a0 Ng RS.ok
theorem zzP:CT 413 (cA [mA] [mA] (λx=>some (iE x))):=eD 21 (yB yC zmV) func413 ⟨[jk 720902 [vA 3 .byte] [(12,13)]],[jk 0 [vA 3 .byte] [(14,19)]],[jk 6 [vA 3 .byte] [(14,19)]],[],[]⟩ Nh SP.ok
theorem zyw:CT 415 (cA [mA, .v .byte] [mA] (λx=>zae x.1 x.2)):=eC 23 pn func415 (jl [jk 0 [vA 5 .byte] [(7,7),(11,21)]] [jk 3 [vA 5 .byte,rA 11 gA] [(7,7),(12,21)]]) (u2 Ni) iR.ok
theorem zaz:CT 360 (cA [mA,mA] [mA] (λx=>some (XC x.1 x.2))):=eD 27 (mC AJ zzP zmV zyw) func360 (jr [jq 1 13 6 12]) (u2 Nj) xS.ok
theorem zzo:CT 280 (cA [mA,gA] [mA] (λx=>some (zD x.1 x.2))):=eD 22 (mC YB yC zK zaz) func280 (jr [jq 1 13 5 12]) (u2 Nk) rR.ok
theorem zng:CT 168 (cA [nI] [nI,mA] (λx=>ZD x)):=eC 30 (GB c48 yC zzo) func168 (jr [jq 2 18 11 17]) Ps rV.ok
theorem zyc:CT 314 (cA [mA,PB] [mA] (u2 Hz)):=eR 17 (GB jG yC zK) func314 a0
theorem zhG:CT 203 (cA [PB,gA,mA,mA,gA] [mA] (u5 Et)):=eR 46 (QE jG YB zI AJ zK zyc) func203 (jr [jq 1 33 11 32])
theorem zeB:CT 313 (cA [mA,mA] [mA] (u2 Cb)):=eR 15 (yB yC zaz) func313 a0
theorem zmY:CT 201 (cA [NM,PB,gA,mA,mA,gA] [mA] (u6 Fz)):=eR 32 (GB zhN zhG zeB) func201 (jr [jq 2 27 20 26])
theorem zhR:CT 202 (cA [mA,mA] [dF] (u2 Es)):=eR 10 (QA yC) func202 a0
theorem zob:CT 169 (cA [mA] [dF] (λx=>TD x)):=eC 6 (QA yC) func169 a0 Pv oU.ok
theorem c93:CT 93 (cE [gD,gA,PB,zB] [gD,rG,SC] (u4 Ku) [7,8]):=eR 82 (kG yC zng zob zm1 zmY zhR zhG) func93 (jr [jq 1 33 16 32])
theorem zzJ:CT 315 (cA [gA,gA] [yA] (u2 Cw)):=eR 17 (QA YB) func315 (jr [jq 1 4 5 16])
theorem zn4:CT 330 (cA [mA,mA] [gA] (u2 Bq)):=eR 31 pn func330 (jl [jk 0 [rA 5 gA] [(6,6),(14,29)]] [jk 5 [rA 5 gA,rA 14 gA] [(6,6),(15,29)]])
theorem zhZ:CT 316 (cA [mA,mA] [yA] (u2 Bm)):=eR 14 (QA zn4) func316 (jr [jq 1 4 5 13])
theorem zx0:CT 204 (cA [NM,gA,PB,zB] [gA] (u4 Ia)):=eR 52 (kG jG YB IJ zhN zmY zzJ zhZ) func204 (jr [jq 1 31 9 30])
theorem znA:CT 320 (cA [mA,mA] [mA] (u2 Bz)):=eR 8 (QA zaz) func320 a0
theorem zzN:CT 385 (cA [mA,mA,gA] [mA,yA] (λx=>some (gH x.1 x.2.1 x.2.2))):=eD 48 (mC YB yC AJ zaz) func385 (jm [jk 0 [vA 8 .byte,vA 9 .byte] [(10,10),(26,43)]] [jk 6 [vA 8 .byte,vA 9 .byte,rA 10 gA] [(26,43)]] [jq 1 23 11 22]) (u3 Nw) qR.ok
theorem zeq:CT 319 (cA [mA, .v .str] [mA] (λx=>ME x.1 x.2)):=eC 15 (QA zzN) func319 a0 (u2 Pu) YU.ok
theorem zh2:CT 209 (cA [mA] [mA] Bh):=eR 11 (GB zaG zeq znA) func209 a0
theorem zhA:CT 210 (cA [gA,mA,mA,gA,mA] [mA] (u5 Dd)):=eR 44 (mC YB zI AJ zK) func210 (jr [jq 1 33 11 32])
theorem zol:CT 317 (cA [mA,gA,mA,mA,gA,mA] [mA] (u6 Ds)):=eR 34 (GB zh2 zhA zeB) func317 (jr [jq 3 30 23 29])
theorem zyC:CT 205 (cA [mA,zB] [yA] (u2 Ib)):=eR 29 (GB IJ zhZ zol) func205 (jr [jq 1 4 5 28])
theorem zz3:CT 318 (cA [PB] [OD] Cj):=eR 5 pn func318 a0
theorem zyq:CT 328 (cA [mA,mA,mA] [mA] (u3 Ic)):=eR 26 (mC zaG zI AJ znA) func328 (jr [jq 1 19 7 18])
theorem zxD:CT 327 (cA [mA] [mA] Cy):=eR 8 (QA zeq) func327 a0
theorem zxY:CT 329 (cA [mA,gA] [mA] (u2 Ie)):=eR 20 (GB YB yC zeq) func329 (jl [jk 0 [vA 5 .byte] [(6,6),(12,18)]] [jk 5 [vA 5 .byte,rA 6 gA] [(12,18)]])
theorem znb:CT 222 (cA [mA,mA,mA,gA] [mA] (u4 Ga)):=eR 21 (GB zxD zyq zxY) func222 a0
theorem zyn:CT 389 (cA [] [RE] (λ_=>Kv)):=eR 3 pn func389 a0
theorem zho:CT 326 (cA [gA,mA] [kE] (u2 De)):=eR 19 (GB YB yC zyn) func326 (jr [jq 1 12 5 11])
theorem zn2:CT 221 (cA [gA,mA,mA] [bC] (u3 Gb)):=eR 27 (mC yC zI zaE zho) func221 (jr [jq 1 19 7 18])
theorem zAi:CT 206 (cA [mA,gA,PB,zB] [PC] (u4 Eu)):=eR 59 (KL jG YB yC IJ zaG zn2 znb zz3) func206 (jr [jq 1 32 10 31])
theorem zxM:CT 207 (cA [XD,PC] [XD,gA] (u2 Bi)):=eR 51 (QE zaC zeD zes znl zT TO) func207 (jr [jq 2 9 10 21,jq 6 30 31 41])
theorem zhB:CT 208 (cA [mA,mA,mA] [dF] (u3 Dt)):=eR 14 (QA yC) func208 a0
theorem zhy:CT 334 (cA [gA] [mA] Bk):=eR 8 (yB YB zK) func334 a0
theorem zhP:CT 332 (cA [gA,mA,gA,gA] [mA] (u4 Eo)):=eR 37 (vD YB zI AJ zK zaE) func332 (jr [jq 1 26 9 25])
theorem zzB:CT 446 (cA [mA,mA,gA] [mA] (u3 Hv)):=eR 23 (mC YB AJ zK zaz) func446 (jr [jq 1 14 7 13])
theorem zzi:CT 416 (cA [mA,mA,gA] [mA] (u3 Hw)):=eR 39 (GB YB yC zzB) func416 (jm [jk 0 [vA 7 .byte] [(8,8),(23,34)]] [jk 5 [vA 7 .byte,rA 8 gA] [(23,34)]] [jq 1 21 9 20])
theorem zne:CT 362 (cA [mA,mA,mA] [mA] (u3 Eq)):=eR 46 (QA zzi) func362 (jm [jk 0 [vA 7 .byte] [(8,9),(30,44)]] [jk 5 [vA 7 .byte,rA 30 gA] [(8,9),(31,44)]] [jq 1 22 10 21])
theorem tT:CT 225 (cA [gA,zB] [mA] (u2 Cm)):=eR 36 (vD WO IJ AJ zaE zhP) func225 (jr [jq 1 18 5 17])
theorem zzj:CT 392 (cE [mA,gA,mA,gA,gA,gA,mA] [zB,yA] (u7 Dq) [2,5,6,9,10]):=eR 61 (KL yC WO IJ tT zaE zeB zhP zne) func392 (jr [(2,⟨[rA 43 yA],[(26,42)],[19,23,24]⟩)])
theorem zxI:CT 333 (cE [kE,gA,mA,gA,mA] [kE,zB,gA] (u5 Er) [1,4,7,10,11,14,15]):=eR 75 (GB zev zhI zzj) func333 (jr [jq 7 47 41 46])
theorem zek:CT 226 (cE [bC,gA,mA] [bC,zB,gA] (u3 Bs) [1,3,6,8,11,14,17,20,21,24,25]):=eR 38 (GB EJ GL zxI) func226 a0
theorem zni:CT 321 (cE [bC] [bC,zB,gA] Gc [1,3,6,8,11,14,17,20,21,24,25]):=eR 25 (mC EJ GL zek zhy) func321 (jr [jq 1 12 5 11])
theorem zay:CT 227 (cA [bC,zB] [dF] (u2 Bt)):=eR 13 (yB zhR tT) func227 a0
theorem zyK:CT 211 (cA [PC] [PC,rG,SC] Ev):=eR 49 (mC zay zT TO zni) func211 ⟨[],[],[],[jq 2 24 11 23],[(8,[1000007])]⟩
theorem zna:CT 212 (cA [XD,gA,PC] [XD,yA] (u3 Bu)):=eR 38 (GB zeD zes TO) func212 (jr [jq 2 24 11 23])
theorem c94:CT 94 (cE [gD,gA,PB,zB] [gD,rG,SC] (u4 Kw) [7,8]):=eR 181 (IE EI yC zaC zhG zx0 zyC zAi zxM (vD zhB zh2 zhA zyK zna)) func94 (jn [jk 3604486 [vA 11 .Note,fA 8 .Server [0,1,2,5,6],fA 4 .Server []] [(9,10),(12,15),(56,130)]] [jq 1 47 21 46,jq 14 158 142 157])
theorem zzd:CT 430 (cA [RE,gA] [yA] (u2 Cs)):=eR 31 (GB YB zn6 zm2) func430 (jr [jq 1 12 5 11,jq 3 4 13 30])
theorem zzA:CT 390 (cA [RE,gA] [RE,yA] (u2 Df)):=eR 57 (yB znU zzd) func390 (jl [jk 0 [fA 6 .Win [1]] [(7,7),(22,38)]] [jk 5 [rA 7 gA,fA 6 .Win [1]] [(22,38)]])
theorem zzQ:CT 391 (cA [mA,gA,zB] [mA,yA] (u3 If)):=eR 41 (vD tT zeB zhZ zhP zne) func391 (jr [(2,⟨[rA 28 yA],[(12,27)],[8]⟩)])
theorem zAd:CT 331 (cA [kE,gA,zB] [kE,mA,gA] (u3 Ew)):=eR 59 (vD tT zev zhI zzA zzQ) func331 (jr [jq 2 31 15 30])
theorem zmZ:CT 223 (cE [bC,gA,zB] [bC,mA,gA] (u3 Dg) [1,14,15]):=eR 157 (KL YB WO IJ EJ GL zho zn4 zAd) func223 (jn [jk 6684686 [fA 13 .Ep []] [(103,104)],jk 6881296 [fA 13 .Ep []] [(106,112)],(8978455,⟨[fA 9 .Chan [1,14]],[(127,136),(139,154)],[1000014]⟩),jk 9633817 [fA 9 .Chan [1,8,11,14]] [(148,150)],jk 9895963 [fA 9 .Chan [1,14]] [(127,136),(153,154)]] [jq 2 37 19 36,jq 5 11 45 54,jq 6 12 55 67,jq 7 85 68 84,jq 9 98 87 97,jq 23 147 141 146])
theorem znv:CT 224 (cA [bC,gA] [mA,yA] (u2 Gd)):=eR 50 (yB yC EJ) func224 (jr [jq 3 10 11 19,jq 7 34 35 46])
theorem znk:CT 386 (cA [OD,PB] [gA] (λx=>hJ x.1 x.2)):=eC 21 pn func386 (jl [jk 0 [] [(4,6),(10,20)]] [jk 2 [rA 10 gA] [(4,6),(11,20)]]) (u2 Mr) mR.ok
theorem zyX:CT 322 (cA [OD,gA,PB,mA] [OD,yA] (u4 Ge)):=eR 65 (vD YB EI zem zaH znk) func322 (jr [jq 3 49 17 48])
theorem zy5:CT 429 (cA [bC] [bC,yA] Ig):=eR 38 (mC EJ GL zeq zho) func429 (jr [jq 2 20 7 19])
theorem zz4:CT 387 (cA [bC,gA,mA] [bC,gA] (u3 Ih)):=eR 58 (QE YB EI EJ GL zhy zy5) func387 (jr [jq 2 33 13 32,jq 7 55 47 54])
theorem zxW:CT 323 (cE [PC,gA,mA] [PC,rG,SC] (u3 Kx) [24,25]):=eR 75 (mC yC zay zni zz4) func323 ⟨[(2162695,⟨[vA 11 .Note],[(34,47)],[1000009]⟩)],[],[],[],[(12,[1000013])]⟩
theorem znp:CT 388 (cA [OD,gA] [OD] (u2 Du)):=eR 31 (QA zaH) func388 ⟨[jk 1441799 [fA 5 .Paths [2]] [(23,28)]],[jk 0 [fA 5 .Paths [2]] [(7,7),(15,29)]],[jk 3 [rA 15 gA,fA 5 .Paths [2]] [(7,7),(16,29)]],[],[]⟩
theorem zzM:CT 324 (cA [OD,gA,PB,mA] [OD,yA] (u4 Gf)):=eR 64 (KL jG YB yC zI zem zaH znk znp) func324 (jr [jq 1 34 11 33,jq 4 49 40 48])
theorem zy9:CT 213 (cE [PC,gA,PB,zB,mA] [PC,rG,SC,yA] (u5 Gg) [24,25]):=eR 180 (IE jG yC zhB zmZ znv tT zek zay (vD zT TO zyX zxW zzM)) func213 (jn [(5242894,⟨[vA 20 .Note,vA 21 .Out,fA 14 .Sess []],[(22,26),(82,136)],[16]⟩),jk 6225936 [vA 20 .Note,vA 21 .Out,fA 14 .Sess []] [(22,26),(97,136)],(6946834,⟨[vA 20 .Note,fA 14 .Sess [1,2,4,17]],[(107,118)],[1000022]⟩),jk 7798805 [vA 20 .Note,vA 21 .Out,fA 14 .Sess []] [(24,26),(121,136)]] [jq 2 44 33 43,jq 26 159 154 158])
theorem c96:CT 96 (cE [gD,gA,PB,zB] [gD,rG,SC] (u4 Ky) [7,8]):=eR 93 (kG yC zaC zng zob zm1 zna zy9) func96 (jn [jk 2949127 [vA 13 .byte] [],(4653067,⟨[vA 16 .Note,fA 4 .Server [5]],[(18,18),(72,89)],[1000012]⟩)] [jq 2 34 24 33])
theorem c99:CT 99 (cA [zB] [gA] Dv):=eR 6 (QA zhH) func99 a0
theorem c98:CT 98 (cA [ZE,PB,gA] [ZE,yA] (u3 Dw)):=eR 41 (vD YB zeh zhL zer zod) func98 (jr [jq 3 29 15 28])
theorem c40:CT 40 (cE [gD,gA,PB,mA] [gD,rG,SC] (u4 Ii) [7,8]):=eR 129 (IE jG YB c42 c47 c86 c92 c93 c94 (vD WO c96 c97 c98 c99)) func40 ⟨[jk 3342346 [vA 14 .Out,vA 15 .Note,fA 11 .Server []] [(54,92)],jk 3538955 [vA 14 .Out,vA 15 .Note,fA 11 .Server []] [(58,92)],jk 4390925 [vA 14 .Out,vA 15 .Note,fA 11 .Server []] [(71,92)],jk 5242895 [vA 14 .Out,vA 15 .Note,fA 11 .Server []] [(84,92)],jk 6881301 [fA 11 .Server []] [(19,20),(106,120)]],[jk 1 [vA 16 .Out,fA 11 .Server []] [(18,20),(96,125)],jk 2 [vA 16 .Out,fA 11 .Server []] [(18,20),(98,124)]],[jk 17 [vA 16 .Out,rA 96 gA,fA 11 .Server []] [(18,20),(97,125)]],[jq 2 35 23 34],[]⟩
theorem c60:CT 60 (cA [gA] [PB] (λx=>some (vB x))):=eD 12 (QA YB) func60 a0 Re zcP.ok
theorem bP:CT 14 (cA [] [PB] (λ_=>some (MD))):=eD 2 (QA c60) func14 a0 (λ_=>Rf) zdb.ok
theorem znO:CT 100 (cA [PB,PB,zB] [IS] (u3 Fx)):=eR 12 (QA zhH) func100 a0
theorem c41:CT 41 (cA [rG] [BF] Dx):=eR 24 (yB bP znO) func41 (jl [jk 0 [vA 3 .Wire] [(5,5),(9,22)]] [jk 3 [vA 3 .Wire,rA 9 gA] [(5,5),(10,22)]])
theorem zz2:CT 219 (cA [mA,gA,zB] [zB,yA] (u3 Ey)):=eR 47 (GB yC IJ zol) func219 (jr [jq 1 16 9 15])
theorem znE:CT 220 (cA [gA] [jI] Bf):=eR 10 (QA YB) func220 a0
theorem zzl:CT 105 (cA [rC,gA,zB] [rC,AH,SC] (u3 Kz)):=eR 77 (IE yC ET zhm zhR zh2 zhA zz2 znE (yB zn2 znb)) func105 a0
theorem zzh:CT 106 (cE [rC,gA,zB] [rC,AH,SC] (u3 La) [1,5,8,9,11,12,15,16,41,42]):=eR 152 (KL yC ET zhB zmZ znv tT zek zay) func106 ⟨[(3538954,⟨[vA 15 .Note,fA 9 .Client [1,5,8,9,11,12,15,16]],[(55,76)],[1000010]⟩),jk 5505037 [vA 15 .Note,fA 9 .Client [1,5,8,9,11,12,15,16]] [(85,100)],(6750224,⟨[vA 15 .Note],[(104,116)],[11]⟩)],[],[],[],[(23,[1000017])]⟩
theorem c43:CT 43 (cE [rC,gA,zB] [rC,AH,SC] (u3 Ij) [1,5,8,9,11,12,15,16,41,42]):=eR 68 (KL YB c50 EI ET WO IJ zzl zzh) func43 (jr [jq 1 21 9 20,jq 3 38 24 37,jq 5 58 46 57])
theorem c44:CT 44 (cA [rC,AH] [BF] (u2 Cp)):=eR 25 (yB bP znO) func44 (jl [jk 0 [vA 5 .Wire] [(7,7),(11,23)]] [jk 3 [vA 5 .Wire,rA 11 gA] [(7,7),(12,23)]])
theorem c9:CT 9 (cE [zE,gA,PB,mA] [zE,BF] (u4 Bn) [1,9,11,12,13,14]):=eR 95 (IE lG jG c38 YB c40 c41 c42 c43 (QA c44)) func9 (jr [jq 2 33 21 32])
theorem zno:CT 109 (cA [rC] [rC] Dr):=eR 11 (QA yC) func109 a0
theorem znH:CT 114 (cA [gA,gA,mA] [dF] (u3 Co)):=eR 12 (QA yC) func114 a0
theorem zok:CT 228 (cA [bC,gA] [bC] (u2 Bw)):=eR 34 (GB YB EJ GL) func228 (jn [jk 1835012 [fA 5 .Chan [1,3,6,8,11,14]] [(29,32)]] [jq 2 28 8 27])
theorem zzH:CT 230 (cA [jI,gA] [yA] (u2 Cu)):=eR 21 (yB YB znI) func230 (jr [jq 1 4 5 20])
theorem znf:CT 108 (cA [jI,gA] [jI,gA] (u2 Dz)):=eR 28 (QA zzH) func108 a0
theorem zAe:CT 229 (cE [bC] [bC,zB,gA] Fw [1,3,6,8,11,14,17,20,21,24,25]):=eR 27 (mC EJ GL zek zhy) func229 (jr [jq 1 13 5 12])
theorem zyH:CT 107 (cE [rC,gA] [rC,AH,SC] (u2 Lg) [1,5,8,9,11,12,15,16,41,42]):=eR 70 (KL ET znf zno znH znE zay zok zAe) func107 ⟨[jk 3080203 [fA 7 .Client [1,5,8,9,11,12,15,16,18,20,23,25,28,31]] [(48,50)]],[],[],[],[(15,[1000011])]⟩
theorem zyQ:CT 110 (cA [rC] [zB] Fv):=eR 9 (QA yC) func110 a0
theorem c45:CT 45 (cE [rC,gA] [rC,AH,SC] (u2 Il) [1,5,8,9,11,12,15,16,41,42]):=eR 77 (IE YB c50 yC ET zyH znf zno zyQ (QA zhm)) func45 (jr [jq 2 24 12 23,jq 10 56 57 63])
theorem zyR:CT 288 (cA [PC] [PC] Ez):=eR 19 (GB yC zT TO) func288 a0
theorem zxO:CT 335 (cA [OD,gA] [OD] (u2 Dh)):=eR 18 (mC YB zem zaH znp) func335 (jr [jq 1 12 5 11])
theorem zxA:CT 231 (cA [PC,gA] [PC] (u2 Im)):=eR 39 (QE YB zok zT zyR TO zxO) func231 (jr [jq 2 19 8 18])
theorem zxC:CT 112 (cA [XD,gA] [XD] (u2 In)):=eR 49 (mC YB zeD zes zxA) func112 ⟨[(2621450,⟨[fA 5 .Tab [1]],[(41,46)],[1000007]⟩)],[jk 0 [fA 5 .Tab [1]] [(7,7),(24,47)]],[jk 5 [rA 24 gA,fA 5 .Tab [1]] [(7,7),(25,47)]],[jq 1 15 8 14,jq 8 40 31 39],[]⟩
theorem c46:CT 46 (cE [gD,gA] [gD,SC] (u2 Io) [7]):=eR 68 (QE YB c47 c86 zxC zaC znH) func46 ⟨[jk 3670028 [vA 7 .Note] [(57,64)]],[(0,⟨[vA 7 .Note],[(9,10),(32,65)],[1000006]⟩)],[jk 7 [vA 7 .Note,rA 32 gA] [(9,10),(33,65)]],[jq 2 20 13 19,jq 10 56 41 55],[]⟩
theorem CG:CT 10 (cE [zE] [zE,BF] Cc [1,9,11,12,13,14]):=eR 79 (vD lG c38 c44 c45 c46) func10 (jm [jk 0 [vA 5 .Wire,fA 4 .World [1,2,3,4,7,8,9,11,12,13]] [(6,9),(31,61)]] [jk 7 [vA 5 .Wire,rA 31 gA,fA 4 .World [1,2,3,4,7,8,9,11,12,13]] [(6,9),(32,61)]] [jq 2 21 14 20])
theorem zzu:CT 130 (cA [IS] [yA] (λx=>some (CE x))):=eD 17 (QA TG) func130 (jr [jq 1 2 3 16]) Ru zbD.ok
theorem c56:CT 56 (cA [BF] [yA] (λx=>some (PD x))):=eD 19 (QA zzu) func56 (jl [jk 0 [] [(2,15)]] [jk 2 [rA 3 gA] [(2,2),(4,15)]]) Rv za4.ok
theorem zzr:CT 137 (cA [gA,gA] [yA] (λx=>some (SD x.1 x.2))):=eD 12 pn func137 (jr [jq 1 4 5 11]) (u2 Po) QU.ok
theorem c59:CT 59 (cA [dF] [yA] (λx=>some (jC x))):=eD 60 (GB DB TG zzr) func59 (jr [jq 1 2 3 59]) Lp DR.ok
theorem GT:CT 12 (cA [zE] [yA] (λx=>AE x)):=eC 113 (kG DB lN c55 c56 mN LL c59) func12 (jm [jk 0 [] [(2,3),(47,84)],jk 2 [] [(2,2),(4,4),(85,98)],jk 4 [] [(2,2),(5,5),(99,112)]] [jk 4 [rA 3 gA] [(2,2),(47,84)],jk 9 [rA 4 gA] [(2,2),(85,98)],jk 14 [rA 5 gA] [(2,2),(99,112)]] [jq 1 46 6 45,jq 6 84 51 83]) Mn yQ.ok
theorem c13:CT 13 (cA [zE,PB] [gA] (λx=>KH x.1 x.2)):=eC 24 (QA bP) func13 (jl [jk 0 [] [(4,4),(6,6),(13,23)]] [jk 4 [rA 13 gA] [(4,4),(6,6),(14,23)]]) (u2 Ls) GQ.ok
theorem JL:CT 62 (cA [mA,mA] [yA] (λx=>(λ(a0:List UInt8) (a1:List UInt8)=>kB a0 a1) x.1 x.2)):=eC 10 pn func62 a0 (u2 Ny) tS.ok
theorem zz6:CT 396 (cA [tE,tE] [yA] (λx=>(λ(a0:List Int) (a1:List Int)=>kB a0 a1) x.1 x.2)):=eC 26 pn func396 (jl [jk 0 [] [(4,5),(11,25)]] [jk 4 [rA 5 gA] [(4,4),(11,25)]]) (u2 Nz) QP.ok
theorem zx2:CT 342 (cA [RE,RE] [yA] (λx=>(λ(a0:Aq) (a1:Aq)=>kB a0 a1) x.1 x.2)):=eC 17 (QA zz6) func342 (jr [jq 1 4 5 16]) (u2 Oa) nQ.ok
theorem zyB:CT 246 (cA [kE,kE] [yA] (λx=>(λ(a0:Ax) (a1:Ax)=>kB a0 a1) x.1 x.2)):=eC 31 (yB JL zx2) func246 (jr [jq 1 4 5 30]) (u2 Ob) nR.ok
theorem znS:CT 141 (cA [bC,bC] [yA] (λx=>(λ(a0:Ak) (a1:Ak)=>kB a0 a1) x.1 x.2)):=eC 52 (yB JL zyB) func141 (jr [jq 1 4 5 51]) (u2 Oc) ZP.ok
theorem zyt:CT 341 (cA [OD,OD] [yA] (λx=>(λ(a0:Aj) (a1:Aj)=>kB a0 a1) x.1 x.2)):=eC 71 (QA JL) func341 (jm [jk 0 [] [(4,5),(20,70)]] [jk 4 [rA 5 gA] [(4,4),(20,70)]] [jq 1 19 6 18,jq 6 70 27 69]) (u2 Od) CP.ok
theorem zAg:CT 245 (cA [PC,PC] [yA] (λx=>(λ(a0:Ai) (a1:Ai)=>kB a0 a1) x.1 x.2)):=eC 59 (GB JL znS zyt) func245 (jr [jq 1 4 5 58]) (u2 Oe) iQ.ok
theorem zyG:CT 138 (cA [XD,XD] [yA] (λx=>(λ(a0:Ap) (a1:Ap)=>kB a0 a1) x.1 x.2)):=eC 39 (QA zAg) func138 (jm [jk 0 [] [(4,5),(20,38)]] [jk 4 [rA 5 gA] [(4,4),(20,38)]] [jq 1 19 6 18]) (u2 Of) mQ.ok
theorem zz1:CT 139 (cA [ZE,ZE] [yA] (λx=>(λ(a0:List Al) (a1:List Al)=>kB a0 a1) x.1 x.2)):=eC 26 pn func139 (jl [jk 0 [] [(4,5),(11,25)]] [jk 4 [rA 5 gA] [(4,4),(11,25)]]) (u2 Og) dP.ok
theorem c61:CT 61 (cA [gD,gD] [yA] (λx=>(λ(a0:Ac) (a1:Ac)=>kB a0 a1) x.1 x.2)):=eC 77 (GB JL zyG zz1) func61 (jm [jk 0 [] [(4,5),(58,76)]] [jk 4 [rA 5 gA] [(4,4),(58,76)]] [jq 1 57 6 56]) (u2 Oh) jP.ok
theorem c26:CT 26 (cA [BF,BF] [yA] (λx=>(λ(a0:List Am) (a1:List Am)=>kB a0 a1) x.1 x.2)):=eC 55 (QA JL) func26 (jm [jk 0 [] [(4,5),(11,54)]] [jk 4 [rA 5 gA] [(4,4),(11,54)]] [jq 6 54 17 53]) (u2 Oi) GP.ok
theorem c64:CT 64 (cA [dF,dF] [yA] (λx=>(λ(a0:Ae) (a1:Ae)=>kB a0 a1) x.1 x.2)):=eC 80 (QA EI) func64 (jr [jq 1 4 5 79]) (u2 Oj) jQ.ok
theorem c18:CT 18 (cA [SC,SC] [yA] (λx=>(λ(a0:List Ae) (a1:List Ae)=>kB a0 a1) x.1 x.2)):=eC 27 (QA c64) func18 (jl [jk 0 [] [(4,5),(11,26)]] [jk 4 [rA 5 gA] [(4,4),(11,26)]]) (u2 Ol) HP.ok
theorem zxQ:CT 140 (cA [zB,zB] [yA] (λx=>(λ(a0:Ab) (a1:Ab)=>kB a0 a1) x.1 x.2)):=eC 80 (QA JL) func140 (jr [jq 1 4 5 79]) (u2 Om) EP.ok
theorem c63:CT 63 (cA [rC,rC] [yA] (λx=>(λ(a0:Ad) (a1:Ad)=>kB a0 a1) x.1 x.2)):=eC 73 (GB JL zxQ znS) func63 (jr [jq 1 4 5 72]) (u2 Oo) xP.ok
theorem c17:CT 17 (cA [zE,zE] [yA] (λx=>(λ(a0:Aa) (a1:Aa)=>kB a0 a1) x.1 x.2)):=eC 111 (vD c18 c26 c61 JL c63) func17 (jm [jk 0 [] [(4,5),(73,91)],jk 2 [] [(4,4),(6,6),(92,110)]] [jk 4 [rA 5 gA] [(4,4),(73,91)],jk 9 [rA 6 gA] [(4,4),(92,110)]] [jq 1 72 7 71]) (u2 Oq) BP.ok
theorem c3:CT 3 (cA [mA] [yA] (λx=>some ((λ(a0:List UInt8)=>zmn a0) x))):=eD 174 (IE c6 c7 c8 c9 CG lG GT c13 (vD bP c15 jG c17 c18)) func3 (jm [jk 0 [] [(2,2),(12,12),(61,91)],jk 2 [] [(2,2),(13,13),(116,151)]] [jk 10 [rA 12 gA] [(2,2),(61,91)],jk 17 [rA 13 gA] [(2,2),(116,151)]] [(7,⟨[rA 60 yA],[(38,59)],[1000010]⟩),jq 12 91 67 90,jq 14 107 92 106,(15,⟨[rA 2 yA],[(108,115)],[1000008]⟩),jq 19 151 122 150,(21,⟨[rA 2 yA],[(152,173)],[1000008]⟩)]) Pl fQ.ok
end Go.D

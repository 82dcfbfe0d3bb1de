/-
 The functions of the program: each computes what is said of it.
-/
import Derived.Test.YtfealdecpglcnaaGreatN16
import Derived.Test.YtfealdecpglcnaaGreatProg
import Derived.KernelRfl
set_option linter.all false
namespace Go.D
open Go.Proofs
open Tryz
def tnT:TypeId→Option TN:=λt=>OC t [(3, .int),(5, .byte),(22, .bs),(48, .Frame),(59, .Client),(66, .Wire),(71, .Note),(77, .Sess),(102, .Cand),(137, .Event),(146, .Credit),(197, .Op),(230, .Out)]
theorem zkc:Tryz.prog.follows .mixedOrders=true:=by kernel_rfl
def TL:List (TypeId×TN):=[(3, .int),(5, .byte),(22, .bs),(48, .Frame),(59, .Client),(66, .Wire),(71, .Note),(77, .Sess),(102, .Cand),(137, .Event),(146, .Credit),(197, .Op),(230, .Out)]
theorem zlU:zdq prog TL=true:=by kernel_rfl
variable [AV TL]
def a0:An:=⟨[],[],[],[],[]⟩
abbrev u2{A B R:Type}(f:A→B→R):A×B→R:=λx=>f x.1 x.2
abbrev u3{A B C R:Type}(f:A→B→C→R):A×B×C→R:=λx=>f x.1 x.2.1 x.2.2
abbrev u4{A B C D R:Type}(f:A→B→C→D→R):A×B×C×D→R:=λx=>f x.1 x.2.1 x.2.2.1 x.2.2.2
abbrev u5{A B C D E R:Type}(f:A→B→C→D→E→R):A×B×C×D×E→R:=λx=>f x.1 x.2.1 x.2.2.1 x.2.2.2.1 x.2.2.2.2
abbrev u6{A B C D E F R:Type}(f:A→B→C→D→E→F→R):A×B×C×D×E×F→R:=λx=>f x.1 x.2.1 x.2.2.1 x.2.2.2.1 x.2.2.2.2.1 x.2.2.2.2.2
abbrev u7{A B C D E F G R:Type}(f:A→B→C→D→E→F→G→R):A×B×C×D×E×F×G→R:=λx=>f x.1 x.2.1 x.2.2.1 x.2.2.2.1 x.2.2.2.2.1 x.2.2.2.2.2.1 x.2.2.2.2.2.2
abbrev u8{A B C D E F G H R:Type}(f:A→B→C→D→E→F→G→H→R):A×B×C×D×E×F×G×H→R:=λx=>f x.1 x.2.1 x.2.2.1 x.2.2.2.1 x.2.2.2.2.1 x.2.2.2.2.2.1 x.2.2.2.2.2.2.1 x.2.2.2.2.2.2.2
def Ph:List (Nat×eB)→Prop
 | []=>True
 | (g,ci) :: l=>xB prog g ci∧Ph l
theorem pn:Ph []:=trivial
theorem ph{n:Nat}:∀(l:List (Nat×eB)),(l.all λp=>Nat.blt p.1 1048576)=true→Ph l→YF ⟨prog,λt=>OC t TL,λf=>ZF f l,n,oL⟩
 | [],_,_=>zvb
 | (g,ci) :: l,h,k=>by
  simp only[List.all_cons,Bool.and_eq_true]at h;have hg:g % 1048576=g:=Nat.mod_eq_of_lt (by simpa[Nat.blt_eq]using h.1);exact ztA (by rw[hg];exact k.1) (ph l h.2 k.2)
def okB (n m : Nat) (l : List (Nat × eB)) (fn : Func) (ks : List nB) (ats : List Ty) : Bool := (l.all λp => Nat.blt p.1 1048576) && (fn.body.isSome && !(fn.name == "runtime.NumGoroutine") && Nat.beq n fn.ntmps && bC ks ats && Nat.ble m fn.ntmps)
theorem eC{f:Nat}{fn:Func}{ks:List nB}{ats rts:List Ty}{F:iB ats→Option (iB rts)}{sh:List (Bool×Nat)}{own:List Nat}(n:Nat){l:List (Nat×eB)}
  (hp:Ph l) (hf:prog.funcs[f]?=some fn) (an:An) (Raw:iB ats→Option (iB rts))
  (he:(okB n ks.length l fn ks ats,λx=>BV ⟨prog,λt=>OC t TL,λf=>ZF f l,n,oL⟩ fn (fn.body.getD .skip) an ks own sh rts (cB ats x))=(true,Raw))
  (uX:∀{x},xA ats x→∀{r},F x=some r→Raw x=some r):xB prog f (kB ks ats rts F sh own false):=by
 obtain⟨h0,h1⟩:=Prod.mk.inj he;obtain⟨ha,hb⟩:=Bool.and_eq_true_iff.1 h0;exact evC n zkc zlU (ph l ha hp) hf an Raw hb (λx=>congrFun h1 x) λ_ _ hb h=>uX hb h
theorem eR{f:Nat}{fn:Func}{ks:List nB}{ats rts:List Ty}{F:iB ats→Option (iB rts)}{sh:List (Bool×Nat)}{own:List Nat}(n:Nat){l:List (Nat×eB)}
  (hp:Ph l) (hf:prog.funcs[f]?=some fn) (an:An)
  (he:(okB n ks.length l fn ks ats,λx=>BV ⟨prog,λt=>OC t TL,λf=>ZF f l,n,oL⟩ fn (fn.body.getD .skip) an ks own sh rts (cB ats x))=(true,F)):
  xB prog f (kB ks ats rts F sh own false):=eC n hp hf an F he λ_ _ h=>h
theorem eP{f:Nat}{fn:Func}{m:Nat}{ats rts:List Ty}{F:iB ats→Option (iB rts)}{sh:List (Bool×Nat)}(n:Nat){l:List (Nat×eB)}
  (hp:Ph l) (hf:prog.funcs[f]?=some fn) (an:An) (Raw:iB ats→Option (iB rts))
  (he:(okB n m l fn (XD m) ats,λx=>zdp ⟨prog,λt=>OC t TL,λf=>ZF f l,n,oL⟩ fn (fn.body.getD .skip) an (XD m) rts (cB ats x))=(true,Raw))
  (uX:∀{x},xA ats x→∀{r},F x=some r→Raw x=some r):xB prog f (kB (XD m) ats rts F sh [] true):=by
 obtain⟨h0,h1⟩:=Prod.mk.inj he;obtain⟨ha,hb⟩:=Bool.and_eq_true_iff.1 h0;exact evP n zkc zlU (ph l ha hp) hf an Raw hb (λx=>congrFun h1 x) λ_ _ hb h=>uX hb h
theorem eQ{f:Nat}{fn:Func}{m:Nat}{ats rts:List Ty}{F:iB ats→Option (iB rts)}{sh:List (Bool×Nat)}(n:Nat){l:List (Nat×eB)}
  (hp:Ph l) (hf:prog.funcs[f]?=some fn) (an:An)
  (he:(okB n m l fn (XD m) ats,λx=>zdp ⟨prog,λt=>OC t TL,λf=>ZF f l,n,oL⟩ fn (fn.body.getD .skip) an (XD m) rts (cB ats x))=(true,F)):
  xB prog f (kB (XD m) ats rts F sh [] true):=eP n hp hf an F he λ_ _ h=>h
theorem eD{f:Nat}{fn:Func}{ks:List nB}{ats rts:List Ty}{G:iB ats→iB rts}{sh:List (Bool×Nat)}{own:List Nat}(n:Nat){l:List (Nat×eB)}
  (hp:Ph l) (hf:prog.funcs[f]?=some fn) (an:An) (Raw:iB ats→Option (iB rts))
  (he:(okB n ks.length l fn ks ats,λx=>BV ⟨prog,λt=>OC t TL,λf=>ZF f l,n,oL⟩ fn (fn.body.getD .skip) an ks own sh rts (cB ats x))=(true,Raw))
  (uX:∀{x},xA ats x→Raw x=some (G x)):xB prog f (kB ks ats rts (λx=>some (G x)) sh own false):=eC n hp hf an Raw he λhb _ h=>(uX hb).trans h
abbrev lA:Ty:= .sl .byte
abbrev yA:Ty:= .v .bool
abbrev QA:Ty:= .cells .Cur
abbrev gA:Ty:= .v .int
abbrev XH:Ty:= .v .Dice
abbrev oE:Ty:= .sl .int
abbrev oM:Ty:= .v .Jar
abbrev QD:Ty:= .v .Tab
abbrev fE:Ty:= .v .Ep
abbrev ZB:Ty:= .v .Chan
abbrev OB:Ty:= .v .Addr
abbrev ME:Ty:= .v .Win
abbrev KD:Ty:= .v .Paths
abbrev NC:Ty:= .v .Sess
abbrev UE:Ty:= .sl .Credit
abbrev fD:Ty:= .v .Server
abbrev WJ:Ty:= .sl .bs
abbrev oC:Ty:= .v .Client
abbrev YE:Ty:= .v .Note
abbrev RC:Ty:= .v .World
abbrev aE:Ty:= .sl .Wire
abbrev SC:Ty:= .sl .Note
abbrev vB:Ty:= .v .Frame
abbrev UH:Ty:= .v .Timer
abbrev oH:Ty:= .sl .Frame
abbrev QN:Ty:= .v .Wire
abbrev dG:Ty:= .cells .World
abbrev gG:Ty:= .sl .Out
abbrev zbw:Ty:= .cells .bs
abbrev XU:Ty:= .v .Hash
def tnS:TN→Nat×List Nat
 | .Addr=>(2,[])
 | .Cand=>(4,[2])
 | .Chan=>(15,[1,3,6,8,11,14])
 | .Client=>(41,[1,5,8,9,11,12,15,16,18,20,23,25,28,31])
 | .Dice=>(2,[0])
 | .Ep=>(5,[1,4])
 | .Frame=>(11,[2,3,5,6,9,10])
 | .Hash=>(3,[0,1])
 | .Jar=>(1,[0])
 | .Note=>(12,[3,4,7,8])
 | .Paths=>(3,[2])
 | .Server=>(7,[0,1,2,5,6])
 | .Sess=>(24,[1,2,4,6,9,11,14,17,20])
 | .Tab=>(2,[1])
 | .Timer=>(4,[])
 | .Win=>(2,[1])
 | .Wire=>(5,[4])
 | .World=>(14,[1,2,3,4,7,8,9,11,12,13])
 | _=>(0,[])
def tyS:Ty→Bool×Nat
 | .v n=>match(tnS n).1 with
  | 0=>(false,1)
  | k=>(true,k)
 | _=>(false,1)
def tyO:Nat→List Ty→List Nat
 | _,[]=>[]
 | p, .v n :: l=>(tnS n).2.map (λi=>p+i)++tyO (p+(tyS (.v n)).2) l
 | p,_ :: l=>p :: tyO (p+1) l
abbrev CT(n:Nat)(c:eB):=xB prog n c
abbrev cA(a r:List Ty)(F:iB a→Option (iB r)):=kB (XD a.length) a r F (r.map tyS) (tyO 0 r) false
abbrev cN(a r:List Ty)(F:iB a→Option (iB r)):=kB (XD a.length) a r F (r.map tyS) [] false
abbrev cE(a r:List Ty)(F:iB a→Option (iB r))(o:List Nat):=kB (XD a.length) a r F (r.map tyS) o false
abbrev pA:=jC.slot
abbrev fA:=jC.box
abbrev rA:=jC.own
def jj(a:List jC)(b:List (Nat×Nat)):JI:=⟨a,b,[]⟩
def jk(n:Nat)(a:List jC)(b:List (Nat×Nat)):Nat×JI:=(n,⟨a,b,[]⟩)
def jq(n s a b:Nat):Nat×JI:=(n,⟨[.slot s (.v .bool)],[(a,b)],[]⟩)
def jr(r:List (Nat×JI)):An:=⟨[],[],[],r,[]⟩
def jl(b l:List (Nat×JI)):An:=⟨[],b,l,[],[]⟩
def jc(c:List (Nat×JI)):An:=⟨c,[],[],[],[]⟩
def jm(b l r:List (Nat×JI)):An:=⟨[],b,l,r,[]⟩
def jn(c r:List (Nat×JI)):An:=⟨c,[],[],r,[]⟩
theorem OA{g0:Nat}{k0:eB}(h0:xB prog g0 k0):Ph [(g0,k0)]:=⟨h0,trivial⟩
theorem uB{g0:Nat}{k0:eB}{g1:Nat}{k1:eB}(h0:xB prog g0 k0)(h1:xB prog g1 k1):Ph [(g0,k0),(g1,k1)]:=⟨h0,h1,trivial⟩
theorem DB{g0:Nat}{k0:eB}{g1:Nat}{k1:eB}{g2:Nat}{k2:eB}(h0:xB prog g0 k0)(h1:xB prog g1 k1)(h2:xB prog g2 k2):Ph [(g0,k0),(g1,k1),(g2,k2)]:=⟨h0,h1,h2,trivial⟩
theorem cC{g0:Nat}{k0:eB}{g1:Nat}{k1:eB}{g2:Nat}{k2:eB}{g3:Nat}{k3:eB}(h0:xB prog g0 k0)(h1:xB prog g1 k1)(h2:xB prog g2 k2)(h3:xB prog g3 k3):Ph [(g0,k0),(g1,k1),(g2,k2),(g3,k3)]:=⟨h0,h1,h2,h3,trivial⟩
theorem lD{g0:Nat}{k0:eB}{g1:Nat}{k1:eB}{g2:Nat}{k2:eB}{g3:Nat}{k3:eB}{g4:Nat}{k4:eB}(h0:xB prog g0 k0)(h1:xB prog g1 k1)(h2:xB prog g2 k2)(h3:xB prog g3 k3)(h4:xB prog g4 k4):Ph [(g0,k0),(g1,k1),(g2,k2),(g3,k3),(g4,k4)]:=⟨h0,h1,h2,h3,h4,trivial⟩
theorem EE{g0:Nat}{k0:eB}{g1:Nat}{k1:eB}{g2:Nat}{k2:eB}{g3:Nat}{k3:eB}{g4:Nat}{k4:eB}{g5:Nat}{k5:eB}(h0:xB prog g0 k0)(h1:xB prog g1 k1)(h2:xB prog g2 k2)(h3:xB prog g3 k3)(h4:xB prog g4 k4)(h5:xB prog g5 k5):Ph [(g0,k0),(g1,k1),(g2,k2),(g3,k3),(g4,k4),(g5,k5)]:=⟨h0,h1,h2,h3,h4,h5,trivial⟩
theorem OF{g0:Nat}{k0:eB}{g1:Nat}{k1:eB}{g2:Nat}{k2:eB}{g3:Nat}{k3:eB}{g4:Nat}{k4:eB}{g5:Nat}{k5:eB}{g6:Nat}{k6:eB}(h0:xB prog g0 k0)(h1:xB prog g1 k1)(h2:xB prog g2 k2)(h3:xB prog g3 k3)(h4:xB prog g4 k4)(h5:xB prog g5 k5)(h6:xB prog g6 k6):Ph [(g0,k0),(g1,k1),(g2,k2),(g3,k3),(g4,k4),(g5,k5),(g6,k6)]:=⟨h0,h1,h2,h3,h4,h5,h6,trivial⟩
theorem pL{g0:Nat}{k0:eB}{g1:Nat}{k1:eB}{g2:Nat}{k2:eB}{g3:Nat}{k3:eB}{g4:Nat}{k4:eB}{g5:Nat}{k5:eB}{g6:Nat}{k6:eB}{g7:Nat}{k7:eB}(h0:xB prog g0 k0)(h1:xB prog g1 k1)(h2:xB prog g2 k2)(h3:xB prog g3 k3)(h4:xB prog g4 k4)(h5:xB prog g5 k5)(h6:xB prog g6 k6)(h7:xB prog g7 k7):Ph [(g0,k0),(g1,k1),(g2,k2),(g3,k3),(g4,k4),(g5,k5),(g6,k6),(g7,k7)]:=⟨h0,h1,h2,h3,h4,h5,h6,h7,trivial⟩
theorem KE{g0:Nat}{k0:eB}{g1:Nat}{k1:eB}{g2:Nat}{k2:eB}{g3:Nat}{k3:eB}{g4:Nat}{k4:eB}{g5:Nat}{k5:eB}{g6:Nat}{k6:eB}{g7:Nat}{k7:eB}{l:List (Nat×eB)}(h0:xB prog g0 k0)(h1:xB prog g1 k1)(h2:xB prog g2 k2)(h3:xB prog g3 k3)(h4:xB prog g4 k4)(h5:xB prog g5 k5)(h6:xB prog g6 k6)(h7:xB prog g7 k7)(h:Ph l):Ph ((g0,k0) :: (g1,k1) :: (g2,k2) :: (g3,k3) :: (g4,k4) :: (g5,k5) :: (g6,k6) :: (g7,k7) :: l):=⟨h0,h1,h2,h3,h4,h5,h6,h7,h⟩
theorem c5:CT 5 (cA [lA] [yA] (λx=>some (cT x))):=eD 6 pn func5 a0 Rv (by kernel_rfl) zcp.ok
theorem c28:CT 28 (kB (XD 1) [lA] [QA] Gi [(false,1)] [] true):=eQ 32 pn func28 (jm [jk 0 [pA 3 gA] [(4,4),(8,27)]] [jk 3 [pA 3 gA,pA 4 gA] [(8,27)]] [jq 3 15 8 14]) (by kernel_rfl)
theorem c82:CT 82 (kB [.ptr []] [QA] [gA,QA] Cl [(false,1)] [] false):=eR 58 pn func82 (jc [jk 2228229 [pA 3 gA,fA 0 .Cur []] [(35,56)]]) (by kernel_rfl)
theorem vC:CT 30 (kB [.ptr [], .plain] [QA,gA] [gA,QA] (u2 Ar) [(false,1)] [] false):=eR 31 (OA c82) func30 a0 (by kernel_rfl)
theorem NG:CT 60 (kB [.ptr [], .plain] [QA,gA] [yA,QA] (u2 Bb) [(false,1)] [] false):=eR 9 (OA vC) func60 a0 (by kernel_rfl)
theorem VD:CT 122 (kB [.ptr [], .plain] [QA,gA] [lA,QA] (u2 Ay) [(false,1)] [0] false):=eR 20 (OA c82) func122 (jl [jk 0 [rA 5 .byte,fA 0 .Cur []] [(6,6),(8,18)]] [jk 3 [rA 5 .byte,pA 6 gA,fA 0 .Cur []] [(8,18)]]) (by kernel_rfl)
theorem zdG:CT 132 (cA [XH] [XH] (λx=>OJ x)):=eC 10 pn func132 a0 Pk (by kernel_rfl) WT.ok
theorem zB:CT 96 (cA [gA,gA,gA] [yA] (λx=>some (eA x.1 x.2.1 x.2.2))):=eD 15 pn func96 (jr [jq 1 6 7 14]) (u3 Qd) (by kernel_rfl) zcb.ok
theorem zdL:CT 136 (cA [XH] [yA] (λx=>some (BC x))):=eD 12 (OA zB) func136 (jr [jq 1 2 3 11]) Rb (by kernel_rfl) za2.ok
theorem hJ:CT 253 (cA [lA,gA,gA] [lA] (λx=>UB x.1 x.2.1 x.2.2)):=eC 35 pn func253 (jm [jk 0 [rA 7 .byte] [(8,8),(21,33)]] [jk 5 [rA 7 .byte,pA 8 gA] [(21,33)]] [jq 2 17 12 16]) (u3 Rs) (by kernel_rfl) zbT.ok
theorem zxH:CT 405 (cA [gA] [lA] (λx=>FM x)):=eC 27 (OA hJ) func405 (jm [jk 0 [rA 3 .byte] [(12,21)]] [jk 4 [rA 3 .byte] [(12,21)]] [jq 1 9 4 8]) Mx (by kernel_rfl) mS.ok
theorem zwY:CT 406 (cA [] [oE] (λ_=>some (AE))):=eD 2 pn func406 a0 (λ_=>Rt) (by kernel_rfl) zbL.ok
theorem zwK:CT 428 (cA [oE] [yA] (λx=>some (zc9 x))):=eD 19 (OA zB) func428 (jl [jk 0 [] [(2,15)]] [jk 2 [pA 3 gA] [(2,2),(4,15)]]) My (by kernel_rfl) iQ.ok
theorem zya:CT 429 (cA [] [oE] (λ_=>some (hI))):=eD 2 pn func429 a0 (λ_=>Ru) (by kernel_rfl) zcs.ok
theorem zmp:CT 336 (cA [lA,gA,gA] [gA,gA,yA] (λx=>ZG x.1 x.2.1 x.2.2)):=eC 48 pn func336 (jm [jk 0 [pA 9 gA] [(10,10),(29,43)]] [jk 5 [pA 9 gA,pA 10 gA] [(29,43)]] [jq 1 28 11 27]) (u3 Mz) (by kernel_rfl) JR.ok
theorem zmY:CT 431 (cA [gA,gA] [gA] (λx=>kE x.1 x.2)):=eC 24 pn func431 (jr [jq 2 13 8 12]) (u2 Na) (by kernel_rfl) tS.ok
theorem zyr:CT 430 (cA [lA] [oE] (λx=>RL x)):=eC 84 (uB zmp zmY) func430 (jl [jk 0 [rA 3 .int] [(4,7),(18,33)],jk 2 [rA 3 .int] [(8,12),(34,82)]] [jk 5 [rA 3 .int,pA 4 gA] [(5,7),(18,33)],jk 10 [rA 3 .int,pA 8 gA] [(9,12),(34,82)]]) Nb (by kernel_rfl) tP.ok
theorem zx7:CT 407 (cA [oE,lA] [oE] (λx=>HK x.1 x.2)):=eC 156 (cC zwK zya zyr zmY) func407 (jm [jk 0 [pA 8 gA,pA 9 gA,pA 10 gA,pA 11 gA,pA 12 gA,pA 13 gA,pA 14 gA,pA 15 gA] [(16,18),(60,128)],jk 2 [rA 5 .int] [(20,20),(138,154)]] [jk 8 [pA 8 gA,pA 9 gA,pA 10 gA,pA 11 gA,pA 12 gA,pA 13 gA,pA 14 gA,pA 15 gA,pA 16 gA] [(17,18),(60,128)],jk 22 [pA 20 gA,rA 5 .int] [(138,154)]] [jq 2 31 24 30]) (u2 Nc) (by kernel_rfl) yP.ok
theorem zyu:CT 408 (cA [oE] [lA] (λx=>BK x)):=eC 17 (OA hJ) func408 (jl [jk 0 [rA 3 .byte] [(4,4),(6,15)]] [jk 3 [rA 3 .byte,pA 4 gA] [(6,15)]]) Nd (by kernel_rfl) yR.ok
theorem zmR:CT 349 (cA [lA] [lA] (λx=>some (FE x))):=eD 33 (cC zxH zwY zx7 zyu) func349 (jl [(0,⟨[rA 4 .int],[(5,5),(18,30)],[3]⟩)] [jk 6 [rA 4 .int,pA 5 gA] [(18,30)]]) Nf (by kernel_rfl) rS.ok
theorem zy2:CT 348 (cA [lA] [lA] (λx=>some (dE x))):=eD 23 (OA zmR) func348 ⟨[jk 851974 [rA 3 .byte] [(14,15)]],[jk 0 [rA 3 .byte] [(16,21)]],[jk 6 [rA 3 .byte] [(16,21)]],[],[]⟩ Ng (by kernel_rfl) BP.ok
theorem YS:CT 260 (cA [lA,lA] [lA] (λx=>some (VC x.1 x.2))):=eD 49 (uB zy2 zmR) func260 (jm [jk 0 [rA 6 .byte,rA 7 .byte] [(8,8),(22,41)]] [jk 7 [rA 6 .byte,rA 7 .byte,pA 8 gA] [(22,41)]] [jq 1 16 9 15]) (u2 Nh) (by kernel_rfl) dS.ok
theorem zmP:CT 249 (cA [lA,gA] [lA] (λx=>some (xD x.1 x.2))):=eD 24 (DB zB hJ YS) func249 (jr [jq 1 13 5 12]) (u2 Ni) (by kernel_rfl) XQ.ok
theorem zdJ:CT 155 (cA [XH] [XH,lA] (λx=>zE x)):=eC 27 (DB zdG zdL zmP) func155 (jr [jq 2 14 7 13]) Pl (by kernel_rfl) CU.ok
theorem zzj:CT 350 (cA [lA,lA,gA] [lA,yA] (λx=>some (VG x.1 x.2.1 x.2.2))):=eD 52 (uB zB YS) func350 (jm [jk 0 [rA 8 .byte,rA 9 .byte] [(10,10),(27,46)]] [jk 6 [rA 8 .byte,rA 9 .byte,pA 10 gA] [(27,46)]] [jq 1 23 11 22]) (u3 Nk) (by kernel_rfl) gR.ok
theorem GM:CT 262 (cA [lA, .v .str] [lA] (λx=>GE x.1 x.2)):=eC 15 (OA zzj) func262 a0 (u2 Pm) (by kernel_rfl) mU.ok
theorem zgB:CT 264 (cA [lA] [oM] (λx=>some (XG x))):=eD 10 (OA GM) func264 a0 Pn (by kernel_rfl) uU.ok
theorem zgp:CT 265 (cA [gA] [QD] (λx=>some (FF x))):=eD 9 (OA zB) func265 a0 Po (by kernel_rfl) hU.ok
theorem zgI:CT 220 (cA [oM] [yA] (λx=>some (dF x))):=eD 7 pn func220 a0 Rc (by kernel_rfl) zbv.ok
theorem znk:CT 318 (cA [QD] [gA] (λx=>bJ x)):=eC 22 pn func318 ⟨[jk 1179655 [pA 3 gA] [(19,20)]],[jk 0 [pA 3 gA] [(4,20)]],[jk 3 [pA 3 gA,pA 4 gA] [(5,20)]],[],[]⟩ Rd (by kernel_rfl) zbS.ok
theorem zmI:CT 319 (cA [fE] [yA] (λx=>some (MF x))):=eD 30 pn func319 (jr [jq 1 2 3 29]) Kw (by kernel_rfl) lQ.ok
theorem zmt:CT 225 (cA [ZB] [yA] (λx=>some (rC x))):=eD 38 (OA zmI) func225 (jr [jq 1 2 3 37]) Lr (by kernel_rfl) jP.ok
theorem qJ:CT 97 (cA [gA] [OB] (λx=>some (KB x))):=eD 12 (OA zB) func97 a0 Qq (by kernel_rfl) zbZ.ok
theorem zmg:CT 422 (cA [ME,gA] [yA] (λx=>NF x.1 x.2)):=eC 19 pn func422 a0 (u2 Qi) (by kernel_rfl) zbJ.ok
theorem zmv:CT 388 (cA [ME] [yA] (λx=>some (bD x))):=eD 46 (uB zB zmg) func388 (jm [jk 0 [] [(2,3),(15,25)],jk 2 [] [(2,2),(4,4),(39,45)]] [jk 4 [pA 3 gA] [(2,2),(15,25)],jk 11 [pA 4 gA] [(2,2),(39,45)]] [jq 1 14 5 13,jq 8 35 26 34]) Kv (by kernel_rfl) AR.ok
theorem zgG:CT 320 (cA [fE] [yA] (λx=>some (cD x))):=eD 22 (uB zB zmv) func320 (jr [jq 1 2 3 21]) Qj (by kernel_rfl) zbQ.ok
theorem iI:CT 226 (cA [ZB] [yA] (λx=>sC x)):=eC 74 (DB zB zmI zgG) func226 (jn [jk 1376261 [] [(2,3),(22,54)],jk 1572871 [pA 3 gA] []] [jq 1 19 4 18,jq 7 45 25 44,jq 9 54 46 53,jq 13 2 59 73]) Kx (by kernel_rfl) FQ.ok
theorem qL:CT 98 (cA [lA,lA] [yA] (λx=>BB x.1 x.2)):=eC 10 pn func98 a0 (u2 Qg) (by kernel_rfl) zbc.ok
theorem OG:CT 44 (cA [OB] [yA] (λx=>some (MA x))):=eD 11 (OA zB) func44 (jr [jq 1 2 3 10]) Qo (by kernel_rfl) zaS.ok
theorem c99:CT 99 (cA [KD] [yA] (λx=>some (qC x))):=eD 65 (uB OG zB) func99 (jm [jk 0 [] [(2,5),(16,64)],jk 2 [] [(2,2),(5,5),(51,64)]] [jk 4 [pA 3 gA] [(2,2),(4,5),(16,64)],jk 10 [pA 5 gA] [(2,2),(51,64)]] [jq 1 15 6 14,jq 7 50 28 49]) Ls (by kernel_rfl) oQ.ok
theorem CO:CT 306 (cA [NC] [yA] (λx=>FD x)):=eC 77 (EE zB qJ qL c99 zmt iI) func306 (jr [jq 1 30 3 29,jq 4 2 33 54,jq 5 2 55 76]) Lt (by kernel_rfl) JQ.ok
theorem c46:CT 46 (cA [QD,lA] [gA] (λx=>ED x.1 x.2)):=eC 22 (OA qL) func46 (jl [jk 0 [] [(4,21)]] [jk 2 [pA 5 gA] [(4,4),(6,21)]]) (u2 Re) (by kernel_rfl) zba.ok
theorem zgQ:CT 221 (cA [QD] [yA] (λx=>iG x)):=eC 47 (cC c46 zB CO znk) func221 (jm [jk 0 [] [(2,3),(21,46)]] [jk 4 [pA 3 gA] [(2,2),(21,46)]] [jq 1 20 4 19,jq 6 46 28 45]) Lu (by kernel_rfl) uR.ok
theorem zdI:CT 101 (cA [UE] [yA] (λx=>some (gD x))):=eD 61 (uB OG zB) func101 (jm [jk 0 [] [(2,4),(8,60)],jk 2 [] [(2,2),(4,4),(45,60)]] [jk 4 [pA 3 gA] [(2,2),(4,4),(8,60)],jk 9 [pA 4 gA] [(2,2),(45,60)]] [jq 6 44 14 43]) Lv (by kernel_rfl) lP.ok
theorem SS:CT 222 (cA [lA] [yA] (λx=>some (CC x))):=eD 6 (OA zB) func222 a0 Rf (by kernel_rfl) zbD.ok
theorem IM:CT 135 (cA [fD] [yA] (λx=>GC x)):=eC 67 (EE zB zdI zdL zgI zgQ SS) func135 (jm [jk 0 [] [(2,3),(34,47)],jk 2 [] [(2,2),(4,4),(48,66)]] [jk 4 [pA 3 gA] [(2,2),(34,47)],jk 9 [pA 4 gA] [(2,2),(48,66)]] [jq 1 33 5 32]) Rg (by kernel_rfl) zav.ok
theorem zmy:CT 246 (cA [WJ,lA,gA] [fD] (λx=>oR x.1 x.2.1 x.2.2)):=eC 45 (cC IM zdJ zgB zgp) func246 (jl [jk 0 [fA 9 .Server [0,1,2,5,6]] [(10,10),(23,39)]] [jk 4 [pA 10 gA,fA 9 .Server [0,1,2,5,6]] [(23,39)]]) (u3 Pp) (by kernel_rfl) sT.ok
theorem zxF:CT 247 (cA [lA] [lA] (λx=>zcD x)):=eC 15 pn func247 (jc [jk 589828 [rA 3 .byte] [(10,11)]]) Pq (by kernel_rfl) aU.ok
theorem zgO:CT 248 (cA [gA,lA,OB] [oC] (λx=>DI x.1 x.2.1 x.2.2)):=eC 27 (DB OG zB SS) func248 (jr [jq 1 19 7 18]) (u3 Pr) (by kernel_rfl) yT.ok
theorem zdP:CT 157 (cA [lA] [YE] (λx=>vE x)):=eC 7 pn func157 a0 Ps (by kernel_rfl) wT.ok
theorem zxh:CT 151 (cA [lA,lA,lA,gA] [RC] (λx=>zb6 x.1 x.2.1 x.2.2.1 x.2.2.2)):=eC 46 (OF qJ IM zdP zmy zxF zgO zmP) func151 a0 (u4 Pt) (by kernel_rfl) HT.ok
theorem c78:CT 78 (kB [.ptr []] [QA] [RC,QA] In [(true,14)] [1,2,3,4,7,8,9,11,12,13] false):=eR 13 (DB vC VD zxh) func78 a0 (by kernel_rfl)
theorem znm:CT 387 (cA [ME] [ME] (λx=>(λ(a0:Ap)=>nA a0) x)):=eC 10 pn func387 a0 Ob (by kernel_rfl) TQ.ok
theorem zdW:CT 316 (cA [fE] [fE] (λx=>(λ(a0:Aw)=>nA a0) x)):=eC 15 (OA znm) func316 a0 Oc (by kernel_rfl) SQ.ok
theorem zzq:CT 317 (cA [fE,yA] [fE] (λx=>zc5 x.1 x.2)):=eC 27 (OA zdW) func317 a0 (u2 Od) (by kernel_rfl) tR.ok
theorem kK:CT 219 (cA [ZB] [ZB] (λx=>(λ(a0:Ak)=>nA a0) x)):=eC 26 (uB zdW zzq) func219 a0 Oe (by kernel_rfl) DQ.ok
theorem zdQ:CT 100 (cA [.v .Cand] [.v .Cand] (λx=>qH x)):=eC 12 pn func100 a0 Rm (by kernel_rfl) zaM.ok
theorem zdE:CT 382 (cA [KD] [KD] (λx=>(λ(a0:Aj)=>nA a0) x)):=eC 27 (OA zdQ) func382 (jl [jk 0 [fA 3 .Paths [2]] [(4,4),(8,25)]] [jk 3 [pA 4 gA,fA 3 .Paths [2]] [(8,25)]]) Of (by kernel_rfl) uQ.ok
theorem vO:CT 307 (cA [NC] [NC] (λx=>(λ(a0:Ah)=>nA a0) x)):=eC 24 (uB kK zdE) func307 a0 Og (by kernel_rfl) vQ.ok
theorem zg4:CT 216 (cA [QD] [QD] (λx=>(λ(a0:Ao)=>nA a0) x)):=eC 27 (OA vO) func216 (jl [jk 0 [fA 3 .Tab [1]] [(4,4),(8,25)]] [jk 3 [pA 4 gA,fA 3 .Tab [1]] [(8,25)]]) Oh (by kernel_rfl) YP.ok
theorem RS:CT 131 (cA [fD] [fD] (λx=>(λ(a0:Ac)=>nA a0) x)):=eC 42 (uB zdG zg4) func131 (jl [jk 0 [fA 3 .Server [0,1,2,5,6]] [(4,4),(22,40)]] [jk 3 [pA 4 gA,fA 3 .Server [0,1,2,5,6]] [(22,40)]]) Oi (by kernel_rfl) qQ.ok
theorem c71:CT 71 (cA [aE] [aE] (λx=>(λ(a0:List Am)=>nA a0) x)):=eC 34 pn func71 (jl [jk 0 [rA 3 .Wire] [(4,4),(6,32)]] [jk 3 [rA 3 .Wire,pA 4 gA] [(6,32)]]) Oj (by kernel_rfl) aQ.ok
theorem zww:CT 217 (cA [YE] [YE] (λx=>(λ(a0:Ae)=>nA a0) x)):=eC 24 pn func217 a0 Ol (by kernel_rfl) CQ.ok
theorem zyZ:CT 133 (cA [SC] [SC] (λx=>(λ(a0:List Ae)=>nA a0) x)):=eC 21 (OA zww) func133 (jl [jk 0 [rA 3 .Note] [(4,4),(6,19)]] [jk 3 [rA 3 .Note,pA 4 gA] [(6,19)]]) Om (by kernel_rfl) mR.ok
theorem zdU:CT 218 (cA [vB] [vB] (λx=>(λ(a0:Aa)=>nA a0) x)):=eC 34 pn func218 a0 Oo (by kernel_rfl) ZQ.ok
theorem KM:CT 134 (cA [oC] [oC] (λx=>(λ(a0:Ad)=>nA a0) x)):=eC 24 (uB zdU kK) func134 a0 Oq (by kernel_rfl) gQ.ok
theorem c67:CT 67 (cA [RC] [RC] (λx=>(λ(a0:Ab)=>nA a0) x)):=eC 59 (lD c71 RS zdG zyZ KM) func67 (jl [jk 0 [fA 3 .World [1,2,3,4,7,8,9,11,12,13]] [(4,4),(21,38)],jk 2 [fA 3 .World [1,2,3,4,7,8,9,11,12,13]] [(5,5),(39,57)]] [jk 3 [pA 4 gA,fA 3 .World [1,2,3,4,7,8,9,11,12,13]] [(21,38)],jk 7 [pA 5 gA,fA 3 .World [1,2,3,4,7,8,9,11,12,13]] [(39,57)]]) Or (by kernel_rfl) nQ.ok
theorem GD:CT 62 (kB [.ptr [], .plain] [QA,oE] [gA,QA] (u2 As) [(false,1)] [] false):=eR 12 (OA vC) func62 a0 (by kernel_rfl)
theorem zxq:CT 250 (kB [.ptr []] [QA] [.v .Op,QA] Jy [(true,4)] [3] false):=eR 25 (DB vC GD VD) func250 (jc [jk 655364 [fA 0 .Cur [],fA 3 .Op [3]] [(11,16)]]) (by kernel_rfl)
theorem zmA:CT 251 (cA [gA] [gA] Df):=eR 9 pn func251 a0 (by kernel_rfl)
theorem zze:CT 152 (kB [.ptr [], .plain] [QA,gA] [.sl .Op,QA] (u2 Io) [(false,1)] [0] false):=eR 53 (DB vC zxq zmA) func152 (jm [jk 0 [rA 5 .Op,pA 6 gA,fA 0 .Cur []] [(7,9),(15,43)],jk 2 [fA 0 .Cur [],fA 8 .Op [3]] [(9,9),(21,33)],jk 4 [rA 5 .Op] [(6,6),(44,51)]] [jk 4 [rA 5 .Op,pA 6 gA,pA 7 gA,fA 0 .Cur []] [(8,9),(15,43)],jk 8 [pA 9 gA,fA 0 .Cur [],fA 8 .Op [3]] [(21,33)],jk 13 [rA 5 .Op,pA 6 gA] [(44,51)]] [jq 8 29 21 28]) (by kernel_rfl)
theorem zyD:CT 153 (kB [.ptr []] [QA] [gA,lA,QA] Ip [(false,1),(false,1)] [1] false):=eR 25 (DB vC GD VD) func153 a0 (by kernel_rfl)
theorem zdT:CT 346 (cA [gA,lA,gA,gA] [lA] (u4 Cb)):=eR 37 (uB zB hJ) func346 (jr [jq 1 26 9 25]) (by kernel_rfl)
theorem xO:CT 321 (cA [gA] [yA] (λx=>some (gC x))):=eD 5 (OA zB) func321 a0 Rj (by kernel_rfl) zbi.ok
theorem zgJ:CT 322 (cA [gA,gA] [yA] (λx=>some (VF x.1 x.2))):=eD 19 pn func322 (jr [jq 3 14 9 13]) (u2 Pe) (by kernel_rfl) eU.ok
theorem zxM:CT 409 (cA [lA,lA,gA] [lA] (u3 Gj)):=eR 23 (DB zB hJ YS) func409 (jr [jq 1 14 7 13]) (by kernel_rfl)
theorem zwS:CT 351 (cA [lA,lA,gA] [lA] (u3 Ey)):=eR 41 (uB zB zxM) func351 (jm [jk 0 [rA 7 .byte] [(8,8),(24,35)]] [jk 5 [rA 7 .byte,pA 8 gA] [(24,35)]] [jq 1 21 9 20]) (by kernel_rfl)
theorem zgY:CT 263 (cA [lA,lA,lA] [lA] (u3 Dv)):=eR 49 (OA zwS) func263 (jm [jk 0 [rA 7 .byte] [(9,9),(30,47)]] [jk 6 [rA 7 .byte,pA 9 gA] [(30,47)]] [jq 2 23 11 22]) (by kernel_rfl)
theorem kL:CT 227 (cA [vB] [yA] (λx=>some (wB x))):=eD 174 (DB zB xO zgJ) func227 (jr [jq 2 2 6 61,jq 3 87 62 86,jq 7 2 92 117,jq 9 2 120 145,jq 11 2 148 173]) Ly (by kernel_rfl) yQ.ok
theorem DO:CT 254 (cA [gA,vB] [lA] (u2 Bu)):=eR 40 (cC zB kL xO zdT) func254 (jr [jq 1 19 6 18]) (by kernel_rfl)
theorem zab:CT 261 (cA [lA,lA] [lA] (u2 Cm)):=eR 17 (OA YS) func261 a0 (by kernel_rfl)
theorem zgP:CT 252 (cA [lA,gA,lA,gA,gA,gA,lA] [vB,yA] (u7 Dw)):=eR 72 (EE DO zab zgY xO zgJ zdT) func252 (jm [jk 0 [fA 17 .Frame [2,3,5,6,9,10]] [(18,18),(56,64)]] [jk 6 [pA 18 gA,fA 17 .Frame [2,3,5,6,9,10]] [(56,64)]] [jq 2 43 24 42]) (by kernel_rfl)
theorem zxT:CT 154 (cA [lA,gA,gA,lA,gA,gA,gA,lA] [.sl .Op] (u8 Iq)):=eR 65 (cC zB zgP hJ DO) func154 (jr [jq 2 37 31 36]) (by kernel_rfl)
theorem c79:CT 79 (kB [.ptr [], .plain, .ptr [], .plain] [QA,RC, .cells .int,yA] [.v .Event,QA, .cells .int] (u4 Ir) [(true,6)] [4] false):=eR 239 (OF vC NG GD VD zze zyD zxT) func79 (jn [jk 5111823 [fA 0 .Cur [],fA 9 .Event [4,5]] [(79,86)],jq 6225941 95 97 97,jk 6225942 [fA 9 .Event [4],fA 0 .Cur []] [(10,15),(98,204)],jk 6881305 [fA 0 .Cur [],fA 9 .Event [4]] [(10,14),(106,155)],jk 8060956 [pA 11 lA] [(124,129)],(10027040,⟨[fA 9 .Event [4]],[(154,155)],[14]⟩),jk 10223650 [fA 9 .Event [4,5],fA 0 .Cur []] [(15,15),(158,204)],jk 10420260 [fA 9 .Event [4,5],fA 0 .Cur []] [(15,15),(161,204)],jk 10616870 [fA 9 .Event [4,5],fA 0 .Cur []] [(15,15),(164,204)],jk 11010089 [fA 9 .Event [4,5],fA 0 .Cur []] [(15,15),(170,204)],jk 11206699 [fA 9 .Event [4,5],fA 0 .Cur []] [(15,15),(173,204)],jk 11599918 [fA 0 .Cur [],fA 9 .Event [4,5]] [(15,15),(179,204)],jk 11796527 [fA 9 .Event [4,5],fA 0 .Cur []] [(181,184)],jk 12124210 [fA 9 .Event [4,5],fA 0 .Cur []] [(15,15),(187,204)],jq 13434934 205 207 208,jq 13434935 205 208 208,jk 13434936 [fA 9 .Event [4],fA 0 .Cur [],fA 8 .Event [4,5]] [(10,15),(64,204),(209,237)],jq 14090299 215 217 217,jk 14090300 [fA 9 .Event [4],fA 0 .Cur [],fA 8 .Event [4,5]] [(10,15),(64,204),(218,237)],jq 14876736 227 229 229,jk 14876737 [fA 9 .Event [4],fA 0 .Cur [],fA 8 .Event [4,5]] [(10,15),(64,204),(230,237)],jk 15138883 [fA 9 .Event [4],fA 0 .Cur [],fA 8 .Event [4,5]] [(10,15),(64,204),(233,237)],jq 15335493 234 236 236,jk 15335494 [fA 9 .Event [4],fA 0 .Cur [],fA 8 .Event [4,5]] [(10,15),(64,204),(237,237)]] [jk 2 [pA 34 yA,fA 0 .Cur []] [(23,33)],jk 7 [pA 59 yA,fA 0 .Cur []] [(47,58)],jk 13 [pA 78 yA,fA 0 .Cur []] [(71,77)],jk 26 [pA 123 yA,fA 0 .Cur []] [(117,122)]]) (by kernel_rfl)
theorem c80:CT 80 (cA [.v .Event] [yA] (λx=>some (nM x))):=eD 33 (OA zB) func80 (jr [jq 1 2 3 32]) Qe (by kernel_rfl) zaH.ok
theorem zl6:CT 223 (cA [UH] [yA] (λx=>some (qD x))):=eD 37 (OA zB) func223 (jr [jq 3 2 9 36]) Lw (by kernel_rfl) SP.ok
theorem zxG:CT 224 (cA [vB] [yA] (λx=>some (zF x))):=eD 62 pn func224 (jr [jq 1 2 3 61]) Lx (by kernel_rfl) PO.ok
theorem HM:CT 138 (cA [oC] [yA] (λx=>ID x)):=eC 204 (KE OG zB qL SS zl6 zxG zmt iI (OA kL)) func138 (jr [jq 1 36 3 35,jq 4 2 40 70,jq 8 2 78 108,jq 9 122 109 121,jq 12 2 126 133,jq 13 2 134 203]) Lz (by kernel_rfl) IP.ok
theorem WS:CT 236 (cA [gA] [UH] Bf):=eR 10 (OA zB) func236 a0 (by kernel_rfl)
theorem zm2:CT 234 (cA [oC] [vB] Ez):=eR 10 pn func234 a0 (by kernel_rfl)
theorem znl:CT 156 (cA [oC,gA,lA] [oC,oH,SC,gA] (u3 Fa)):=eR 57 (lD zB KM HM zm2 WS) func156 (jr [jq 2 26 14 25]) (by kernel_rfl)
theorem c45:CT 45 (cA [] [OB] (λ_=>some (tE))):=eD 2 (OA qJ) func45 a0 (λ_=>Qr) (by kernel_rfl) zcn.ok
theorem zgR:CT 313 (cA [vB] [lA] Bj):=eR 91 (uB kL hJ) func313 ⟨[jk 2097161 [rA 3 .byte] [(4,4),(15,31),(34,89)],jk 3276815 [rA 3 .byte] [(15,31),(52,89)],jk 4325394 [rA 3 .byte] [(15,31),(68,89)]],[jk 1 [rA 3 .byte] [(4,4),(43,49)]],[jk 10 [rA 3 .byte,pA 4 gA] [(43,49)]],[],[]⟩ (by kernel_rfl)
theorem zgA:CT 210 (cA [OB,OB,vB] [QN] (u3 Dx)):=eR 12 (OA zgR) func210 a0 (by kernel_rfl)
theorem zgW:CT 143 (cA [oC,oH] [aE] (u2 Dy)):=eR 26 (uB c45 zgA) func143 (jl [jk 0 [rA 5 .Wire] [(6,6),(8,24)]] [jk 3 [rA 5 .Wire,pA 6 gA] [(8,24)]]) (by kernel_rfl)
theorem c73:CT 73 (kB [.ptr [1,11,12,13], .plain, .plain] [dG,aE,SC] [dG] (u3 Bm) [] [1,11,12,13] false):=eR 41 pn func73 ⟨[jk 1179653 [fA 0 .World [1,11,12,13]] [(19,31)]],[jk 0 [fA 0 .World [1,11,12,13]] [(6,31)]],[jk 1 [pA 6 gA,fA 0 .World [1,11,12,13]] [(7,31)]],[],[]⟩ (by kernel_rfl)
theorem zxz:CT 158 (kB [.ptr [1,11,12,13], .plain, .plain, .plain, .plain] [dG,gA,oC,oH,SC] [dG] (u5 Fb) [] [1,11,12,13] false):=eR 23 (uB c73 zgW) func158 a0 (by kernel_rfl)
theorem zw0:CT 347 (cA [fE,gA,lA,gA,lA] [fE,vB,gA] (u5 Gk)):=eR 78 (EE zgP zdW zgG xO zgJ zdT) func347 (jr [jq 2 41 18 40,jq 4 50 44 49]) (by kernel_rfl)
theorem VS:CT 255 (cE [ZB,gA,lA] [ZB,vB,gA] (u3 Cc) [1,8,11,14,17,18,20,21,24,25]):=eR 40 (DB kK iI zw0) func255 (jc [(2228231,⟨[fA 9 .Chan [1,8,11,14]],[(35,36)],[1000010]⟩)]) (by kernel_rfl)
theorem zgt:CT 326 (cA [lA,lA] [YE] (u2 Dz)):=eR 12 pn func326 a0 (by kernel_rfl)
theorem AO:CT 238 (cA [ZB,vB] [YE] (u2 Bo)):=eR 13 (uB DO zgt) func238 a0 (by kernel_rfl)
theorem zyU:CT 159 (cE [oC,gA,lA] [oC,oH,SC,gA] (u3 Gm) [1,5,8,9,11,12,15,16,18,25,28,31,41,42]):=eR 75 (lD zB KM HM AO VS) func159 ⟨[],[],[],[jq 2 29 17 28],[(11,[1000012])]⟩ (by kernel_rfl)
theorem zzr:CT 256 (cE [NC,lA] [NC,gG,SC,gA] (u2 Gn) [1,2,4,11,14,17,20,24,25]):=eR 71 (cC AO VS CO vO) func256 ⟨[],[],[],[jq 2 22 15 21],[(11,[1000010])]⟩ (by kernel_rfl)
theorem zwX:CT 160 (cA [fD,gA,gA,lA] [fD,gG,SC,gA] (u4 Gp)):=eR 66 (cC zB RS IM zzr) func160 (jn [(3604489,⟨[fA 12 .Server [0,1,2,5,6]],[(56,61)],[1000013]⟩)] [jq 2 26 19 25]) (by kernel_rfl)
theorem zl3:CT 161 (cA [gG] [aE] Fc):=eR 28 (uB c45 zgA) func161 (jl [jk 0 [rA 3 .Wire] [(4,4),(6,26)]] [jk 3 [rA 3 .Wire,pA 4 gA] [(6,26)]]) (by kernel_rfl)
theorem zxt:CT 341 (cA [UH,gA] [yA] (u2 Co)):=eR 21 (uB zB zl6) func341 (jr [jq 1 4 5 20]) (by kernel_rfl)
theorem zgz:CT 232 (cA [UH,gA] [UH,gA] (u2 Cp)):=eR 29 (OA zxt) func232 (jc [jk 1310728 [pA 6 gA] []]) (by kernel_rfl)
theorem znb:CT 233 (cA [oC] [oC] Dg):=eR 10 (OA zgO) func233 a0 (by kernel_rfl)
theorem zmN:CT 235 (cA [ZB,gA] [ZB] (u2 Bv)):=eR 34 (DB zB kK iI) func235 (jn [jk 1835012 [fA 5 .Chan [1,3,6,8,11,14]] [(29,32)]] [jq 2 28 8 27]) (by kernel_rfl)
theorem zdS:CT 297 (cA [gA] [lA] Bk):=eR 10 (uB zB hJ) func297 a0 (by kernel_rfl)
theorem zm7:CT 237 (cE [ZB] [ZB,vB,gA] Fd [1,8,11,14,17,18,20,21,24,25]):=eR 27 (cC kK iI VS zdS) func237 (jr [jq 1 13 5 12]) (by kernel_rfl)
theorem zxy:CT 142 (cE [oC,gA] [oC,oH,SC] (u2 Gq) [1,5,8,9,11,12,15,16,41,42]):=eR 159 (KE zB KM HM zdU zgz znb zm2 zmN (DB WS zm7 AO)) func142 (jn [jk 4587533 [rA 8 .Frame] [(71,75)],jk 5373967 [rA 8 .Frame] [(83,88)],jk 8585241 [fA 7 .Client [1,5,8,9,11,12,15,16,18,20,23,25,28,31]] [(132,134)],(9371676,⟨[rA 8 .Frame,rA 9 .Note,fA 7 .Client [1,5,8,9,11,12,15,16]],[(144,155)],[1000015,1000014]⟩)] [jq 4 33 21 32,jq 11 70 64 69,jq 13 82 76 81]) (by kernel_rfl)
theorem aT:CT 206 (cA [NC] [NC] Cd):=eR 21 (uB CO vO) func206 a0 (by kernel_rfl)
theorem zns:CT 403 (cA [KD,gA] [KD] (u2 Bw)):=eR 47 (cC zB c99 zdQ zdE) func403 ⟨[jk 2228233 [fA 5 .Paths [2]] [(35,45)]],[jk 0 [fA 5 .Paths [2]] [(6,6),(20,45)]],[jk 5 [pA 6 gA,fA 5 .Paths [2]] [(20,45)]],[jq 1 14 7 13],[]⟩ (by kernel_rfl)
theorem zwT:CT 342 (cA [NC,gA] [NC] (u2 Gr)):=eR 39 (EE zB aT zmN CO vO zns) func342 (jr [jq 2 19 8 18]) (by kernel_rfl)
theorem zx0:CT 239 (cA [QD,gA] [QD] (u2 Gs)):=eR 52 (cC zB zg4 zgQ zwT) func239 ⟨[(2883594,⟨[fA 5 .Tab [1]],[(45,50)],[1000007]⟩)],[jk 0 [fA 5 .Tab [1]] [(6,7),(21,50)]],[jk 5 [pA 6 gA,fA 5 .Tab [1]] [(7,7),(21,50)]],[jq 1 15 8 14,jq 8 44 35 43],[]⟩ (by kernel_rfl)
theorem zmk:CT 240 (cA [NC] [YE] Fe):=eR 10 pn func240 a0 (by kernel_rfl)
theorem zx8:CT 144 (cE [fD,gA] [fD,SC] (u2 Gt) [7]):=eR 79 (EE c46 zB RS IM zx0 zmk) func144 ⟨[jk 4325388 [rA 7 .Note] [(67,76)]],[(0,⟨[rA 7 .Note],[(8,9),(28,76)],[1000006]⟩)],[jk 7 [rA 7 .Note,pA 8 gA] [(9,9),(28,76)]],[jq 3 20 13 19,jq 10 66 46 65],[]⟩ (by kernel_rfl)
theorem c72:CT 72 (kB [.ptr [1,11,12,13]] [dG] [aE,dG] Ea [(false,1)] [0,2,12,13,14] false):=eR 86 (DB zxy zgW zx8) func72 (jl [jk 0 [rA 3 .Wire,fA 0 .World [1,11,12,13]] [(4,7),(19,59)]] [jk 4 [rA 3 .Wire,pA 4 gA,fA 0 .World [1,11,12,13]] [(5,7),(19,59)]]) (by kernel_rfl)
theorem zyp:CT 162 (cA [oC,OB] [oC] (u2 Gu)):=eR 17 (DB OG KM HM) func162 (jn [jk 851972 [fA 5 .Client [1,5,8,9,11,12,15,16,18,20,23,25,28,31]] [(14,15)]] [jq 2 13 8 12]) (by kernel_rfl)
theorem zxk:CT 257 (cA [ZB] [ZB,yA] Ff):=eR 34 (DB kK iI GM) func257 (jr [jq 2 26 7 25]) (by kernel_rfl)
theorem zxm:CT 163 (cE [oC,gA] [oC,oH,SC,gA] (u2 Gv) [1,5,8,9,11,12,15,16,18,25,28,31,41,42]):=eR 73 (OF zB KM HM WS zm7 AO zxk) func163 ⟨[],[],[],[jq 2 23 16 22,jq 4 36 27 35,jq 8 57 52 56],[(12,[1000012])]⟩ (by kernel_rfl)
theorem zl5:CT 140 (cA [RC,OB] [gA] (λx=>SK x.1 x.2)):=eC 30 (OA c45) func140 (jl [jk 0 [] [(4,5),(9,29)]] [jk 4 [pA 5 gA] [(4,4),(9,29)]]) (u2 Le) (by kernel_rfl) zQ.ok
theorem zgD:CT 102 (cA [UE,OB] [gA] (λx=>some (qB x.1 x.2))):=eD 20 pn func102 (jl [jk 0 [] [(4,19)]] [jk 2 [pA 5 gA] [(4,4),(6,19)]]) (u2 Rn) (by kernel_rfl) zbF.ok
theorem zmd:CT 323 (cA [UE,OB,gA] [UE] (u3 Fg)):=eR 63 (cC OG zB zdI zgD) func323 (jn [jk 3735564 [rA 7 .Credit] [(58,61)]] [jq 2 24 12 23]) (by kernel_rfl)
theorem zm8:CT 230 (cA [lA] [vB,yA] Eb):=eR 140 (uB zgR zmp) func230 (jc [jk 3276815 [fA 2 .Frame [2,3,5,6,9,10],fA 4 .Frame [2,3,5,6,9,10]] [(3,3),(17,49),(52,131)],jk 4325396 [fA 2 .Frame [2,3,5,6,9,10],fA 4 .Frame [2,3,5,6,9,10]] [(3,3),(17,49),(68,131)],jk 6160411 [fA 2 .Frame [2,3,5,6,9,10],fA 4 .Frame [2,3,5,6,9,10]] [(3,3),(17,49),(96,131)]]) (by kernel_rfl)
theorem zmq:CT 389 (cA [QD,OB] [yA] (u2 Dh)):=eR 31 pn func389 (jm [jk 0 [] [(4,30)]] [jk 2 [pA 5 gA] [(4,4),(6,30)]] [jq 4 30 13 29]) (by kernel_rfl)
theorem zm4:CT 390 (cA [UE,OB] [gA] (u2 Bx)):=eR 28 (uB zdI zgD) func390 (jr [jq 2 15 9 14]) (by kernel_rfl)
theorem zyT:CT 324 (cA [fD,OB,gA] [yA] (u3 Fh)):=eR 19 (uB zmq zm4) func324 (jr [jq 1 6 7 18]) (by kernel_rfl)
theorem zyY:CT 391 (cA [lA,OB] [lA] (u2 Gw)):=eR 18 (uB OG hJ) func391 a0 (by kernel_rfl)
theorem zl0:CT 327 (cA [OB,gA,lA,lA,gA] [lA] (u5 Ec)):=eR 50 (cC OG zB hJ zyY) func327 (jr [jq 1 34 12 33]) (by kernel_rfl)
theorem zl4:CT 325 (cA [oM,OB,gA,lA,lA,gA] [lA] (u6 Fi)):=eR 33 (DB zgI zab zl0) func325 (jr [jq 2 27 20 26]) (by kernel_rfl)
theorem zyx:CT 392 (cA [gA,gA] [yA] (u2 Cq)):=eR 17 (OA zB) func392 (jr [jq 1 4 5 16]) (by kernel_rfl)
theorem zxU:CT 423 (cA [lA,lA] [gA] (u2 Bp)):=eR 31 pn func423 (jl [jk 0 [pA 5 gA] [(6,6),(12,29)]] [jk 5 [pA 5 gA,pA 6 gA] [(12,29)]]) (by kernel_rfl)
theorem zgS:CT 393 (cA [lA,lA] [yA] (u2 Bn)):=eR 14 (OA zxU) func393 (jr [jq 1 4 5 13]) (by kernel_rfl)
theorem zxo:CT 328 (cA [oM,gA,OB,vB] [gA] (u4 Gx)):=eR 52 (OF OG zB zgI kL zl4 zyx zgS) func328 (jr [jq 1 31 9 30]) (by kernel_rfl)
theorem zmf:CT 394 (cA [lA,lA] [lA] (u2 By)):=eR 8 (OA YS) func394 a0 (by kernel_rfl)
theorem zg1:CT 331 (cA [lA] [lA] Bh):=eR 12 (DB SS GM zmf) func331 a0 (by kernel_rfl)
theorem zgN:CT 332 (cA [gA,lA,lA,gA,lA] [lA] (u5 Ed)):=eR 48 (uB zB hJ) func332 (jr [jq 1 34 12 33]) (by kernel_rfl)
theorem zmT:CT 383 (cA [lA,gA,lA,lA,gA,lA] [lA] (u6 Fj)):=eR 35 (DB zab zg1 zgN) func383 (jr [jq 3 30 23 29]) (by kernel_rfl)
theorem zwO:CT 329 (cA [lA,vB] [yA] (u2 Gy)):=eR 29 (DB kL zmT zgS) func329 (jr [jq 1 4 5 28]) (by kernel_rfl)
theorem zxE:CT 400 (cA [lA,lA,lA] [lA] (u3 Gz)):=eR 28 (uB SS zmf) func400 (jr [jq 1 19 7 18]) (by kernel_rfl)
theorem zyi:CT 399 (cA [lA] [lA] Cs):=eR 9 (OA GM) func399 a0 (by kernel_rfl)
theorem zxe:CT 401 (cA [lA,gA] [lA] (u2 Ha)):=eR 22 (uB zB GM) func401 (jl [jk 0 [rA 5 .byte] [(6,6),(14,20)]] [jk 5 [rA 5 .byte,pA 6 gA] [(14,20)]]) (by kernel_rfl)
theorem zng:CT 338 (cA [lA,lA,lA,gA] [lA] (u4 Fk)):=eR 22 (DB zyi zxE zxe) func338 a0 (by kernel_rfl)
theorem zmV:CT 421 (cA [] [ME] (λ_=>Fl)):=eR 14 pn func421 (jl [jk 0 [fA 1 .Win [1]] [(2,2),(4,12)]] [jk 3 [pA 2 gA,fA 1 .Win [1]] [(4,12)]]) (by kernel_rfl)
theorem zac:CT 377 (cA [gA,lA] [fE] (u2 Bz)):=eR 20 (uB zB zmV) func377 (jr [jq 1 12 5 11]) (by kernel_rfl)
theorem zgM:CT 337 (cA [gA,lA,lA] [ZB] (u3 Ee)):=eR 28 (uB zB zac) func337 (jr [jq 1 19 7 18]) (by kernel_rfl)
theorem zmX:CT 384 (cA [OB] [KD] Ce):=eR 5 pn func384 a0 (by kernel_rfl)
theorem znt:CT 309 (cA [lA,gA,OB,vB] [NC] (u4 Fm)):=eR 58 (OF OG zB SS kL zgM zng zmX) func309 (jr [jq 1 31 9 30]) (by kernel_rfl)
theorem zgF:CT 303 (cA [QD,NC] [QD,gA] (u2 Bi)):=eR 48 (EE c46 zg4 zgQ CO vO znk) func303 (jr [jq 2 20 9 19,jq 6 38 28 37]) (by kernel_rfl)
theorem zgT:CT 330 (cA [lA,lA,lA] [YE] (u3 Di)):=eR 17 pn func330 a0 (by kernel_rfl)
theorem zmO:CT 395 (cE [ZB] [ZB,vB,gA] Fn [1,8,11,14,17,18,20,21,24,25]):=eR 25 (cC kK iI VS zdS) func395 (jr [jq 1 12 5 11]) (by kernel_rfl)
theorem zwC:CT 333 (cE [NC] [NC,gG,SC] Hb [1,2,4,11,14,17,20,24,25]):=eR 53 (cC AO CO vO zmO) func333 ⟨[],[],[],[jq 2 24 11 23],[(8,[1000007])]⟩ (by kernel_rfl)
theorem zyS:CT 437 (cA [gA] [gA] Hc):=eR 8 pn func437 a0 (by kernel_rfl)
theorem znp:CT 425 (cA [ME,gA] [yA] (u2 Bq)):=eR 30 (cC zB zmv zmg zyS) func425 (jr [jq 1 12 5 11,jq 3 4 13 29]) (by kernel_rfl)
theorem zxB:CT 426 (cA [lA,gA,vB] [lA,yA] (u3 Hd)):=eR 42 (lD DO zab zgY zdT zgS) func426 (jr [(2,⟨[pA 28 yA],[(12,27)],[8]⟩)]) (by kernel_rfl)
theorem zm3:CT 427 (cA [ME,gA] [ME,yA] (u2 Cf)):=eR 73 (uB znm znp) func427 ⟨[jk 4521999 [fA 6 .Win [1]] [(70,71)]],[jk 0 [fA 6 .Win [1]] [(7,9),(21,48)]],[jk 6 [pA 7 gA,pA 8 gA,fA 6 .Win [1]] [(9,9),(21,48)]],[jq 6 27 21 26],[]⟩ (by kernel_rfl)
theorem zy0:CT 402 (cA [fE,gA,vB] [fE,lA,gA] (u3 Ct)):=eR 64 (EE DO zdW zgG znp zxB zm3) func402 (jr [jq 2 30 14 29]) (by kernel_rfl)
theorem znd:CT 339 (cA [ZB,gA,vB] [ZB,lA,gA] (u3 Ef)):=eR 174 (pL zB qL kK iI kL xO zac zy0) func339 (jn [jk 5373966 [fA 9 .Chan [1,3,6,8,11,14]] [(83,85)]] [jq 2 40 22 39,jq 12 82 76 81,jq 15 97 88 96,jq 16 106 98 105,jq 23 139 127 138]) (by kernel_rfl)
theorem zm6:CT 340 (cA [ZB,gA] [lA,yA] (u2 Fo)):=eR 51 (OA iI) func340 (jr [jq 3 18 10 17,jq 7 45 34 44]) (by kernel_rfl)
theorem c47:CT 47 (cA [KD,OB] [.v .Cand,yA] (λx=>pM x.1 x.2)):=eC 33 (uB c99 zdQ) func47 (jl [jk 0 [fA 4 .Cand [2]] [(5,6),(11,31)]] [jk 4 [pA 6 gA,fA 4 .Cand [2]] [(5,5),(11,31)]]) (u2 Md) (by kernel_rfl) HQ.ok
theorem zzc:CT 396 (cA [KD,gA,OB,lA] [KD,yA] (u4 Fp)):=eR 71 (lD c47 zB qL zdQ zdE) func396 ⟨[jk 3801098 [fA 12 .Paths [2]] [(59,69)]],[jk 0 [fA 12 .Paths [2]] [(13,13),(44,69)]],[jk 6 [pA 13 gA,fA 12 .Paths [2]] [(44,69)]],[(2,⟨[pA 39 yA],[(20,38)],[1000010]⟩)],[]⟩ (by kernel_rfl)
theorem zxZ:CT 424 (cA [ZB] [ZB,yA] He):=eR 38 (cC kK iI GM zac) func424 (jr [jq 2 20 7 19]) (by kernel_rfl)
theorem zyb:CT 397 (cA [ZB,gA,lA] [ZB,gA] (u3 Hf)):=eR 57 (EE zB qL kK iI zdS zxZ) func397 (jr [jq 2 33 13 32]) (by kernel_rfl)
theorem znc:CT 385 (cA [KD,gA,OB,lA] [KD,yA] (u4 Eg)):=eR 77 (lD OG zB c99 zdE zns) func385 (jm [jk 0 [fA 8 .Paths [2]] [(9,9),(11,11),(41,57)]] [jk 5 [pA 11 gA,fA 8 .Paths [2]] [(9,9),(41,57)]] [jq 1 35 12 34]) (by kernel_rfl)
theorem zxd:CT 334 (cE [NC,gA,OB,vB,lA] [NC,gG,SC,yA] (u5 Hg) [1,2,24,25]):=eR 241 (KE OG AO DO VS CO vO zgT znd (lD zm6 znc zmO zzc zyb)) func334 (jn [(5898256,⟨[rA 15 .Out,rA 16 .Note,fA 14 .Sess [1,2]],[(22,28),(92,197)],[18]⟩),jk 7077906 [rA 15 .Out,rA 16 .Note,fA 14 .Sess [1,2]] [(22,28),(110,197)],(7798804,⟨[rA 16 .Note,fA 14 .Sess [1,2,4,6,9,11,14,17]],[(120,134)],[1000022]⟩),jk 8847383 [rA 15 .Out,rA 16 .Note,fA 14 .Sess [1,2,20]] [(24,28),(137,197)],(9633817,⟨[rA 15 .Out,rA 16 .Note,fA 14 .Sess [1,2,20]],[(26,28),(148,197)],[1000024]⟩),jk 10158106 [rA 16 .Note] [(156,171)],(11862046,⟨[rA 15 .Out,rA 16 .Note,fA 14 .Sess [1,2,20]],[(182,197)],[1000027,1000026]⟩)] [jq 4 49 38 48,jq 34 220 215 219]) (by kernel_rfl)
theorem zwM:CT 398 (cA [vB] [gA] Eh):=eR 6 (OA zgR) func398 a0 (by kernel_rfl)
theorem zmQ:CT 380 (cA [UE,OB,gA] [UE,yA] (u3 Dj)):=eR 44 (cC zB zdI zgD zm4) func380 (jr [jq 3 30 16 29]) (by kernel_rfl)
theorem zwG:CT 335 (kB [.ptr [], .plain] [.cells .Server,gG] [gG, .cells .Server] (u2 Hh) [(false,1)] [0] false):=eR 60 (DB zmQ zmq zwM) func335 ⟨[jk 1703943 [fA 0 .Server []] [(7,8),(27,51)]],[jk 0 [rA 5 .Out,fA 0 .Server []] [(6,8),(10,58)],jk 1 [rA 5 .Out,fA 0 .Server []] [(7,8),(16,58)]],[jk 3 [rA 5 .Out,pA 6 gA,fA 0 .Server []] [(7,8),(10,58)]],[],[]⟩ (by kernel_rfl)
theorem zzl:CT 229 (cE [fD,gA,OB,lA] [fD,gG,SC] (u4 Hi) [7,8]):=eR 410 (KE OG c46 zB qL RS IM zdJ zdP (KE zm8 zgF znt xO zmd zyT zl4 zgt (KE zl0 zxo zwO zgT zg1 zgN zwC zxd (OA zwG)))) func229 (jn [(4653068,⟨[rA 12 .Out,rA 13 .Note,fA 11 .Server [],fA 8 .Server [0,1,2,5,6]],[(9,10),(16,33),(75,404)],[1000014]⟩),jk 9437204 [rA 12 .Out,rA 13 .Note,fA 8 .Server [0,1,2,5,6],fA 11 .Server [0,1,5,6]] [(9,10),(19,33),(148,404)],jk 12058648 [rA 13 .Note,pA 19 gA,fA 8 .Server [0,1,2,5,6],fA 11 .Server [0,1,2,5,6]] [(9,10),(20,22),(185,279)],jk 19791907 [rA 12 .Out,rA 13 .Note,fA 11 .Server [0,1,2,5,6]] [(24,26),(303,320)],jk 21037096 [rA 12 .Out,rA 13 .Note,fA 8 .Server [0,1,2,5,6],fA 11 .Server [0,1,5,6]] [(9,10),(27,33),(325,404)],jk 23134253 [rA 29 .byte] [(354,354)],(24903730,⟨[rA 13 .Note,fA 11 .Server [0,1,5,6]],[(381,387)],[1000028]⟩),jk 25624630 [rA 13 .Note] [(392,404)]] [jq 4 50 38 49,(11,⟨[pA 92 yA],[(75,91)],[1000011]⟩),jq 19 174 148 173,jq 33 302 286 301,jq 40 340 330 339]) (by kernel_rfl)
theorem zna:CT 308 (cA [lA,gA,vB] [vB,yA] (u3 Fq)):=eR 42 (DB zdU kL zmT) func308 (jr [jq 1 17 10 16]) (by kernel_rfl)
theorem zlY:CT 231 (cE [oC,gA,vB] [oC,oH,SC] (u3 Ei) [1,5,8,9,11,12,15,16,41,42]):=eR 283 (KE zB qL KM HM zdU kL WS AO (KE DO VS zna xO zgt zgT zg1 zgN (cC zgM zng znd zm6))) func231 (jn [(11272218,⟨[rA 11 .Note,fA 9 .Client [1,5,8,9,11,12,15,16]],[(173,197)],[1000014]⟩),jk 13434911 [rA 11 .Note,fA 9 .Client [1,5,8,9,11,12,15,16]] [(206,223)],jk 14811170 [rA 11 .Note] [(227,242)],(16056356,⟨[rA 10 .Frame,rA 11 .Note,fA 9 .Client [1,5,8,9,11,12,15,16]],[(19,21),(246,279)],[15]⟩),(16646182,⟨[rA 10 .Frame,rA 11 .Note,fA 9 .Client [1,5,8,9,11,12,15,16]],[(255,279)],[1000020,1000019]⟩)] [jq 4 38 26 37,jq 6 56 42 55,jq 15 131 123 130]) (by kernel_rfl)
theorem zmS:CT 141 (kB [.ptr [1,11,12,13], .plain, .plain, .plain] [dG,gA,OB,lA] [aE,dG] (u4 Ej) [(false,1)] [0,2,12,13,14] false):=eR 95 (lD zgW zl3 zzl zm8 zlY) func141 a0 (by kernel_rfl)
theorem zxv:CT 164 (kB [.ptr [1,11,12,13], .plain, .plain, .plain] [dG,gA,OB,lA] [dG] (u4 Ek) [] [1,11,12,13] false):=eR 18 (uB c73 zmS) func164 a0 (by kernel_rfl)
theorem zxb:CT 258 (cA [.v .Op] [yA] Dk):=eR 22 (OA zB) func258 (jr [jq 1 2 3 21]) (by kernel_rfl)
theorem zyl:CT 259 (cA [lA,gA,gA] [lA,yA] (λx=>mJ x.1 x.2.1 x.2.2)):=eC 37 pn func259 (jr [jq 1 27 8 26]) (u3 Ot) (by kernel_rfl) lS.ok
theorem zy7:CT 165 (cA [.sl .Op,aE,WJ] [lA,yA] (u3 Fr)):=eR 235 (OF zmA zxb zyl YS zab GM zgY) func165 ⟨[jk 3407887 [rA 12 .byte] [(6,7),(13,15),(54,211)],jk 3801105 [rA 12 .byte] [(6,7),(13,15),(60,211)],jk 4849685 [rA 12 .byte] [(6,7),(13,15),(76,211)],jk 5832729 [rA 12 .byte] [(6,7),(13,15),(91,211)],jk 7012382 [rA 12 .byte] [(6,7),(15,15),(109,211)],jk 7929888 [rA 12 .byte] [(6,7),(15,15),(123,211)],jk 10747943 [rA 12 .byte] [(166,211)],jk 11534377 [rA 12 .byte] [(178,211)],jk 12320811 [rA 12 .byte] [(190,211)],jk 12779565 [rA 12 .byte] [(197,211)]],[jk 0 [rA 8 .bs] [(6,7),(9,15),(21,225)],jk 3 [rA 12 .byte] [(15,15),(136,163)]],[jk 5 [rA 8 .bs,pA 9 gA] [(6,7),(10,15),(21,225)],jk 34 [rA 12 .byte,pA 15 gA] [(136,163)]],[jq 8 41 31 40,jq 45 218 212 217],[]⟩ (by kernel_rfl)
theorem zw4:CT 166 (cA [fD] [fD,SC] Hj):=eR 48 (EE RS IM zdJ zdP zgB zgp) func166 (jr [jq 2 17 9 16]) (by kernel_rfl)
theorem zxl:CT 167 (cA [oC] [oC,SC] Hk):=eR 27 (DB KM HM znb) func167 a0 (by kernel_rfl)
theorem zxi:CT 168 (cA [fD,gA] [fD,SC,gA] (u2 Hl)):=eR 55 (lD zB RS IM aT zmk) func168 (jr [jq 4 31 15 30]) (by kernel_rfl)
theorem zzf:CT 266 (cA [ZB] [WJ] Hm):=eR 39 (OA iI) func266 (jc [jk 655366 [rA 3 .bs] [(11,18)],jk 1966089 [rA 3 .bs] [(31,37)]]) (by kernel_rfl)
theorem zy9:CT 169 (kB [.ptr [1,11,12,13], .plain] [dG,ZB] [yA,dG] (u2 Jz) [(false,1)] [2,12,13,14] false):=eR 40 (OA zzf) func169 a0 (by kernel_rfl)
theorem zxw:CT 170 (cA [XH,gA] [XH] (u2 Fs)):=eR 17 (DB zB zdG zdL) func170 (jn [jk 851972 [fA 5 .Dice [0]] [(14,15)]] [jq 2 13 8 12]) (by kernel_rfl)
theorem c81:CT 81 (kB [.ptr [1,11,12,13], .plain] [dG, .v .Event] [yA,dG] (u2 Is) [(false,1)] [2,12,13,14] false):=eR 519 (KE c72 c73 qJ zl5 zdJ znl zdP zxz (KE zyU zwX zl3 zyp zxm zxv zy7 zw4 (cC zxl zxi zy9 zxw))) func81 (jn [jk 3276805 [fA 6 .Wire []] [(4,4),(51,70)],jk 4784138 [fA 0 .World [1,11,12,13]] [(4,4),(7,38),(75,518)],jk 8126482 [fA 0 .World [1,11,12,13]] [(4,4),(13,38),(126,518)],jk 10027031 [fA 0 .World [1,11,12,13]] [(4,4),(17,38),(155,518)],jk 12058653 [fA 0 .World [1,11,12,13]] [(4,4),(21,38),(186,518)],jk 12910626 [fA 0 .World [1,11,12,13]] [(4,4),(22,38),(199,518)],jk 14286884 [fA 0 .World [1,11,12,13]] [(4,4),(22,38),(220,518)],jk 16056361 [fA 0 .World [1,11,12,13]] [(4,4),(26,38),(247,518)],jk 17170478 [fA 0 .World [1,11,12,13]] [(4,4),(27,38),(264,518)],jk 17825840 [fA 0 .World [1,11,12,13]] [(4,4),(27,38),(274,518)],jk 18546738 [fA 0 .World [1,11,12,13]] [(4,4),(27,38),(285,518)],jk 21430330 [fA 0 .World [1,11,12,13]] [(4,4),(30,38),(329,518)],jk 23265343 [fA 0 .World [1,11,12,13]] [(4,4),(32,38),(357,518)],jk 24641605 [fA 0 .World [1,11,12,13]] [(4,4),(34,38),(378,518)],jk 26476618 [fA 0 .World [1,11,12,13]] [(4,4),(36,38),(406,518)],jk 32178260 [fA 0 .World [1,11,12,13]] [(493,518)],jk 32505941 [fA 0 .World [1,11,12,13]] [(497,518)]] [jq 3 50 43 49,jq 50 298 291 297,jk 79 [pA 4 yA,fA 0 .World [1,11,12,13]] [(429,449)],jk 81 [pA 4 yA,fA 0 .World [1,11,12,13]] [(452,490)]]) (by kernel_rfl)
theorem zyk:CT 196 (kB [.ptr [], .plain, .plain] [QA,gA,yA] [RC, .sl .Event,RC,QA] (u3 Iu) [(true,14),(false,1),(true,14)] [1,2,7,8,11,12,13,14,16,26,27,28] false):=eR 55 (EE vC c67 c78 c79 c80 c81) func196 ⟨[jk 3276813 [fA 10 .World [1,11,12,13], .drop 15] [(51,51)]],[jk 0 [rA 11 .Event,fA 0 .Cur [],fA 12 .int [],fA 10 .World [1,11,12,13]] [(13,15),(25,51)]],[jk 6 [rA 11 .Event,pA 13 gA,fA 0 .Cur [],fA 12 .int [],fA 10 .World [1,11,12,13]] [(14,15),(25,51)]],[jk 11 [pA 50 yA,fA 15 .World [1,11,12,13]] [(39,49)]],[]⟩ (by kernel_rfl)
theorem zyj:CT 118 (kB [.ptr [], .plain] [QA,gA] [RC,QA] (u2 Iv) [(true,14)] [1,11,12,13] false):=eR 19 (uB NG zyk) func118 a0 (by kernel_rfl)
theorem zmo:CT 296 (kB [.ptr []] [QA] [vB,QA] Kc [(true,11)] [2,3,5,6,9,10] false):=eR 12 (uB vC VD) func296 a0 (by kernel_rfl)
theorem zw7:CT 420 (kB [.ptr [], .plain] [QA,gA] [oE,QA] (u2 Ja) [(false,1)] [0] false):=eR 47 (DB vC NG GD) func420 ⟨[jk 1376264 [pA 6 gA,fA 0 .Cur []] [(22,26)],jk 2555915 [rA 5 .int,fA 0 .Cur []] [(40,45)]],[jk 0 [rA 5 .int,fA 0 .Cur []] [(6,7),(16,37)]],[jk 4 [rA 5 .int,pA 6 gA,pA 7 gA,fA 0 .Cur []] [(16,37)]],[],[]⟩ (by kernel_rfl)
theorem zxI:CT 419 (cA [oE] [ME] Jb):=eR 22 (uB zmV zm3) func419 (jl [jk 0 [fA 3 .Win [1]] [(4,4),(6,20)]] [jk 3 [pA 4 gA,fA 3 .Win [1]] [(6,20)]]) (by kernel_rfl)
theorem zgX:CT 376 (kB [.ptr []] [QA] [ME,QA] Ho [(true,2)] [1] false):=eR 6 (uB zxI zw7) func376 a0 (by kernel_rfl)
theorem zgx:CT 298 (kB [.ptr [], .plain] [QA,gA] [ZB,QA] (u2 Hp) [(true,15)] [1,3,6,8,11,14] false):=eR 74 (OF NG GD VD GM zgM zgX zac) func298 (jn [jk 1179653 [fA 0 .Cur [],fA 5 .Chan [1,3,6,8,11,14]] [(19,22)],jk 1572871 [fA 5 .Chan [1,3,6,8,11,14],fA 0 .Cur []] [(25,55)],jk 3538957 [fA 5 .Chan [1,3,6,8,11,14]] [(55,55)],jk 4390927 [fA 5 .Chan [1,3,6,8,11,14]] [(68,72)]] [jq 11 54 48 53,jk 13 [pA 67 yA,fA 0 .Cur []] [(56,66)]]) (by kernel_rfl)
theorem znn:CT 299 (kB [.ptr [], .plain] [QA,gA] [UH,QA] (u2 Kd) [(true,4)] [] false):=eR 23 (DB vC zgz WS) func299 (jl [jk 0 [fA 5 .Timer []] [(6,6),(11,21)]] [jk 3 [pA 6 gA,fA 5 .Timer []] [(11,21)]]) (by kernel_rfl)
theorem zxS:CT 197 (kB [.ptr []] [QA] [oC,QA] Je [(true,41)] [1,5,8,9,11,12,15,16] false):=eR 137 (KE vC NG GD qJ VD znl zlY zgz (OF WS zgO zgP zmo zdS zgx znn)) func197 ⟨[jk 5898260 [fA 3 .Client [1,5,8,9,11,12,15,16]] [(91,93)],jk 7602201 [fA 0 .Cur [],fA 3 .Client [1,5,8,9,11,12,15,16]] [(117,135)],jk 8126491 [fA 0 .Cur [],fA 3 .Client [1,5,8,9,11,12,15,16,18,20,23,25,28,31]] [(125,135)],jk 8650781 [fA 3 .Client [1,5,8,9,11,12,15,16,18,20,23,25,28,31]] [(133,135)]],[jk 0 [fA 3 .Client [1,5,8,9,11,12,15,16]] [(7,7),(73,86)]],[jk 15 [pA 7 gA,fA 3 .Client [1,5,8,9,11,12,15,16]] [(73,86)]],[],[]⟩ (by kernel_rfl)
theorem zxa:CT 212 (kB [.ptr []] [QA] [OB,QA] Iy [(true,2)] [] false):=eR 17 (cC vC NG c82 qJ) func212 a0 (by kernel_rfl)
theorem zyh:CT 213 (kB [.ptr []] [QA] [gA,QA] Im [(false,1)] [] false):=eR 6 (OA GD) func213 a0 (by kernel_rfl)
theorem zad:CT 125 (kB [.ptr []] [QA] [OB,QA] Cu [(true,2)] [] false):=eR 20 (cC vC GD zxa zyh) func125 (jc [jk 524293 [fA 0 .Cur [],fA 3 .Addr []] [(10,18)],jk 851975 [fA 0 .Cur [],fA 3 .Addr []] [(15,18)]]) (by kernel_rfl)
theorem zmD:CT 211 (kB [.ptr []] [QA] [vB,QA] Ke [(true,11)] [2,3,5,6,9,10] false):=eR 79 (DB vC GD VD) func211 (jn [jk 2293770 [pA 4 gA] [],jk 2490380 [pA 4 gA] [],jk 2818063 [fA 0 .Cur [],fA 3 .Frame [2,3,5,6,9,10]] [(4,4),(11,42),(45,77)],jq 3407890 52 54 54,jk 3407891 [fA 0 .Cur [],fA 3 .Frame [2,3,5,6,9,10]] [(4,4),(11,42),(55,77)],jk 4587544 [fA 0 .Cur [],fA 3 .Frame [2,3,5,6,9,10]] [(71,77)]] [jq 8 35 28 34]) (by kernel_rfl)
theorem zyJ:CT 198 (kB [.ptr []] [QA] [vB,QA] Jf [(true,11)] [2,3,5,6,9,10] false):=eR 87 (cC vC GD VD zmD) func198 (jc [jk 524293 [fA 0 .Cur [],fA 3 .Frame [2,3,5,6,9,10]] [(10,85)],jk 917511 [fA 0 .Cur [],fA 3 .Frame [2,3,5,6,9,10]] [(16,85)],jk 1310729 [fA 0 .Cur [],fA 3 .Frame [2,3,5,6,9,10]] [(22,85)],jk 1835019 [fA 0 .Cur [],fA 3 .Frame [2,3,5,6,9,10]] [(30,85)],jk 2359309 [fA 0 .Cur [],fA 3 .Frame [2,3,5,6,9,10]] [(38,85)],jk 2752527 [fA 0 .Cur [],fA 3 .Frame [2,3,5,6,9,10]] [(44,85)],jk 3276817 [fA 0 .Cur [],fA 3 .Frame [2,3,5,6,9,10]] [(52,85)],jk 3801107 [fA 0 .Cur [],fA 3 .Frame [2,3,5,6,9,10]] [(60,85)],jk 4194325 [fA 0 .Cur [],fA 3 .Frame [2,3,5,6,9,10]] [(66,85)],jk 4587543 [fA 0 .Cur [],fA 3 .Frame [2,3,5,6,9,10]] [(72,85)],jk 5111833 [fA 0 .Cur [],fA 3 .Frame [2,3,5,6,9,10]] [(80,85)]]) (by kernel_rfl)
theorem zxA:CT 378 (kB [.ptr []] [QA] [fE,QA] Jc [(true,5)] [1,4] false):=eR 20 (lD NG GD VD zgX zac) func378 (jc [jk 983045 [fA 0 .Cur [],fA 3 .Ep [1,4]] [(16,18)]]) (by kernel_rfl)
theorem zyq:CT 379 (kB [.ptr []] [QA] [ME,QA] Jd [(true,2)] [1] false):=eR 33 (DB vC GD zgX) func379 (jc [jk 524293 [fA 0 .Cur [],fA 3 .Win [1]] [(10,31)],jk 917511 [fA 0 .Cur [],fA 3 .Win [1]] [(16,31)],jk 1572873 [fA 0 .Cur [],fA 3 .Win [1]] [(26,31)]]) (by kernel_rfl)
theorem zy6:CT 300 (kB [.ptr []] [QA] [fE,QA] Ka [(true,5)] [1,4] false):=eR 34 (lD vC GD VD zxA zyq) func300 (jc [jk 524293 [fA 0 .Cur [],fA 3 .Ep [1,4]] [(10,32)],jk 917511 [fA 0 .Cur [],fA 3 .Ep [1,4]] [(16,32)],jk 1441801 [fA 0 .Cur [],fA 3 .Ep [1,4]] [(24,32)],jk 1835019 [fA 0 .Cur [],fA 3 .Ep [1,4]] [(30,32)]]) (by kernel_rfl)
theorem zmK:CT 199 (kB [.ptr []] [QA] [ZB,QA] Kb [(true,15)] [1,3,6,8,11,14] false):=eR 52 (lD vC GD VD zgx zy6) func199 (jc [jk 655365 [fA 0 .Cur [],fA 3 .Chan [1,3,6,8,11,14]] [(12,50)],jk 1048583 [fA 0 .Cur [],fA 3 .Chan [1,3,6,8,11,14]] [(18,50)],jk 1376265 [fA 0 .Cur [],fA 3 .Chan [1,3,6,8,11,14]] [(23,50)],jk 1703947 [fA 0 .Cur [],fA 3 .Chan [1,3,6,8,11,14]] [(28,50)],jk 2031629 [fA 3 .Chan [1,3,6,8,11,14],fA 0 .Cur []] [(33,50)],jk 2424847 [fA 0 .Cur [],fA 3 .Chan [1,3,6,8,11,14]] [(39,50)],jk 2818065 [fA 0 .Cur [],fA 3 .Chan [1,3,6,8,11,14]] [(45,50)]]) (by kernel_rfl)
theorem zwN:CT 200 (kB [.ptr []] [QA] [UH,QA] Kf [(true,4)] [] false):=eR 36 (DB vC GD znn) func200 (jc [jk 720901 [fA 0 .Cur [],fA 3 .Timer []] [(13,34)],jk 1114119 [fA 0 .Cur [],fA 3 .Timer []] [(19,34)],jk 1507337 [fA 0 .Cur [],fA 3 .Timer []] [(25,34)],jk 1900555 [fA 3 .Timer []] [(31,34)]]) (by kernel_rfl)
theorem zw3:CT 119 (kB [.ptr []] [QA] [oC,QA] Jg [(true,41)] [1,5,8,9,11,12,15,16] false):=eR 72 (pL vC GD VD zad zxS zyJ zmK zwN) func119 (jc [jk 524293 [fA 0 .Cur [],fA 3 .Client [1,5,8,9,11,12,15,16]] [(10,70)],jk 917511 [fA 0 .Cur [],fA 3 .Client [1,5,8,9,11,12,15,16]] [(16,70)],jk 1441801 [fA 0 .Cur [],fA 3 .Client [1,5,8,9,11,12,15,16]] [(24,70)],jk 1769483 [fA 0 .Cur [],fA 3 .Client [1,5,8,9,11,12,15,16]] [(29,70)],jk 2162701 [fA 0 .Cur [],fA 3 .Client [1,5,8,9,11,12,15,16]] [(35,70)],jk 2686991 [fA 0 .Cur [],fA 3 .Client [1,5,8,9,11,12,15,16]] [(43,70)],jk 3014673 [fA 0 .Cur [],fA 3 .Client [1,5,8,9,11,12,15,16]] [(48,70)],jk 3342355 [fA 0 .Cur [],fA 3 .Client [1,5,8,9,11,12,15,16]] [(53,70)],jk 3670037 [fA 0 .Cur [],fA 3 .Client [1,5,8,9,11,12,15,16]] [(58,70)],jk 3997719 [fA 0 .Cur [],fA 3 .Client [1,5,8,9,11,12,15,16]] [(63,70)],jk 4390937 [fA 3 .Client [1,5,8,9,11,12,15,16]] [(69,70)]]) (by kernel_rfl)
theorem zyE:CT 301 (kB [.ptr []] [QA] [WJ,QA] Jh [(false,1)] [0] false):=eR 22 (uB vC VD) func301 (jl [jk 0 [rA 3 .bs,fA 0 .Cur []] [(4,4),(9,20)]] [jk 3 [rA 3 .bs,pA 4 gA,fA 0 .Cur []] [(9,20)]]) (by kernel_rfl)
theorem zno:CT 310 (kB [.ptr []] [QA] [KD,QA] Kg [(true,3)] [2] false):=eR 34 (lD vC qJ VD zmX znc) func310 (jl [jk 0 [fA 0 .Cur [],fA 3 .Paths [2]] [(4,5),(14,32)]] [jk 4 [pA 4 gA,pA 5 gA,fA 0 .Cur [],fA 3 .Paths [2]] [(14,32)]]) (by kernel_rfl)
theorem zdH:CT 207 (kB [.ptr []] [QA] [NC,QA] Ft [(true,24)] [1,6,9,11,14,17,20] false):=eR 43 (KE vC NG GD qJ VD zmo zgx zna (uB znt zno)) func207 (jc [jk 1900549 [fA 0 .Cur [],fA 5 .Sess [1,6,9,11,14,17,20]] [(30,36)],jk 2490376 [fA 0 .Cur [],fA 5 .Sess [1,6,9,11,14,17,20]] [(39,41)]]) (by kernel_rfl)
theorem zmb:CT 302 (kB [.ptr []] [QA] [QD,QA] Kh [(true,2)] [1] false):=eR 47 (EE vC NG aT zdH zgp zgF) func302 ⟨[jk 1966088 [fA 0 .Cur [],fA 3 .Tab [1]] [(5,5),(31,45)]],[jk 0 [fA 0 .Cur [],fA 3 .Tab [1]] [(4,5),(12,45)]],[jk 3 [pA 4 gA,fA 0 .Cur [],fA 3 .Tab [1]] [(5,5),(12,45)]],[jk 6 [pA 30 yA,fA 0 .Cur []] [(23,29)]],[]⟩ (by kernel_rfl)
theorem zl8:CT 304 (kB [.ptr [], .plain] [QA,gA] [UE,QA] (u2 Ki) [(false,1)] [0] false):=eR 36 (lD vC GD qJ zmd zmQ) func304 (jl [jk 0 [rA 5 .Credit,fA 0 .Cur []] [(6,7),(13,34)]] [jk 3 [rA 5 .Credit,pA 6 gA,fA 0 .Cur []] [(7,7),(13,34)]]) (by kernel_rfl)
theorem zwH:CT 201 (kB [.ptr []] [QA] [fD,QA] Ji [(true,7)] [0,1,2,5,6] false):=eR 54 (OF vC VD zmy zyE zmb zgF zl8) func201 ⟨[jk 2097160 [fA 3 .Server [0,1,2,5,6]] [(33,44)]],[jk 0 [fA 3 .Server [0,1,2,5,6]] [(5,5),(16,44)]],[jk 4 [pA 5 gA,fA 3 .Server [0,1,2,5,6]] [(16,44)]],[],[]⟩ (by kernel_rfl)
theorem zyO:CT 202 (kB [.ptr [], .plain, .plain] [QA,WJ,WJ] [WJ,QA] (u3 Jj) [(false,1)] [] false):=eR 11 (OA NG) func202 a0 (by kernel_rfl)
theorem zxK:CT 203 (kB [.ptr []] [QA] [oM,QA] Jk [(true,1)] [0] false):=eR 16 (cC NG GD VD zgB) func203 (jc [jk 524292 [fA 0 .Cur [],fA 3 .Jar [0]] [(9,14)]]) (by kernel_rfl)
theorem zxr:CT 381 (kB [.ptr []] [QA] [KD,QA] Jl [(true,3)] [2] false):=eR 66 (EE vC NG GD VD zad zno) func381 (jn [jk 1507336 [fA 0 .Cur [],fA 3 .Paths [2]] [(25,64)],jk 1835018 [fA 0 .Cur [],fA 3 .Paths [2]] [(30,64)],jk 2424844 [fA 0 .Cur [],fA 3 .Paths [2]] [(39,64)],jk 3014670 [fA 0 .Cur [],fA 3 .Paths [2]] [(48,64)],jk 3670032 [fA 3 .Paths [2]] [(58,64)]] [jk 2 [pA 14 yA,fA 0 .Cur []] [(7,13)]]) (by kernel_rfl)
theorem zwP:CT 305 (kB [.ptr []] [QA] [NC,QA] Jm [(true,24)] [1,6,9,11,14,17,20] false):=eR 58 (OF vC GD VD zmK aT zdH zxr) func305 (jc [jk 524293 [fA 0 .Cur [],fA 3 .Sess [1,6,9,11,14,17,20],fA 2 .Sess [1,2,4,6,9,11,14,17,20]] [(10,56)],jk 917511 [fA 0 .Cur [],fA 3 .Sess [1,6,9,11,14,17,20],fA 2 .Sess [1,2,4,6,9,11,14,17,20]] [(16,56)],jk 1245193 [fA 0 .Cur [],fA 3 .Sess [1,6,9,11,14,17,20],fA 2 .Sess [1,2,4,6,9,11,14,17,20]] [(21,56)],jk 1769483 [fA 0 .Cur [],fA 3 .Sess [1,6,9,11,14,17,20],fA 2 .Sess [1,2,4,6,9,11,14,17,20]] [(29,56)],jk 2097165 [fA 0 .Cur [],fA 3 .Sess [1,6,9,11,14,17,20],fA 2 .Sess [1,2,4,6,9,11,14,17,20]] [(34,56)],jk 2424847 [fA 0 .Cur [],fA 3 .Sess [1,6,9,11,14,17,20],fA 2 .Sess [1,2,4,6,9,11,14,17,20]] [(39,56)],jk 2818065 [fA 0 .Cur [],fA 3 .Sess [1,6,9,11,14,17,20],fA 2 .Sess [1,2,4,6,9,11,14,17,20]] [(45,56)],jk 3211283 [fA 3 .Sess [1,6,9,11,14,17,20],fA 2 .Sess [1,2,4,6,9,11,14,17,20]] [(51,56)],jq 3407893 52 54 54]) (by kernel_rfl)
theorem zwQ:CT 204 (kB [.ptr []] [QA] [QD,QA] Jn [(true,2)] [1] false):=eR 65 (OF vC GD VD aT zdH zmb zwP) func204 ⟨[jk 655365 [fA 0 .Cur [],fA 3 .Tab [1]] [(4,5),(12,63)],jk 1048583 [fA 0 .Cur [],fA 3 .Tab [1]] [(4,5),(18,63)],jk 1638409 [fA 3 .Tab [1],fA 0 .Cur []] [(4,5),(27,63)],jk 1966090 [fA 3 .Tab [1]] [(31,39)],jk 2621452 [fA 0 .Cur [],fA 3 .Tab [1]] [(4,5),(42,63)]],[jk 1 [fA 0 .Cur [],fA 4 .Sess [],fA 3 .Tab [1]] [(5,5),(48,63)]],[jk 13 [pA 5 gA,fA 0 .Cur [],fA 4 .Sess [],fA 3 .Tab [1]] [(48,63)]],[],[]⟩ (by kernel_rfl)
theorem zxD:CT 205 (kB [.ptr []] [QA] [UE,QA] Jo [(false,1)] [0] false):=eR 60 (cC vC GD zad zl8) func205 (jc [jk 1114120 [rA 3 .Credit,fA 0 .Cur []] [(19,58)],jk 1638410 [rA 3 .Credit,fA 0 .Cur []] [(27,58)],jk 2228236 [rA 3 .Credit,fA 0 .Cur []] [(36,58)],jk 3276814 [rA 3 .Credit] [(52,58)]]) (by kernel_rfl)
theorem zw2:CT 120 (kB [.ptr []] [QA] [fD,QA] Jp [(true,7)] [1,2,5,6] false):=eR 61 (KE vC GD zwH zyO zxK zwQ zxD aT (OA zdH)) func120 (jc [jk 524293 [fA 0 .Cur [],fA 3 .Server [1,2,5,6]] [(10,59)],jk 1179655 [fA 0 .Cur [],fA 3 .Server [0,1,2,5,6]] [(20,59)],jk 1507337 [fA 0 .Cur [],fA 3 .Server [0,1,2,5,6]] [(25,59)],jk 1966091 [fA 0 .Cur [],fA 3 .Server [0,1,2,5,6]] [(32,59)],jk 2293773 [fA 0 .Cur [],fA 3 .Server [0,1,2,5,6]] [(37,59)],jk 2621455 [fA 3 .Server [0,1,2,5,6],fA 0 .Cur []] [(42,59)],jk 3145745 [fA 0 .Cur [],fA 3 .Server [0,1,2,5,6]] [(50,59)]]) (by kernel_rfl)
theorem zxu:CT 208 (kB [.ptr []] [QA] [XH,QA] Jq [(true,2)] [0] false):=eR 11 (uB vC VD) func208 a0 (by kernel_rfl)
theorem zxR:CT 121 (kB [.ptr []] [QA] [XH,QA] Jr [(true,2)] [0] false):=eR 23 (cC vC GD VD zxu) func121 (jc [jk 524293 [fA 0 .Cur [],fA 3 .Dice [0]] [(10,21)],jk 917511 [fA 0 .Cur [],fA 3 .Dice [0]] [(16,21)]]) (by kernel_rfl)
theorem zyn:CT 124 (kB [.ptr []] [QA] [QN,QA] Js [(true,5)] [4] false):=eR 26 (OF vC NG GD qJ VD zgA zmD) func124 a0 (by kernel_rfl)
theorem c61:CT 61 (kB [.ptr []] [QA] [QN,QA] Kj [(true,5)] [4] false):=eR 24 (cC vC VD zyn zad) func61 (jc [jk 524293 [fA 0 .Cur [],fA 3 .Wire [4]] [(10,22)],jk 851975 [fA 0 .Cur [],fA 3 .Wire [4]] [(15,22)],jk 1179657 [fA 0 .Cur [],fA 3 .Wire [4]] [(20,22)]]) (by kernel_rfl)
theorem zyV:CT 311 (kB [.ptr []] [QA] [lA,QA] Hn [(false,1)] [0] false):=eR 19 (OA vC) func311 (jl [jk 0 [rA 3 .byte] [(5,5),(10,17)]] [jk 4 [rA 3 .byte,pA 5 gA] [(10,17)]]) (by kernel_rfl)
theorem zx6:CT 312 (kB [.ptr []] [QA] [lA,QA] Iw [(false,1)] [0] false):=eR 19 (OA vC) func312 (jl [jk 0 [rA 3 .byte] [(5,5),(10,17)]] [jk 4 [rA 3 .byte,pA 5 gA] [(10,17)]]) (by kernel_rfl)
theorem zzm:CT 209 (kB [.ptr []] [QA] [YE,QA] Ix [(true,12)] [3,4,7,8] false):=eR 36 (cC vC qJ zyV zx6) func209 a0 (by kernel_rfl)
theorem zx3:CT 123 (kB [.ptr []] [QA] [YE,QA] Iz [(true,12)] [3,4,7,8] false):=eR 82 (lD vC GD VD zad zzm) func123 (jc [jk 524293 [fA 0 .Cur [],fA 3 .Note [3,4,7,8]] [(10,80)],jk 917511 [fA 0 .Cur [],fA 3 .Note [3,4,7,8]] [(16,80)],jk 1310729 [fA 0 .Cur [],fA 3 .Note [3,4,7,8]] [(22,80)],jk 1703947 [fA 0 .Cur [],fA 3 .Note [3,4,7,8]] [(28,80)],jk 2228237 [fA 0 .Cur [],fA 3 .Note [3,4,7,8]] [(36,80)],jk 2752527 [fA 0 .Cur [],fA 3 .Note [3,4,7,8]] [(44,80)],jk 3145745 [fA 0 .Cur [],fA 3 .Note [3,4,7,8]] [(50,80)],jk 3538963 [fA 0 .Cur [],fA 3 .Note [3,4,7,8]] [(56,80)],jk 4063253 [fA 0 .Cur [],fA 3 .Note [3,4,7,8]] [(64,80)],jk 4587543 [fA 0 .Cur [],fA 3 .Note [3,4,7,8]] [(72,80)],jk 4915225 [fA 0 .Cur [],fA 3 .Note [3,4,7,8]] [(77,80)]]) (by kernel_rfl)
theorem c59:CT 59 (kB [.ptr [], .plain] [QA,gA] [RC,QA] (u2 Kk) [(true,14)] [1,11,12,13] false):=eR 88 (KE vC c61 GD zyj zw3 zw2 zxR VD (OA zx3)) func59 (jc [jk 720901 [fA 0 .Cur [],fA 5 .World [1,11,12,13]] [(13,86)],jk 1114119 [fA 0 .Cur [],fA 5 .World [1,11,12,13]] [(19,86)],jk 1703945 [fA 0 .Cur [],fA 5 .World [1,11,12,13]] [(28,86)],jk 2228235 [fA 0 .Cur [],fA 5 .World [1,11,12,13]] [(36,86)],jk 2555917 [fA 0 .Cur [],fA 5 .World [1,11,12,13]] [(41,86)],jk 2883599 [fA 0 .Cur [],fA 5 .World [1,11,12,13]] [(46,86)],jk 3473425 [fA 0 .Cur [],fA 5 .World [1,11,12,13]] [(55,86)],jk 4259859 [fA 0 .Cur [],fA 5 .World [1,11,12,13]] [(67,86)],jk 4849685 [fA 5 .World [1,11,12,13]] [(76,86)],jk 5242903 [fA 5 .World [1,11,12,13]] [(82,86)]]) (by kernel_rfl)
theorem c19:CT 19 (cE [lA] [RC,aE] Ju [1,11,12,13,14]):=eR 57 (lD c28 vC c59 NG c61) func19 ⟨[jk 3211275 [rA 6 .Wire,fA 4 .Cur []] [(50,54)]],[jk 0 [rA 6 .Wire,fA 4 .Cur []] [(7,8),(17,47)]],[jk 5 [rA 6 .Wire,pA 7 gA,fA 4 .Cur []] [(8,8),(17,47)]],[jq 5 24 17 23],[]⟩ (by kernel_rfl)
theorem wC:CT 51 (cA [lA] [lA] (λx=>CA x)):=eC 6 pn func51 a0 Ro (by kernel_rfl) zby.ok
theorem zmu:CT 109 (cA [WJ] [WJ] (λx=>MR x)):=eC 20 (OA wC) func109 (jl [jk 0 [rA 3 .bs] [(5,5),(9,18)]] [jk 3 [rA 3 .bs,pA 9 gA] [(5,5),(10,18)]]) Pg (by kernel_rfl) MT.ok
theorem zmn:CT 270 (cA [ME] [ME] (λx=>(λ(a0:Ap)=>nA a0) x)):=eC 10 pn func270 a0 Rw (by kernel_rfl) zaG.ok
theorem zgC:CT 177 (cA [fE] [fE] (λx=>(λ(a0:Aw)=>nA a0) x)):=eC 14 (uB wC zmn) func177 a0 Pu (by kernel_rfl) kU.ok
theorem mL:CT 104 (cA [ZB] [ZB] (λx=>(λ(a0:Ak)=>nA a0) x)):=eC 20 (uB wC zgC) func104 a0 Pv (by kernel_rfl) IT.ok
theorem FV:CT 356 (cA [KD] [KD] (λx=>(λ(a0:Aj)=>nA a0) x)):=eC 31 (OA wC) func356 (jl [jk 0 [fA 3 .Paths [2]] [(5,5),(12,29)]] [jk 3 [pA 12 gA,fA 3 .Paths [2]] [(5,5),(13,29)]]) Ou (by kernel_rfl) qP.ok
theorem tO:CT 273 (cA [NC] [NC] (λx=>(λ(a0:Ah)=>nA a0) x)):=eC 20 (DB wC mL FV) func273 a0 Pw (by kernel_rfl) NT.ok
theorem zdK:CT 181 (cA [QD] [QD] (λx=>(λ(a0:Ao)=>nA a0) x)):=eC 25 (OA tO) func181 (jl [jk 0 [fA 3 .Tab [1]] [(5,5),(12,23)]] [jk 3 [pA 12 gA,fA 3 .Tab [1]] [(5,5),(13,23)]]) Rx (by kernel_rfl) zaF.ok
theorem zg0:CT 182 (cA [UE] [UE] (λx=>(λ(a0:List Al)=>nA a0) x)):=eC 6 pn func182 a0 Px (by kernel_rfl) kT.ok
theorem zgy:CT 108 (cA [fD] [fD] (λx=>(λ(a0:Ac)=>nA a0) x)):=eC 26 (cC wC zmu zdK zg0) func108 a0 Py (by kernel_rfl) nT.ok
theorem zgU:CT 103 (cA [vB] [vB] (λx=>(λ(a0:Aa)=>nA a0) x)):=eC 28 (OA wC) func103 a0 Pz (by kernel_rfl) BT.ok
theorem fT:CT 49 (cA [oC] [oC] (λx=>(λ(a0:Ad)=>nA a0) x)):=eC 20 (DB wC zgU mL) func49 a0 Qa (by kernel_rfl) qT.ok
theorem c55:CT 55 (cA [aE] [aE] (λx=>(λ(a0:List Am)=>nA a0) x)):=eC 26 (OA wC) func55 (jl [jk 0 [rA 3 .Wire] [(5,5),(9,24)]] [jk 3 [rA 3 .Wire,pA 9 gA] [(5,5),(10,24)]]) Ov (by kernel_rfl) cP.ok
theorem zxs:CT 183 (cA [YE] [YE] (λx=>(λ(a0:Ae)=>nA a0) x)):=eC 20 (OA wC) func183 a0 Qb (by kernel_rfl) LT.ok
theorem zxP:CT 110 (cA [SC] [SC] (λx=>(λ(a0:List Ae)=>nA a0) x)):=eC 20 (OA zxs) func110 (jl [jk 0 [rA 3 .Note] [(5,5),(9,18)]] [jk 3 [rA 3 .Note,pA 9 gA] [(5,5),(10,18)]]) Ry (by kernel_rfl) zaj.ok
theorem gT:CT 53 (cA [RC] [RC] (λx=>(λ(a0:Ab)=>nA a0) x)):=eC 48 (EE fT wC c55 zgy zmu zxP) func53 (jl [jk 0 [fA 3 .World [1,2,3,4,7,8,9,11,12,13]] [(5,5),(23,34)]] [jk 3 [pA 23 gA,fA 3 .World [1,2,3,4,7,8,9,11,12,13]] [(5,5),(24,34)]]) Qc (by kernel_rfl) DT.ok
theorem VB:CT 31 (cA [gA,gA,gA] [yA] (λx=>some (eA x.1 x.2.1 x.2.2))):=eD 15 pn func31 (jr [jq 1 6 7 14]) (u3 Qf) (by kernel_rfl) zbh.ok
theorem c85:CT 85 (cA [oM] [yA] (λx=>some (dF x))):=eD 7 pn func85 a0 Qv (by kernel_rfl) zbu.ok
theorem c38:CT 38 (cA [XH] [yA] (λx=>some (BC x))):=eD 12 (OA VB) func38 (jr [jq 1 2 3 11]) Qu (by kernel_rfl) zaW.ok
theorem zme:CT 171 (cA [QD] [gA] (λx=>bJ x)):=eC 20 pn func171 ⟨[jk 983047 [pA 3 gA] [(16,17)]],[jk 0 [pA 3 gA] [(5,5),(9,18)]],[jk 3 [pA 3 gA,pA 9 gA] [(5,5),(10,18)]],[],[]⟩ Qw (by kernel_rfl) zbP.ok
theorem oI:CT 90 (cA [lA] [yA] (λx=>some (oA x))):=eD 6 pn func90 a0 Qk (by kernel_rfl) zaD.ok
theorem nI:CT 41 (cA [lA,lA] [yA] (λx=>BB x.1 x.2)):=eC 10 pn func41 a0 (u2 Qh) (by kernel_rfl) zbl.ok
theorem zyc:CT 268 (cA [oE,oE] [yA] (λx=>some (zdx x.1 x.2))):=eD 26 pn func268 (jl [jk 0 [] [(4,6),(14,25)]] [jk 4 [pA 14 gA] [(4,6),(15,25)]]) (u2 Qn) (by kernel_rfl) zax.ok
theorem zmz:CT 173 (cA [fE,fE] [yA] (λx=>fO x.1 x.2)):=eC 42 (uB nI zyc) func173 (jr [jq 1 4 5 41]) (u2 Kz) (by kernel_rfl) jR.ok
theorem c89:CT 89 (cA [ZB] [yA] (λx=>bO x)):=eC 40 (OA zmz) func89 (jr [jq 1 2 3 39]) Lg (by kernel_rfl) ZO.ok
theorem GV:CT 174 (cA [gA] [yA] (λx=>some (NA x))):=eD 9 pn func174 (jr [jq 1 2 3 8]) Oy (by kernel_rfl) gU.ok
theorem zgH:CT 352 (cA [oE,gA] [yA] (λx=>some (AC x.1 x.2))):=eD 21 (OA VB) func352 (jl [jk 0 [] [(4,4),(6,6),(9,16)]] [jk 2 [pA 9 gA] [(4,4),(6,6),(10,16)]]) (u2 Oz) (by kernel_rfl) ET.ok
theorem zmh:CT 353 (cA [ME,gA] [yA] (λx=>NF x.1 x.2)):=eC 17 pn func353 a0 (u2 Ql) (by kernel_rfl) za7.ok
theorem zlZ:CT 269 (cA [ME] [yA] (λx=>some (bD x))):=eD 33 (DB VB zgH zmh) func269 (jm [jk 0 [] [(2,3),(17,23)]] [jk 4 [pA 3 gA] [(2,2),(17,23)]] [jq 1 13 4 12,jq 8 2 24 32]) Ky (by kernel_rfl) xR.ok
theorem zdF:CT 175 (cA [fE] [yA] (λx=>some (cD x))):=eD 22 (uB VB zlZ) func175 (jr [jq 1 2 3 21]) Qm (by kernel_rfl) zb1.ok
theorem zy3:CT 176 (cA [ZB] [yA] (λx=>zc8 x)):=eC 42 (DB VB zmz zdF) func176 (jr [jq 2 2 6 14,jq 3 28 15 27,jq 5 2 29 41]) La (by kernel_rfl) wR.ok
theorem oJ:CT 93 (cA [ZB] [yA] (λx=>sC x)):=eC 45 (cC oI GV zdF zy3) func93 (jr [jq 1 23 3 22,jq 3 2 24 44]) Lb (by kernel_rfl) PQ.ok
theorem LG:CT 33 (cA [OB] [yA] (λx=>some (MA x))):=eD 11 (OA VB) func33 (jr [jq 1 2 3 10]) Qp (by kernel_rfl) zbj.ok
theorem zdV:CT 267 (cA [KD] [yA] (λx=>some (qC x))):=eD 64 (DB VB LG oI) func267 (jm [jk 0 [] [(2,4),(6,6),(20,63)],jk 2 [] [(2,2),(6,6),(53,62)]] [jk 4 [pA 20 gA] [(2,4),(6,6),(21,63)],jk 9 [pA 53 gA] [(2,2),(6,6),(54,62)]] [jq 1 16 7 15,jq 6 47 25 46]) Lh (by kernel_rfl) bQ.ok
theorem PS:CT 172 (cA [NC] [yA] (λx=>FD x)):=eC 76 (EE VB nI c89 oI oJ zdV) func172 (jr [jq 1 24 3 23,jq 4 2 27 48,jq 5 2 49 75]) Li (by kernel_rfl) dR.ok
theorem FO:CT 16 (cA [QD,lA] [gA] (λx=>ED x.1 x.2)):=eC 21 (OA nI) func16 (jl [jk 0 [] [(4,6),(10,20)]] [jk 2 [pA 10 gA] [(4,6),(11,20)]]) (u2 Qx) (by kernel_rfl) za9.ok
theorem c86:CT 86 (cA [QD] [yA] (λx=>iG x)):=eC 42 (cC FO VB zme PS) func86 (jm [jk 0 [] [(2,4),(25,41)]] [jk 4 [pA 25 gA] [(2,4),(26,41)]] [jq 1 21 5 20,jq 6 40 30 39]) Lj (by kernel_rfl) rR.ok
theorem c84:CT 84 (cA [UE,OB] [gA] (λx=>some (qB x.1 x.2))):=eD 20 pn func84 (jl [jk 0 [] [(4,6),(9,19)]] [jk 2 [pA 9 gA] [(4,6),(10,19)]]) (u2 Qy) (by kernel_rfl) zay.ok
theorem c83:CT 83 (cA [UE] [yA] (λx=>some (gD x))):=eD 43 (DB VB LG c84) func83 (jm [jk 0 [] [(2,4),(10,42)]] [jk 4 [pA 10 gA] [(2,4),(11,42)]] [jq 6 41 15 40]) Lk (by kernel_rfl) oP.ok
theorem c87:CT 87 (cA [lA] [yA] (λx=>some (CC x))):=eD 6 (OA VB) func87 a0 Qz (by kernel_rfl) zbA.ok
theorem c37:CT 37 (cA [fD] [yA] (λx=>GC x)):=eC 62 (EE VB c38 c83 c85 c86 c87) func37 (jm [jk 0 [] [(2,2),(4,4),(39,46)],jk 2 [] [(2,2),(6,6),(51,61)]] [jk 4 [pA 39 gA] [(2,2),(4,4),(40,46)],jk 10 [pA 51 gA] [(2,2),(6,6),(52,61)]] [jq 1 35 7 34]) Ll (by kernel_rfl) FP.ok
theorem c54:CT 54 (cA [QN] [yA] (λx=>some (LC x))):=eD 17 (OA LG) func54 (jr [jq 1 2 3 16]) Rl (by kernel_rfl) za8.ok
theorem c39:CT 39 (cA [aE] [yA] (λx=>some (WD x))):=eD 18 (OA c54) func39 (jl [jk 0 [] [(2,2),(4,4),(7,14)]] [jk 2 [pA 7 gA] [(2,2),(4,4),(8,14)]]) Mb (by kernel_rfl) rQ.ok
theorem c88:CT 88 (cA [vB,vB] [yA] (λx=>yN x.1 x.2)):=eC 80 (OA nI) func88 (jr [jq 1 4 5 79]) (u2 Lm) (by kernel_rfl) dP.ok
theorem c91:CT 91 (cA [UH] [yA] (λx=>some (qD x))):=eD 39 (OA VB) func91 (jr [jq 3 3 10 27,jq 4 2 28 38]) Ln (by kernel_rfl) tQ.ok
theorem wO:CT 179 (cA [gA] [yA] (λx=>some (gC x))):=eD 5 (OA VB) func179 a0 Ra (by kernel_rfl) zbf.ok
theorem zx2:CT 195 (cA [gA,gA] [yA] (λx=>some (VF x.1 x.2))):=eD 17 pn func195 (jc [jq 655366 10 12 12]) (u2 Pd) (by kernel_rfl) fU.ok
theorem jJ:CT 115 (cA [vB] [yA] (λx=>TC x)):=eC 165 (lD VB c88 oI wO zx2) func115 (jn [jk 524293 [pA 4 yA,fA 3 .Frame []] [(12,158)],jk 1703944 [pA 4 yA,fA 3 .Frame []] [(30,158)],jk 3997707 [pA 4 yA,fA 3 .Frame []] [(65,158)],jk 7405582 [pA 4 yA,fA 3 .Frame [2,5,6]] [(117,158)]] [jq 5 4 18 25,jq 8 4 42 60,jq 11 4 83 112,jq 14 4 132 158,jq 15 2 159 164]) Lo (by kernel_rfl) WP.ok
theorem c92:CT 92 (cA [oC] [yA] (λx=>zb8 x)):=eC 74 (cC nI oI oJ jJ) func92 (jr [jq 1 35 3 34,jq 3 2 36 73]) Lp (by kernel_rfl) NP.ok
theorem c40:CT 40 (cA [oC] [yA] (λx=>ID x)):=eC 161 (KE VB LG c87 c88 c89 oI c91 c92 (OA oJ)) func40 (jr [jq 1 20 5 19,jq 7 2 33 58,jq 9 2 61 92,jq 11 2 95 117,jq 13 2 120 160]) Lq (by kernel_rfl) HP.ok
theorem c94:CT 94 (cA [lA,gA] [yA] (λx=>some (uD x.1 x.2))):=eD 14 pn func94 (jr [jq 1 4 5 13]) (u2 Pb) (by kernel_rfl) ST.ok
theorem c42:CT 42 (cA [YE] [yA] (λx=>some (tC x))):=eD 57 (DB VB LG c94) func42 (jr [jq 1 2 3 56]) Ld (by kernel_rfl) lR.ok
theorem c9:CT 9 (cA [RC] [yA] (λx=>bE x)):=eC 101 (OF VB c37 c38 c39 c40 nI c42) func9 (jm [jk 0 [] [(2,4),(51,78)],jk 2 [] [(2,2),(6,6),(82,89)],jk 4 [] [(2,2),(8,8),(93,100)]] [jk 6 [pA 51 gA] [(2,4),(52,78)],jk 12 [pA 82 gA] [(2,2),(6,6),(83,89)],jk 18 [pA 93 gA] [(2,2),(8,8),(94,100)]] [jq 1 31 9 30,jq 3 47 32 46,jq 8 77 56 76]) Mc (by kernel_rfl) hQ.ok
theorem c7:CT 7 (cA [gA] [OB] (λx=>some (KB x))):=eD 12 (OA VB) func7 a0 Qs (by kernel_rfl) zcc.ok
theorem c15:CT 15 (cA [] [OB] (λ_=>some (tE))):=eD 2 (OA c7) func15 a0 (λ_=>Qt) (by kernel_rfl) zcx.ok
theorem c56:CT 56 (cA [RC,OB] [gA] (λx=>SK x.1 x.2)):=eC 24 (OA c15) func56 (jl [jk 0 [] [(4,4),(6,6),(13,23)]] [jk 4 [pA 13 gA] [(4,4),(6,6),(14,23)]]) (u2 Lf) (by kernel_rfl) jQ.ok
theorem zxV:CT 184 (cA [UE,OB,gA] [UE] (u3 Hs)):=eR 52 (lD VB LG c83 c84 zg0) func184 (jn [jk 1900551 [rA 7 .Credit] [(30,50)],jk 2883593 [rA 7 .Credit] [(45,50)]] [jq 2 23 11 22]) (by kernel_rfl)
theorem zmm:CT 192 (kB [.ptr [], .plain] [zbw,gA] [lA,zbw] (u2 Bl) [(false,1)] [0] false):=eR 26 (OA wC) func192 a0 (by kernel_rfl)
theorem zys:CT 369 (cA [lA,gA,gA] [lA,yA] (λx=>mJ x.1 x.2.1 x.2.2)):=eC 36 pn func369 (jr [jq 1 27 8 26]) (u3 Mi) (by kernel_rfl) jS.ok
theorem zma:CT 290 (cA [lA,gA,gA] [gA,gA,yA] (λx=>ZG x.1 x.2.1 x.2.2)):=eC 45 (OA zys) func290 (jm [jk 0 [pA 11 gA] [(13,13),(31,40)]] [jk 8 [pA 11 gA,pA 31 gA] [(13,13),(32,40)]] [jq 1 19 14 18]) (u3 Mj) (by kernel_rfl) SR.ok
theorem zyd:CT 191 (kB [.ptr [], .plain] [zbw,gA] [gA,zbw] (u2 Ci) [(false,1)] [] false):=eR 18 (uB zmm zma) func191 a0 (by kernel_rfl)
theorem nJ:CT 116 (cA [WJ] [lA] (λx=>jD x)):=eC 18 pn func116 (jl [jk 0 [rA 3 .byte] [(5,5),(9,16)]] [jk 3 [rA 3 .byte,pA 9 gA] [(5,5),(10,16)]]) Mh (by kernel_rfl) KQ.ok
theorem iK:CT 117 (cA [lA,gA,gA] [lA] (λx=>UB x.1 x.2.1 x.2.2)):=eC 35 pn func117 (jm [jk 0 [rA 7 .byte] [(8,8),(21,33)]] [jk 5 [rA 7 .byte,pA 8 gA] [(21,33)]] [jq 2 17 12 16]) (u3 Mf) (by kernel_rfl) eS.ok
theorem c58:CT 58 (cA [vB] [lA] Bg):=eR 73 (DB jJ nJ iK) func58 a0 (by kernel_rfl)
theorem zmH:CT 113 (cN [lA] [vB,yA] Cv):=eR 70 (EE nI c58 jJ wO zyd zmm) func113 (jn [jk 589829 [fA 4 .bs [],fA 5 .Frame [2,3,5,6,9,10]] [(13,57)],jk 1114120 [fA 4 .bs [],fA 5 .Frame [2,3,5,6,9,10]] [(26,57)],jk 1835017 [fA 4 .bs [],fA 5 .Frame [2,3,5,6,9,10]] [(29,30)],jk 2686991 [fA 4 .bs [],fA 5 .Frame [2,3,5,6,9,10]] [(42,43)],jk 2883601 [fA 4 .bs [],fA 5 .Frame [2,3,5,6,9,10]] [(48,57)]] [jq 6 17 18 25,(21,⟨[pA 67 yA],[(58,66)],[1000005]⟩)]) (by kernel_rfl)
theorem zmC:CT 188 (cA [QD,OB] [yA] (u2 Cw)):=eR 25 pn func188 (jm [jk 0 [] [(4,4),(6,6),(10,24)]] [jk 2 [pA 10 gA] [(4,4),(6,6),(11,24)]] [jq 4 23 14 22]) (by kernel_rfl)
theorem znr:CT 289 (cA [UE,OB] [gA] (u2 Bx)):=eR 28 (uB c83 c84) func289 (jr [jq 2 15 9 14]) (by kernel_rfl)
theorem zml:CT 274 (cA [fD,OB,gA] [yA] (u3 Fy)):=eR 19 (uB zmC znr) func274 (jr [jq 1 6 7 18]) (by kernel_rfl)
theorem zwB:CT 442 (cA [] [oE] (λ_=>some (AE))):=eD 2 pn func442 a0 (λ_=>Rp) (by kernel_rfl) zbM.ok
theorem zyG:CT 434 (cA [] [XU] (λ_=>some (jO))):=eD 3 (OA zwB) func434 a0 (λ_=>Rq) (by kernel_rfl) zaN.ok
theorem zmZ:CT 438 (cA [XU] [yA] (λx=>some (EG x))):=eD 20 (uB VB zgH) func438 (jr [jq 1 2 3 19]) Mg (by kernel_rfl) aR.ok
theorem zmc:CT 445 (cA [gA,gA] [gA] (λx=>kE x.1 x.2)):=eC 23 pn func445 (jr [jq 2 12 7 11]) (u2 Mk) (by kernel_rfl) vS.ok
theorem zzd:CT 444 (cA [lA] [oE] (λx=>RL x)):=eC 79 (uB zma zmc) func444 (jl [jk 0 [rA 3 .int] [(4,4),(14,28)],jk 2 [rA 3 .int] [(5,9),(29,77)]] [jk 5 [pA 4 gA,rA 3 .int] [(14,28)],jk 9 [pA 5 gA,rA 3 .int] [(6,9),(29,77)]]) Ml (by kernel_rfl) GP.ok
theorem zyK:CT 446 (cA [gA] [gA] (λx=>some (ZL x))):=eD 14 pn func446 (jr [jq 1 9 4 8]) Jx (by kernel_rfl) SM.ok
theorem zxY:CT 447 (cA [gA,gA] [gA] (λx=>some (KF x.1 x.2))):=eD 9 pn func447 a0 (u2 Rr) (by kernel_rfl) zbz.ok
theorem zyC:CT 443 (cA [oE,lA] [oE] (λx=>HK x.1 x.2)):=eC 151 (lD zgH zzd zmc zyK zxY) func443 (jm [jk 0 [pA 7 gA,pA 8 gA,pA 9 gA,pA 10 gA,pA 11 gA,pA 12 gA,pA 13 gA,pA 14 gA] [(15,19),(60,124)],jk 2 [rA 5 .int] [(20,21),(135,149)]] [jk 7 [pA 7 gA,pA 8 gA,pA 9 gA,pA 10 gA,pA 11 gA,pA 12 gA,pA 13 gA,pA 14 gA,pA 15 gA] [(16,19),(60,124)],jk 16 [pA 135 gA,rA 5 .int] [(20,21),(136,149)]] [jq 2 32 25 31]) (u2 Mm) (by kernel_rfl) AP.ok
theorem zmE:CT 439 (cN [oE,lA] [oE,lA] (λx=>XS x.1 x.2)):=eC 17 (OA zyC) func439 (jl [jk 0 [pA 0 oE,pA 1 lA] [(6,14)]] [jk 1 [pA 0 oE,pA 1 lA] [(6,14)]]) (u2 Mn) (by kernel_rfl) LO.ok
theorem zxp:CT 433 (cA [XU,lA] [XU] (λx=>zcy x.1 x.2)):=eC 50 (cC wC nJ zmZ zmE) func433 (jr [jq 1 17 7 16]) (u2 Mo) (by kernel_rfl) BQ.ok
theorem zw6:CT 440 (cA [gA] [lA] (λx=>FM x)):=eC 25 (uB VB iK) func440 (jl [jk 0 [rA 3 .byte] [(8,17)]] [jk 4 [rA 3 .byte] [(8,17)]]) Mp (by kernel_rfl) iS.ok
theorem zwL:CT 441 (cA [oE] [lA] (λx=>BK x)):=eC 18 (OA iK) func441 (jl [jk 0 [rA 3 .byte] [(5,5),(9,16)]] [jk 3 [rA 3 .byte,pA 9 gA] [(5,5),(10,16)]]) Mq (by kernel_rfl) rP.ok
theorem zwZ:CT 432 (cA [XU] [lA] (λx=>zcj x)):=eC 23 (lD nJ zmZ zmE zw6 zwL) func432 a0 Mr (by kernel_rfl) XP.ok
theorem zmJ:CT 412 (cA [lA] [lA] (λx=>some (FE x))):=eD 10 (DB zwZ zxp zyG) func412 a0 Ms (by kernel_rfl) sS.ok
theorem zwR:CT 411 (cA [lA] [lA] (λx=>some (dE x))):=eD 21 (uB wC zmJ) func411 ⟨[jk 720902 [rA 3 .byte] [(12,13)]],[jk 0 [rA 3 .byte] [(14,19)]],[jk 6 [rA 3 .byte] [(14,19)]],[],[]⟩ Mt (by kernel_rfl) xP.ok
theorem zyX:CT 413 (cA [lA, .v .byte] [lA] (λx=>mV x.1 x.2)):=eC 23 pn func413 (jl [jk 0 [rA 5 .byte] [(7,7),(11,21)]] [jk 3 [rA 5 .byte,pA 11 gA] [(7,7),(12,21)]]) (u2 Mu) (by kernel_rfl) IQ.ok
theorem zaf:CT 355 (cA [lA,lA] [lA] (λx=>some (VC x.1 x.2))):=eD 27 (cC nJ zwR zmJ zyX) func355 (jr [jq 1 13 6 12]) (u2 Mv) (by kernel_rfl) bS.ok
theorem zzk:CT 357 (cA [lA,gA] [lA] (λx=>some (xD x.1 x.2))):=eD 22 (cC VB wC iK zaf) func357 (jr [jq 1 13 5 12]) (u2 Mw) (by kernel_rfl) RQ.ok
theorem zmW:CT 275 (cA [XH] [XH,lA] (λx=>zE x)):=eC 30 (DB c38 wC zzk) func275 (jr [jq 2 18 11 17]) Pf (by kernel_rfl) OU.ok
theorem zxO:CT 358 (cA [lA,OB] [lA] (u2 Ht)):=eR 17 (DB LG wC iK) func358 a0 (by kernel_rfl)
theorem zgZ:CT 277 (cA [OB,gA,lA,lA,gA] [lA] (u5 Er)):=eR 46 (EE VB LG oI nJ iK zxO) func277 (jr [jq 1 33 11 32]) (by kernel_rfl)
theorem zdO:CT 272 (cA [lA,lA] [lA] (u2 Ca)):=eR 15 (uB wC zaf) func272 a0 (by kernel_rfl)
theorem zm5:CT 276 (cA [oM,OB,gA,lA,lA,gA] [lA] (u6 Fz)):=eR 32 (DB c85 zdO zgZ) func276 (jr [jq 2 27 20 26]) (by kernel_rfl)
theorem zgL:CT 106 (cA [lA,lA] [YE] (u2 Eq)):=eR 10 (OA wC) func106 a0 (by kernel_rfl)
theorem zmw:CT 278 (cA [lA] [YE] (λx=>vE x)):=eC 6 (OA wC) func278 a0 Pj (by kernel_rfl) KT.ok
theorem zx9:CT 185 (cE [fD,gA,OB,vB] [fD,gG,SC] (u4 Km) [7,8]):=eR 82 (OF wC zgL zml zmW zm5 zgZ zmw) func185 (jr [jq 1 33 16 32]) (by kernel_rfl)
theorem zyg:CT 359 (cA [gA,gA] [yA] (u2 Cq)):=eR 17 (OA VB) func359 (jr [jq 1 4 5 16]) (by kernel_rfl)
theorem zl9:CT 374 (cA [lA,lA] [gA] (u2 Bp)):=eR 31 pn func374 (jl [jk 0 [pA 5 gA] [(6,6),(14,29)]] [jk 5 [pA 5 gA,pA 14 gA] [(6,6),(15,29)]]) (by kernel_rfl)
theorem zgs:CT 360 (cA [lA,lA] [yA] (u2 Bn)):=eR 14 (OA zl9) func360 (jr [jq 1 4 5 13]) (by kernel_rfl)
theorem zyt:CT 279 (cA [oM,gA,OB,vB] [gA] (u4 Hu)):=eR 52 (OF VB LG c85 jJ zm5 zyg zgs) func279 (jr [jq 1 31 9 30]) (by kernel_rfl)
theorem zmx:CT 364 (cA [lA,lA] [lA] (u2 By)):=eR 8 (OA zaf) func364 a0 (by kernel_rfl)
theorem zwA:CT 414 (cA [lA,lA,gA] [lA,yA] (λx=>some (VG x.1 x.2.1 x.2.2))):=eD 48 (cC VB wC nJ zaf) func414 (jm [jk 0 [rA 8 .byte,rA 9 .byte] [(10,10),(26,43)]] [jk 6 [rA 8 .byte,rA 9 .byte,pA 10 gA] [(26,43)]] [jq 1 23 11 22]) (u3 Nj) (by kernel_rfl) QQ.ok
theorem zdN:CT 363 (cA [lA, .v .str] [lA] (λx=>GE x.1 x.2)):=eC 15 (OA zwA) func363 a0 (u2 Pi) (by kernel_rfl) wU.ok
theorem zgq:CT 284 (cA [lA] [lA] Bh):=eR 11 (DB c87 zdN zmx) func284 a0 (by kernel_rfl)
theorem zg2:CT 285 (cA [gA,lA,lA,gA,lA] [lA] (u5 Cy)):=eR 44 (cC VB oI nJ iK) func285 (jr [jq 1 33 11 32]) (by kernel_rfl)
theorem zmr:CT 361 (cA [lA,gA,lA,lA,gA,lA] [lA] (u6 Dn)):=eR 34 (DB zdO zgq zg2) func361 (jr [jq 3 30 23 29]) (by kernel_rfl)
theorem zyA:CT 280 (cA [lA,vB] [yA] (u2 Hv)):=eR 29 (DB jJ zgs zmr) func280 (jr [jq 1 4 5 28]) (by kernel_rfl)
theorem zxg:CT 362 (cA [OB] [KD] Ce):=eR 5 pn func362 a0 (by kernel_rfl)
theorem zyo:CT 372 (cA [lA,lA,lA] [lA] (u3 Hw)):=eR 26 (cC c87 oI nJ zmx) func372 (jr [jq 1 19 7 18]) (by kernel_rfl)
theorem zxN:CT 371 (cA [lA] [lA] Cs):=eR 8 (OA zdN) func371 a0 (by kernel_rfl)
theorem zyf:CT 373 (cA [lA,gA] [lA] (u2 Hx)):=eR 20 (DB VB wC zdN) func373 (jl [jk 0 [rA 5 .byte] [(6,6),(12,18)]] [jk 5 [rA 5 .byte,pA 6 gA] [(12,18)]]) (by kernel_rfl)
theorem zmB:CT 293 (cA [lA,lA,lA,gA] [lA] (u4 Ga)):=eR 21 (DB zxN zyo zyf) func293 a0 (by kernel_rfl)
theorem zyw:CT 416 (cA [] [ME] (λ_=>Kn)):=eR 3 pn func416 a0 (by kernel_rfl)
theorem zg5:CT 370 (cA [gA,lA] [fE] (u2 Cz)):=eR 19 (DB VB wC zyw) func370 (jr [jq 1 12 5 11]) (by kernel_rfl)
theorem zmF:CT 292 (cA [gA,lA,lA] [ZB] (u3 Gb)):=eR 27 (cC wC oI GV zg5) func292 (jr [jq 1 19 7 18]) (by kernel_rfl)
theorem zxX:CT 281 (cA [lA,gA,OB,vB] [NC] (u4 Es)):=eR 59 (pL VB LG wC c87 jJ zmF zmB zxg) func281 (jr [jq 1 32 10 31]) (by kernel_rfl)
theorem zw9:CT 282 (cA [QD,NC] [QD,gA] (u2 Bi)):=eR 51 (EE FO c86 zme PS zdK tO) func282 (jr [jq 2 9 10 21,jq 6 30 31 41]) (by kernel_rfl)
theorem zgu:CT 283 (cA [lA,lA,lA] [YE] (u3 Do)):=eR 14 (OA wC) func283 a0 (by kernel_rfl)
theorem zgv:CT 343 (cA [gA] [lA] Bk):=eR 8 (uB VB iK) func343 a0 (by kernel_rfl)
theorem zgo:CT 180 (cA [gA,lA,gA,gA] [lA] (u4 Em)):=eR 37 (lD VB oI nJ iK GV) func180 (jr [jq 1 26 9 25]) (by kernel_rfl)
theorem zwI:CT 410 (cA [lA,lA,gA] [lA] (u3 Hq)):=eR 23 (cC VB nJ iK zaf) func410 (jr [jq 1 14 7 13]) (by kernel_rfl)
theorem zx1:CT 354 (cA [lA,lA,gA] [lA] (u3 Hr)):=eR 39 (DB VB wC zwI) func354 (jm [jk 0 [rA 7 .byte] [(8,8),(23,34)]] [jk 5 [rA 7 .byte,pA 8 gA] [(23,34)]] [jq 1 21 9 20]) (by kernel_rfl)
theorem zm9:CT 271 (cA [lA,lA,lA] [lA] (u3 En)):=eR 46 (OA zx1) func271 (jm [jk 0 [rA 7 .byte] [(8,9),(30,44)]] [jk 5 [rA 7 .byte,pA 30 gA] [(8,9),(31,44)]] [jq 1 22 10 21]) (by kernel_rfl)
theorem TS:CT 107 (cA [gA,vB] [lA] (u2 Cg)):=eR 36 (lD jJ nJ GV wO zgo) func107 (jr [jq 1 18 5 17]) (by kernel_rfl)
theorem zyQ:CT 178 (cE [lA,gA,lA,gA,gA,gA,lA] [vB,yA] (u7 Dl) [2,5,6,9,10]):=eR 61 (pL wC TS jJ GV wO zgo zm9 zdO) func178 (jr [(2,⟨[pA 43 yA],[(26,42)],[19,23,24]⟩)]) (by kernel_rfl)
theorem zyy:CT 105 (cE [fE,gA,lA,gA,lA] [fE,vB,gA] (u5 Eo) [1,4,7,10,11,14,15]):=eR 75 (DB zdF zgC zyQ) func105 (jr [jq 7 47 41 46]) (by kernel_rfl)
theorem c50:CT 50 (cE [ZB,gA,lA] [ZB,vB,gA] (u3 Br) [1,3,6,8,11,14,17,20,21,24,25]):=eR 38 (DB oJ mL zyy) func50 a0 (by kernel_rfl)
theorem znh:CT 365 (cE [ZB] [ZB,vB,gA] Gc [1,3,6,8,11,14,17,20,21,24,25]):=eR 25 (cC c50 oJ mL zgv) func365 (jr [jq 1 12 5 11]) (by kernel_rfl)
theorem c52:CT 52 (cA [ZB,vB] [YE] (u2 Bs)):=eR 13 (uB zgL TS) func52 a0 (by kernel_rfl)
theorem zwz:CT 286 (cA [NC] [NC,gG,SC] Et):=eR 49 (cC c52 PS tO znh) func286 ⟨[],[],[],[jq 2 24 11 23],[(8,[1000007])]⟩ (by kernel_rfl)
theorem zms:CT 287 (cA [QD,gA,NC] [QD,yA] (u3 Bt)):=eR 38 (DB c86 zdK tO) func287 (jr [jq 2 24 11 23]) (by kernel_rfl)
theorem zyM:CT 186 (cE [fD,gA,OB,vB] [fD,gG,SC] (u4 Ko) [7,8]):=eR 181 (KE FO nI wC zgZ zyt zyA zxX zw9 (lD zgu zgq zg2 zwz zms)) func186 (jn [jk 3604486 [rA 11 .Note,fA 8 .Server [0,1,2,5,6],fA 4 .Server []] [(9,10),(12,15),(56,130)]] [jq 1 47 21 46,jq 14 158 142 157]) (by kernel_rfl)
theorem zyN:CT 436 (cA [ME,gA] [yA] (u2 Cj)):=eR 31 (DB VB zlZ zmh) func436 (jr [jq 1 12 5 11,jq 3 4 13 30]) (by kernel_rfl)
theorem zxL:CT 417 (cA [ME,gA] [ME,yA] (u2 Da)):=eR 57 (uB zmn zyN) func417 (jl [jk 0 [fA 6 .Win [1]] [(7,7),(22,38)]] [jk 5 [pA 7 gA,fA 6 .Win [1]] [(22,38)]]) (by kernel_rfl)
theorem zwE:CT 418 (cA [lA,gA,vB] [lA,yA] (u3 Hy)):=eR 41 (lD TS zgo zm9 zdO zgs) func418 (jr [(2,⟨[pA 28 yA],[(12,27)],[8]⟩)]) (by kernel_rfl)
theorem zxf:CT 375 (cA [fE,gA,vB] [fE,lA,gA] (u3 Eu)):=eR 59 (lD TS zdF zgC zxL zwE) func375 (jr [jq 2 31 15 30]) (by kernel_rfl)
theorem zmG:CT 294 (cE [ZB,gA,vB] [ZB,lA,gA] (u3 Db) [1,14,15]):=eR 157 (pL VB oJ mL jJ wO zg5 zl9 zxf) func294 (jn [jk 6684686 [fA 13 .Ep []] [(103,104)],jk 6881296 [fA 13 .Ep []] [(106,112)],(8978455,⟨[fA 9 .Chan [1,14]],[(127,136),(139,154)],[1000014]⟩),jk 9633817 [fA 9 .Chan [1,8,11,14]] [(148,150)],jk 9895963 [fA 9 .Chan [1,14]] [(127,136),(153,154)]] [jq 2 37 19 36,jq 5 11 45 54,jq 6 12 55 67,jq 7 85 68 84,jq 9 98 87 97,jq 23 147 141 146]) (by kernel_rfl)
theorem znf:CT 295 (cA [ZB,gA] [lA,yA] (u2 Gd)):=eR 50 (uB wC oJ) func295 (jr [jq 3 10 11 19,jq 7 34 35 46]) (by kernel_rfl)
theorem c35:CT 35 (cA [KD,OB] [gA] (λx=>MI x.1 x.2)):=eC 21 pn func35 (jl [jk 0 [] [(4,6),(10,20)]] [jk 2 [pA 10 gA] [(4,6),(11,20)]]) (u2 Me) (by kernel_rfl) MQ.ok
theorem zye:CT 366 (cA [KD,gA,OB,lA] [KD,yA] (u4 Ge)):=eR 65 (lD VB c35 nI zdV FV) func366 (jr [jq 3 49 17 48]) (by kernel_rfl)
theorem zym:CT 435 (cA [ZB] [ZB,yA] Hz):=eR 38 (cC oJ mL zdN zg5) func435 (jr [jq 2 20 7 19]) (by kernel_rfl)
theorem zxx:CT 415 (cA [ZB,gA,lA] [ZB,gA] (u3 Ia)):=eR 58 (EE VB nI oJ mL zgv zym) func415 (jr [jq 2 33 13 32,jq 7 55 47 54]) (by kernel_rfl)
theorem zw8:CT 367 (cE [NC,gA,lA] [NC,gG,SC] (u3 Kp) [24,25]):=eR 75 (cC wC c52 znh zxx) func367 ⟨[(2162695,⟨[rA 11 .Note],[(34,47)],[1000009]⟩)],[],[],[],[(12,[1000013])]⟩ (by kernel_rfl)
theorem zmL:CT 404 (cA [KD,gA] [KD] (u2 Dp)):=eR 31 (OA FV) func404 ⟨[jk 1441799 [fA 5 .Paths [2]] [(23,28)]],[jk 0 [fA 5 .Paths [2]] [(7,7),(15,29)]],[jk 3 [pA 15 gA,fA 5 .Paths [2]] [(7,7),(16,29)]],[],[]⟩ (by kernel_rfl)
theorem zzs:CT 368 (cA [KD,gA,OB,lA] [KD,yA] (u4 Gf)):=eR 64 (pL VB LG c35 wC oI zdV FV zmL) func368 (jr [jq 1 34 11 33,jq 4 49 40 48]) (by kernel_rfl)
theorem zxQ:CT 288 (cE [NC,gA,OB,vB,lA] [NC,gG,SC,yA] (u5 Gg) [24,25]):=eR 180 (KE LG c50 wC c52 TS PS tO zgu (lD zmG znf zye zw8 zzs)) func288 (jn [(5242894,⟨[rA 20 .Note,rA 21 .Out,fA 14 .Sess []],[(22,26),(82,136)],[16]⟩),jk 6225936 [rA 20 .Note,rA 21 .Out,fA 14 .Sess []] [(22,26),(97,136)],(6946834,⟨[rA 20 .Note,fA 14 .Sess [1,2,4,17]],[(107,118)],[1000022]⟩),jk 7798805 [rA 20 .Note,rA 21 .Out,fA 14 .Sess []] [(24,26),(121,136)]] [jq 2 44 33 43,jq 26 159 154 158]) (by kernel_rfl)
theorem zzn:CT 187 (cE [fD,gA,OB,vB] [fD,gG,SC] (u4 Kq) [7,8]):=eR 93 (OF FO wC zml zmW zmw zms zxQ) func187 (jn [jk 2949127 [rA 13 .byte] [],(4653067,⟨[rA 16 .Note,fA 4 .Server [5]],[(18,18),(72,89)],[1000012]⟩)] [jq 2 34 24 33]) (by kernel_rfl)
theorem zwy:CT 190 (cA [vB] [gA] Dq):=eR 6 (OA c58) func190 a0 (by kernel_rfl)
theorem zzh:CT 189 (cA [UE,OB,gA] [UE,yA] (u3 Dr)):=eR 41 (lD VB c83 c84 zg0 znr) func189 (jr [jq 3 29 15 28]) (by kernel_rfl)
theorem zwJ:CT 111 (cE [fD,gA,OB,lA] [fD,gG,SC] (u4 Ib) [7,8]):=eR 129 (KE VB LG c37 zgy zmH wO zxV zx9 (lD zyM zzn zmC zzh zwy)) func111 ⟨[jk 3342346 [rA 14 .Out,rA 15 .Note,fA 11 .Server []] [(54,92)],jk 3538955 [rA 14 .Out,rA 15 .Note,fA 11 .Server []] [(58,92)],jk 4390925 [rA 14 .Out,rA 15 .Note,fA 11 .Server []] [(71,92)],jk 5242895 [rA 14 .Out,rA 15 .Note,fA 11 .Server []] [(84,92)],jk 6881301 [fA 11 .Server []] [(19,20),(106,120)]],[jk 1 [rA 16 .Out,fA 11 .Server []] [(18,20),(96,125)],jk 2 [rA 16 .Out,fA 11 .Server []] [(18,20),(98,124)]],[jk 17 [rA 16 .Out,pA 96 gA,fA 11 .Server []] [(18,20),(97,125)]],[jq 2 35 23 34],[]⟩ (by kernel_rfl)
theorem c14:CT 14 (cA [OB,OB,vB] [QN] (u3 Fw)):=eR 12 (OA c58) func14 a0 (by kernel_rfl)
theorem zwx:CT 112 (cA [gG] [aE] Ic):=eR 24 (uB c14 c15) func112 (jl [jk 0 [rA 3 .Wire] [(5,5),(9,22)]] [jk 3 [rA 3 .Wire,pA 9 gA] [(5,5),(10,22)]]) (by kernel_rfl)
theorem zxC:CT 291 (cA [lA,gA,vB] [vB,yA] (u3 Ev)):=eR 47 (DB wC jJ zmr) func291 (jr [jq 1 16 9 15]) (by kernel_rfl)
theorem zl7:CT 242 (cA [gA] [UH] Bf):=eR 10 (OA VB) func242 a0 (by kernel_rfl)
theorem zw5:CT 193 (cA [oC,gA,vB] [oC,oH,SC] (u3 Kr)):=eR 77 (KE fT wC zgU zgL zl7 zgq zg2 zxC (uB zmF zmB)) func193 a0 (by kernel_rfl)
theorem zwU:CT 194 (cE [oC,gA,vB] [oC,oH,SC] (u3 Ks) [1,5,8,9,11,12,15,16,41,42]):=eR 152 (pL fT c50 wC c52 TS zgu zmG znf) func194 ⟨[(3538954,⟨[rA 15 .Note,fA 9 .Client [1,5,8,9,11,12,15,16]],[(55,76)],[1000010]⟩),jk 5505037 [rA 15 .Note,fA 9 .Client [1,5,8,9,11,12,15,16]] [(85,100)],(6750224,⟨[rA 15 .Note],[(104,116)],[11]⟩)],[],[],[],[(23,[1000017])]⟩ (by kernel_rfl)
theorem zx4:CT 114 (cE [oC,gA,vB] [oC,oH,SC] (u3 Ie) [1,5,8,9,11,12,15,16,41,42]):=eR 68 (pL VB c40 nI fT jJ wO zw5 zwU) func114 (jr [jq 1 21 9 20,jq 3 38 24 37,jq 5 58 46 57]) (by kernel_rfl)
theorem c75:CT 75 (cA [oC,oH] [aE] (u2 Fx)):=eR 25 (uB c14 c15) func75 (jl [jk 0 [rA 5 .Wire] [(7,7),(11,23)]] [jk 3 [rA 5 .Wire,pA 11 gA] [(7,7),(12,23)]]) (by kernel_rfl)
theorem c57:CT 57 (cE [RC,gA,OB,lA] [RC,aE] (u4 Gh) [1,9,11,12,13,14]):=eR 95 (KE c9 VB LG gT c75 zwJ zwx zmH (OA zx4)) func57 (jr [jq 2 33 21 32]) (by kernel_rfl)
theorem c77:CT 77 (cA [aE,QN] [aE] (u2 Ij)):=eR 19 (uB c39 c55) func77 a0 (by kernel_rfl)
theorem c26:CT 26 (cA [RC,aE] [RC] (u2 Ck)):=eR 23 (uB gT c77) func26 (jl [jk 0 [fA 5 .World [1,2,3,4,7,8,9,11,12,13]] [(7,7),(12,21)]] [jk 3 [pA 12 gA,fA 5 .World [1,2,3,4,7,8,9,11,12,13]] [(7,7),(13,21)]]) (by kernel_rfl)
theorem dT:CT 13 (cA [RC,aE] [RC] (u2 Dd)):=eR 74 (OF c9 c26 gT c54 c55 c56 c57) func13 (jm [jk 0 [fA 4 .World [1,2,3,4,7,8,9,11,12,13]] [(7,7),(21,29)],jk 2 [rA 8 .Wire,fA 5 .World [1,2,3,4,7,8,9,11,12,13]] [(9,12),(32,72)],jk 3 [rA 8 .Wire,fA 5 .World [1,2,3,4,7,8,9,11,12,13]] [(10,12),(42,72)]] [jk 5 [pA 21 gA,fA 4 .World [1,2,3,4,7,8,9,11,12,13]] [(7,7),(22,29)],jk 12 [rA 8 .Wire,pA 9 gA,fA 5 .World [1,2,3,4,7,8,9,11,12,13]] [(10,12),(32,72)]] [jq 12 39 32 38]) (by kernel_rfl)
theorem c20:CT 20 (cE [lA] [RC] Jv [1,11,12,13]):=eR 19 (cC c28 c59 NG GD) func20 (jc [jk 655365 [fA 3 .Cur [],fA 4 .World [1,11,12,13]] [(11,17)]]) (by kernel_rfl)
theorem zmU:CT 147 (cA [oC] [oC] Dm):=eR 11 (OA wC) func147 a0 (by kernel_rfl)
theorem zmj:CT 150 (cA [gA,gA,lA] [YE] (u3 Ch)):=eR 12 (OA wC) func150 a0 (by kernel_rfl)
theorem zni:CT 241 (cA [ZB,gA] [ZB] (u2 Bv)):=eR 34 (DB VB oJ mL) func241 (jn [jk 1835012 [fA 5 .Chan [1,3,6,8,11,14]] [(29,32)]] [jq 2 28 8 27]) (by kernel_rfl)
theorem zzb:CT 244 (cA [UH,gA] [yA] (u2 Co)):=eR 21 (uB VB c91) func244 (jr [jq 1 4 5 20]) (by kernel_rfl)
theorem znq:CT 146 (cA [UH,gA] [UH,gA] (u2 Dt)):=eR 28 (OA zzb) func146 a0 (by kernel_rfl)
theorem zzg:CT 243 (cE [ZB] [ZB,vB,gA] Fv [1,3,6,8,11,14,17,20,21,24,25]):=eR 27 (cC c50 oJ mL zgv) func243 (jr [jq 1 13 5 12]) (by kernel_rfl)
theorem zyH:CT 145 (cE [oC,gA] [oC,oH,SC] (u2 Kt) [1,5,8,9,11,12,15,16,41,42]):=eR 70 (pL fT c52 znq zmU zmj zni zl7 zzg) func145 ⟨[jk 3080203 [fA 7 .Client [1,5,8,9,11,12,15,16,18,20,23,25,28,31]] [(48,50)]],[],[],[],[(15,[1000011])]⟩ (by kernel_rfl)
theorem zwD:CT 148 (cA [oC] [vB] Fu):=eR 9 (OA wC) func148 a0 (by kernel_rfl)
theorem c74:CT 74 (cE [oC,gA] [oC,oH,SC] (u2 If) [1,5,8,9,11,12,15,16,41,42]):=eR 77 (KE VB c40 fT wC zgU zyH znq zmU (OA zwD)) func74 (jr [jq 2 24 12 23,jq 10 56 57 63]) (by kernel_rfl)
theorem zyW:CT 344 (cA [NC] [NC] Ew):=eR 19 (DB wC PS tO) func344 a0 (by kernel_rfl)
theorem zzi:CT 345 (cA [KD,gA] [KD] (u2 Dc)):=eR 18 (cC VB zdV FV zmL) func345 (jr [jq 1 12 5 11]) (by kernel_rfl)
theorem zzp:CT 245 (cA [NC,gA] [NC] (u2 Ig)):=eR 39 (EE VB PS zni tO zyW zzi) func245 (jr [jq 2 19 8 18]) (by kernel_rfl)
theorem zyv:CT 149 (cA [QD,gA] [QD] (u2 Ih)):=eR 49 (cC VB c86 zdK zzp) func149 ⟨[(2621450,⟨[fA 5 .Tab [1]],[(41,46)],[1000007]⟩)],[jk 0 [fA 5 .Tab [1]] [(7,7),(24,47)]],[jk 5 [pA 24 gA,fA 5 .Tab [1]] [(7,7),(25,47)]],[jq 1 15 8 14,jq 8 40 31 39],[]⟩ (by kernel_rfl)
theorem c76:CT 76 (cE [fD,gA] [fD,SC] (u2 Ii) [7]):=eR 68 (EE FO VB c37 zgy zyv zmj) func76 ⟨[jk 3670028 [rA 7 .Note] [(57,64)]],[(0,⟨[rA 7 .Note],[(9,10),(32,65)],[1000006]⟩)],[jk 7 [rA 7 .Note,pA 32 gA] [(9,10),(33,65)]],[jq 2 20 13 19,jq 10 56 41 55],[]⟩ (by kernel_rfl)
theorem c25:CT 25 (cE [RC] [RC,aE] Du [1,9,11,12,13,14]):=eR 79 (lD c9 gT c74 c75 c76) func25 (jm [jk 0 [rA 5 .Wire,fA 4 .World [1,2,3,4,7,8,9,11,12,13]] [(6,9),(31,61)]] [jk 7 [rA 5 .Wire,pA 31 gA,fA 4 .World [1,2,3,4,7,8,9,11,12,13]] [(6,9),(32,61)]] [jq 2 21 14 20]) (by kernel_rfl)
theorem c21:CT 21 (cA [RC] [RC] De):=eR 25 (lD c9 dT c25 c26 gT) func21 (jr [jq 1 12 5 11]) (by kernel_rfl)
theorem c69:CT 69 (cA [QN] [yA] (λx=>some (LC x))):=eD 17 (OA OG) func69 (jr [jq 1 2 3 16]) Rh (by kernel_rfl) za4.ok
theorem zyB:CT 137 (cA [aE] [yA] (λx=>some (WD x))):=eD 19 (OA c69) func137 (jl [jk 0 [] [(2,15)]] [jk 2 [pA 3 gA] [(2,2),(4,15)]]) Ri (by kernel_rfl) zaz.ok
theorem zzo:CT 228 (cA [gA,gA] [yA] (λx=>some (CE x.1 x.2))):=eD 12 pn func228 (jr [jq 1 4 5 11]) (u2 Pa) (by kernel_rfl) nU.ok
theorem zy8:CT 139 (cA [YE] [yA] (λx=>some (tC x))):=eD 60 (DB OG zB zzo) func139 (jr [jq 1 2 3 59]) Lc (by kernel_rfl) cR.ok
theorem c68:CT 68 (cA [RC] [yA] (λx=>bE x)):=eC 113 (OF zB qL IM zdL zyB HM zy8) func68 (jm [jk 0 [] [(2,3),(47,84)],jk 2 [] [(2,2),(4,4),(85,98)],jk 4 [] [(2,2),(5,5),(99,112)]] [jk 4 [pA 3 gA] [(2,2),(47,84)],jk 9 [pA 4 gA] [(2,2),(85,98)],jk 14 [pA 5 gA] [(2,2),(99,112)]] [jq 1 46 6 45,jq 6 84 51 83]) Ma (by kernel_rfl) cQ.ok
theorem c70:CT 70 (kB [.ptr [1,11,12,13], .ms] [dG,aE] [dG] (u2 Ik) [] [1,11,12,13] false):=eR 49 (cC c71 c73 zl5 zmS) func70 (jm [jk 0 [rA 1 .Wire,fA 0 .World [1,11,12,13]] [(4,48)],jk 1 [rA 1 .Wire,fA 0 .World [1,11,12,13]] [(5,6),(17,48)]] [jk 1 [rA 1 .Wire,pA 4 gA,fA 0 .World [1,11,12,13]] [(5,48)]] [jq 1 14 7 13]) (by kernel_rfl)
theorem c23:CT 23 (cE [RC,aE] [RC] (u2 Ku) [1,11,12,13]):=eR 30 (lD c67 c68 c69 c70 c71) func23 (jl [jk 0 [fA 4 .World [1,2,3,4,7,8,9,11,12,13]] [(6,6),(13,25)]] [jk 5 [pA 6 gA,fA 4 .World [1,2,3,4,7,8,9,11,12,13]] [(13,25)]]) (by kernel_rfl)
theorem rJ:CT 17 (cA [lA,lA] [yA] (λx=>(λ(a0:List UInt8) (a1:List UInt8)=>gB a0 a1) x.1 x.2)):=eC 10 pn func17 a0 (u2 Nl) (by kernel_rfl) TR.ok
theorem zxn:CT 386 (cA [oE,oE] [yA] (λx=>(λ(a0:List Int) (a1:List Int)=>gB a0 a1) x.1 x.2)):=eC 26 pn func386 (jl [jk 0 [] [(4,5),(11,25)]] [jk 4 [pA 5 gA] [(4,4),(11,25)]]) (u2 Nm) (by kernel_rfl) vP.ok
theorem zyR:CT 315 (cA [ME,ME] [yA] (λx=>(λ(a0:Ap) (a1:Ap)=>gB a0 a1) x.1 x.2)):=eC 17 (OA zxn) func315 (jr [jq 1 4 5 16]) (u2 Nn) (by kernel_rfl) RP.ok
theorem zxj:CT 215 (cA [fE,fE] [yA] (λx=>(λ(a0:Aw) (a1:Aw)=>gB a0 a1) x.1 x.2)):=eC 31 (uB rJ zyR) func215 (jr [jq 1 4 5 30]) (u2 No) (by kernel_rfl) NQ.ok
theorem zm1:CT 130 (cA [ZB,ZB] [yA] (λx=>(λ(a0:Ak) (a1:Ak)=>gB a0 a1) x.1 x.2)):=eC 52 (uB rJ zxj) func130 (jr [jq 1 4 5 51]) (u2 Np) (by kernel_rfl) DP.ok
theorem zw1:CT 314 (cA [KD,KD] [yA] (λx=>(λ(a0:Aj) (a1:Aj)=>gB a0 a1) x.1 x.2)):=eC 71 (OA rJ) func314 (jm [jk 0 [] [(4,5),(20,70)]] [jk 4 [pA 5 gA] [(4,4),(20,70)]] [jq 1 19 6 18,jq 6 70 27 69]) (u2 Nq) (by kernel_rfl) iP.ok
theorem zza:CT 214 (cA [NC,NC] [yA] (λx=>(λ(a0:Ah) (a1:Ah)=>gB a0 a1) x.1 x.2)):=eC 59 (DB rJ zm1 zw1) func214 (jr [jq 1 4 5 58]) (u2 Nr) (by kernel_rfl) KP.ok
theorem zxc:CT 126 (cA [QD,QD] [yA] (λx=>(λ(a0:Ao) (a1:Ao)=>gB a0 a1) x.1 x.2)):=eC 39 (OA zza) func126 (jm [jk 0 [] [(4,5),(20,38)]] [jk 4 [pA 5 gA] [(4,4),(20,38)]] [jq 1 19 6 18]) (u2 Ns) (by kernel_rfl) PP.ok
theorem zy1:CT 127 (cA [UE,UE] [yA] (λx=>(λ(a0:List Al) (a1:List Al)=>gB a0 a1) x.1 x.2)):=eC 26 pn func127 (jl [jk 0 [] [(4,5),(11,25)]] [jk 4 [pA 5 gA] [(4,4),(11,25)]]) (u2 Nt) (by kernel_rfl) KO.ok
theorem c63:CT 63 (cA [fD,fD] [yA] (λx=>(λ(a0:Ac) (a1:Ac)=>gB a0 a1) x.1 x.2)):=eC 77 (DB rJ zxc zy1) func63 (jm [jk 0 [] [(4,5),(58,76)]] [jk 4 [pA 5 gA] [(4,4),(58,76)]] [jq 1 57 6 56]) (u2 Nu) (by kernel_rfl) OO.ok
theorem c64:CT 64 (cA [aE,aE] [yA] (λx=>(λ(a0:List Am) (a1:List Am)=>gB a0 a1) x.1 x.2)):=eC 55 (OA rJ) func64 (jm [jk 0 [] [(4,5),(11,54)]] [jk 4 [pA 5 gA] [(4,4),(11,54)]] [jq 6 54 17 53]) (u2 Nv) (by kernel_rfl) mP.ok
theorem zxJ:CT 128 (cA [YE,YE] [yA] (λx=>(λ(a0:Ae) (a1:Ae)=>gB a0 a1) x.1 x.2)):=eC 80 (OA nI) func128 (jr [jq 1 4 5 79]) (u2 Nw) (by kernel_rfl) MP.ok
theorem c65:CT 65 (cA [SC,SC] [yA] (λx=>(λ(a0:List Ae) (a1:List Ae)=>gB a0 a1) x.1 x.2)):=eC 27 (OA zxJ) func65 (jl [jk 0 [] [(4,5),(11,26)]] [jk 4 [pA 5 gA] [(4,4),(11,26)]]) (u2 Nx) (by kernel_rfl) nP.ok
theorem zwW:CT 129 (cA [vB,vB] [yA] (λx=>(λ(a0:Aa) (a1:Aa)=>gB a0 a1) x.1 x.2)):=eC 80 (OA rJ) func129 (jr [jq 1 4 5 79]) (u2 Ny) (by kernel_rfl) kP.ok
theorem c66:CT 66 (cA [oC,oC] [yA] (λx=>(λ(a0:Ad) (a1:Ad)=>gB a0 a1) x.1 x.2)):=eC 73 (DB rJ zwW zm1) func66 (jr [jq 1 4 5 72]) (u2 Nz) (by kernel_rfl) bP.ok
theorem c22:CT 22 (cA [RC,RC] [yA] (λx=>(λ(a0:Ab) (a1:Ab)=>gB a0 a1) x.1 x.2)):=eC 111 (lD rJ c63 c64 c65 c66) func22 (jm [jk 0 [] [(4,5),(73,91)],jk 2 [] [(4,4),(6,6),(92,110)]] [jk 4 [pA 5 gA] [(4,4),(73,91)],jk 9 [pA 6 gA] [(4,4),(92,110)]] [jq 1 72 7 71]) (u2 Oa) (by kernel_rfl) gP.ok
theorem c24:CT 24 (cE [RC] [RC] Il [1,11,12,13]):=eR 24 (EE c67 c68 c70 c71 c72 c73) func24 (jr [jq 2 14 7 13]) (by kernel_rfl)
theorem c27:CT 27 (cA [RC,gA] [RC] (u2 Jt)):=eR 21 (DB c21 VB gT) func27 (jl [jk 0 [fA 5 .World [1,2,3,4,7,8,9,11,12,13]] [(6,6),(13,19)]] [jk 5 [pA 6 gA,fA 5 .World [1,2,3,4,7,8,9,11,12,13]] [(13,19)]]) (by kernel_rfl)
theorem c4:CT 4 (cA [lA] [yA] (λx=>some ((λ(a0:List UInt8)=>zlv a0) x))):=eD 79 (KE c5 c9 dT c19 c20 c21 c22 c23 (cC c24 c25 c26 c27)) func4 (jr [(7,⟨[pA 45 yA],[(24,44)],[1000003,4,1000005,1000006,1000007]⟩),jq 9 53 46 52,(12,⟨[pA 2 yA],[(62,78)],[1000008,9]⟩)]) Ox (by kernel_rfl) CP.ok
end Go.D

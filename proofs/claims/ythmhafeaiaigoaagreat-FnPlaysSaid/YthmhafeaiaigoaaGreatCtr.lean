/-
 The functions of the program: each computes what is said of it.
-/
import Derived.Test.YthmhafeaiaigoaaGreatN13
import Derived.Test.YthmhafeaiaigoaaGreatProg
import Derived.KernelRfl
set_option linter.all false
namespace Go.D
open Go.Proofs
open Tryz
def tnT:TypeId→Option TN:=λt=>UC t [(3, .int),(5, .byte),(22, .bs),(51, .Wire),(57, .Frame),(68, .Client),(77, .Event),(113, .Note),(147, .Out),(167, .Sess),(224, .Credit),(272, .Op),(329, .Cand)]
theorem zk7:Tryz.prog.follows .mixedOrders=true:=by kernel_rfl
def TL:List (TypeId×TN):=[(3, .int),(5, .byte),(22, .bs),(51, .Wire),(57, .Frame),(68, .Client),(77, .Event),(113, .Note),(147, .Out),(167, .Sess),(224, .Credit),(272, .Op),(329, .Cand)]
theorem zmU:zeh prog TL=true:=by kernel_rfl
variable [zaz TL]
def a0:An:=⟨[],[],[],[],[]⟩
abbrev u2{A B R:Type}(f:A→B→R):A×B→R:=λx=>f x.1 x.2
abbrev u3{A B C R:Type}(f:A→B→C→R):A×B×C→R:=λx=>f x.1 x.2.1 x.2.2
abbrev u4{A B C D R:Type}(f:A→B→C→D→R):A×B×C×D→R:=λx=>f x.1 x.2.1 x.2.2.1 x.2.2.2
abbrev u5{A B C D E R:Type}(f:A→B→C→D→E→R):A×B×C×D×E→R:=λx=>f x.1 x.2.1 x.2.2.1 x.2.2.2.1 x.2.2.2.2
abbrev u6{A B C D E F R:Type}(f:A→B→C→D→E→F→R):A×B×C×D×E×F→R:=λx=>f x.1 x.2.1 x.2.2.1 x.2.2.2.1 x.2.2.2.2.1 x.2.2.2.2.2
abbrev u7{A B C D E F G R:Type}(f:A→B→C→D→E→F→G→R):A×B×C×D×E×F×G→R:=λx=>f x.1 x.2.1 x.2.2.1 x.2.2.2.1 x.2.2.2.2.1 x.2.2.2.2.2.1 x.2.2.2.2.2.2
abbrev u8{A B C D E F G H R:Type}(f:A→B→C→D→E→F→G→H→R):A×B×C×D×E×F×G×H→R:=λx=>f x.1 x.2.1 x.2.2.1 x.2.2.2.1 x.2.2.2.2.1 x.2.2.2.2.2.1 x.2.2.2.2.2.2.1 x.2.2.2.2.2.2.2
def Ph:List (Nat×aB)→Prop
 | []=>True
 | (g,ci) :: l=>yB prog g ci∧Ph l
theorem pn:Ph []:=trivial
theorem ph{n:Nat}:∀(l:List (Nat×aB)),(l.all λp=>Nat.blt p.1 1048576)=true→Ph l→fG ⟨prog,λt=>UC t TL,λf=>gG f l,n,FL⟩
 | [],_,_=>zwm
 | (g,ci) :: l,h,k=>by
  simp only[List.all_cons,Bool.and_eq_true]at h;have hg:g % 1048576=g:=Nat.mod_eq_of_lt (by simpa[Nat.blt_eq]using h.1);exact zuI (by rw[hg];exact k.1) (ph l h.2 k.2)
def okB (n m : Nat) (l : List (Nat × aB)) (fn : Func) (ks : List sB) (ats : List Ty) : Bool := (l.all λp => Nat.blt p.1 1048576) && (fn.body.isSome && !(fn.name == "runtime.NumGoroutine") && Nat.beq n fn.ntmps && DC ks ats && Nat.ble m fn.ntmps)
theorem eC{f:Nat}{fn:Func}{ks:List sB}{ats rts:List Ty}{F:fB ats→Option (fB rts)}{sh:List (Bool×Nat)}{own:List Nat}(n:Nat){l:List (Nat×aB)}
  (hp:Ph l) (hf:prog.funcs[f]?=some fn) (an:An) (Raw:fB ats→Option (fB rts))
  (he:(okB n ks.length l fn ks ats,λx=>zaA ⟨prog,λt=>UC t TL,λf=>gG f l,n,FL⟩ fn (fn.body.getD .skip) an ks own sh rts (iB ats x))=(true,Raw))
  (AX:∀{x},xA ats x→∀{r},F x=some r→Raw x=some r):yB prog f (gB ks ats rts F sh own false):=by
 obtain⟨h0,h1⟩:=Prod.mk.inj he;obtain⟨ha,hb⟩:=Bool.and_eq_true_iff.1 h0;exact evC n zk7 zmU (ph l ha hp) hf an Raw hb (λx=>congrFun h1 x) λ_ _ hb h=>AX hb h
theorem eR{f:Nat}{fn:Func}{ks:List sB}{ats rts:List Ty}{F:fB ats→Option (fB rts)}{sh:List (Bool×Nat)}{own:List Nat}(n:Nat){l:List (Nat×aB)}
  (hp:Ph l) (hf:prog.funcs[f]?=some fn) (an:An)
  (he:(okB n ks.length l fn ks ats,λx=>zaA ⟨prog,λt=>UC t TL,λf=>gG f l,n,FL⟩ fn (fn.body.getD .skip) an ks own sh rts (iB ats x))=(true,F)):
  yB prog f (gB ks ats rts F sh own false):=eC n hp hf an F he λ_ _ h=>h
theorem eP{f:Nat}{fn:Func}{m:Nat}{ats rts:List Ty}{F:fB ats→Option (fB rts)}{sh:List (Bool×Nat)}(n:Nat){l:List (Nat×aB)}
  (hp:Ph l) (hf:prog.funcs[f]?=some fn) (an:An) (Raw:fB ats→Option (fB rts))
  (he:(okB n m l fn (fE m) ats,λx=>zef ⟨prog,λt=>UC t TL,λf=>gG f l,n,FL⟩ fn (fn.body.getD .skip) an (fE m) rts (iB ats x))=(true,Raw))
  (AX:∀{x},xA ats x→∀{r},F x=some r→Raw x=some r):yB prog f (gB (fE m) ats rts F sh [] true):=by
 obtain⟨h0,h1⟩:=Prod.mk.inj he;obtain⟨ha,hb⟩:=Bool.and_eq_true_iff.1 h0;exact evP n zk7 zmU (ph l ha hp) hf an Raw hb (λx=>congrFun h1 x) λ_ _ hb h=>AX hb h
theorem eQ{f:Nat}{fn:Func}{m:Nat}{ats rts:List Ty}{F:fB ats→Option (fB rts)}{sh:List (Bool×Nat)}(n:Nat){l:List (Nat×aB)}
  (hp:Ph l) (hf:prog.funcs[f]?=some fn) (an:An)
  (he:(okB n m l fn (fE m) ats,λx=>zef ⟨prog,λt=>UC t TL,λf=>gG f l,n,FL⟩ fn (fn.body.getD .skip) an (fE m) rts (iB ats x))=(true,F)):
  yB prog f (gB (fE m) ats rts F sh [] true):=eP n hp hf an F he λ_ _ h=>h
theorem eD{f:Nat}{fn:Func}{ks:List sB}{ats rts:List Ty}{G:fB ats→fB rts}{sh:List (Bool×Nat)}{own:List Nat}(n:Nat){l:List (Nat×aB)}
  (hp:Ph l) (hf:prog.funcs[f]?=some fn) (an:An) (Raw:fB ats→Option (fB rts))
  (he:(okB n ks.length l fn ks ats,λx=>zaA ⟨prog,λt=>UC t TL,λf=>gG f l,n,FL⟩ fn (fn.body.getD .skip) an ks own sh rts (iB ats x))=(true,Raw))
  (AX:∀{x},xA ats x→Raw x=some (G x)):yB prog f (gB ks ats rts (λx=>some (G x)) sh own false):=eC n hp hf an Raw he λhb _ h=>(AX hb).trans h
abbrev lA:Ty:= .sl .byte
abbrev yA:Ty:= .v .bool
abbrev PA:Ty:= .cells .Cur
abbrev gA:Ty:= .v .int
abbrev eH:Ty:= .v .Dice
abbrev tE:Ty:= .sl .int
abbrev mL:Ty:= .v .Jar
abbrev RD:Ty:= .v .Tab
abbrev mE:Ty:= .v .Ep
abbrev WB:Ty:= .v .Chan
abbrev LB:Ty:= .v .Addr
abbrev SE:Ty:= .v .Win
abbrev PD:Ty:= .v .Paths
abbrev OC:Ty:= .v .Sess
abbrev aF:Ty:= .sl .Credit
abbrev IC:Ty:= .v .Server
abbrev fH:Ty:= .sl .bs
abbrev SB:Ty:= .v .Client
abbrev eF:Ty:= .v .Note
abbrev LC:Ty:= .v .World
abbrev eE:Ty:= .sl .Wire
abbrev wC:Ty:= .sl .Note
abbrev vB:Ty:= .v .Frame
abbrev zdW:Ty:= .v .Op
abbrev zdI:Ty:= .sl .Op
abbrev VK:Ty:= .v .Event
abbrev iI:Ty:= .v .Timer
abbrev nG:Ty:= .sl .Frame
abbrev rO:Ty:= .v .Wire
abbrev aH:Ty:= .cells .World
abbrev HF:Ty:= .sl .Out
abbrev zcg:Ty:= .sl .Event
abbrev CV:Ty:= .v .Hash
abbrev zch:Ty:= .cells .bs
def tnS:TN→Nat×List Nat
 | .Addr=>(2,[])
 | .Cand=>(4,[2])
 | .Chan=>(15,[1,3,6,8,11,14])
 | .Client=>(41,[1,5,8,9,11,12,15,16,18,20,23,25,28,31])
 | .Dice=>(2,[0])
 | .Ep=>(5,[1,4])
 | .Frame=>(11,[2,3,5,6,9,10])
 | .Hash=>(3,[0,1])
 | .Jar=>(1,[0])
 | .Note=>(12,[3,4,7,8])
 | .Paths=>(3,[2])
 | .Server=>(7,[0,1,2,5,6])
 | .Sess=>(24,[1,2,4,6,9,11,14,17,20])
 | .Tab=>(2,[1])
 | .Timer=>(4,[])
 | .Win=>(2,[1])
 | .Wire=>(5,[4])
 | .World=>(14,[1,2,3,4,7,8,9,11,12,13])
 | _=>(0,[])
def tyS:Ty→Bool×Nat
 | .v n=>match(tnS n).1 with
  | 0=>(false,1)
  | k=>(true,k)
 | _=>(false,1)
def tyO:Nat→List Ty→List Nat
 | _,[]=>[]
 | p, .v n :: l=>(tnS n).2.map (λi=>p+i)++tyO (p+(tyS (.v n)).2) l
 | p,_ :: l=>p :: tyO (p+1) l
abbrev CT(n:Nat)(c:aB):=yB prog n c
abbrev cA(a r:List Ty)(F:fB a→Option (fB r)):=gB (fE a.length) a r F (r.map tyS) (tyO 0 r) false
abbrev cN(a r:List Ty)(F:fB a→Option (fB r)):=gB (fE a.length) a r F (r.map tyS) [] false
abbrev cE(a r:List Ty)(F:fB a→Option (fB r))(o:List Nat):=gB (fE a.length) a r F (r.map tyS) o false
abbrev pA:=lC.slot
abbrev fA:=lC.box
abbrev rA:=lC.own
def jj(a:List lC)(b:List (Nat×Nat)):JI:=⟨a,b,[]⟩
def jk(n:Nat)(a:List lC)(b:List (Nat×Nat)):Nat×JI:=(n,⟨a,b,[]⟩)
def jq(n s a b:Nat):Nat×JI:=(n,⟨[.slot s (.v .bool)],[(a,b)],[]⟩)
def jr(r:List (Nat×JI)):An:=⟨[],[],[],r,[]⟩
def jl(b l:List (Nat×JI)):An:=⟨[],b,l,[],[]⟩
def jc(c:List (Nat×JI)):An:=⟨c,[],[],[],[]⟩
def jm(b l r:List (Nat×JI)):An:=⟨[],b,l,r,[]⟩
def jn(c r:List (Nat×JI)):An:=⟨c,[],[],r,[]⟩
theorem IA{g0:Nat}{k0:aB}(h0:yB prog g0 k0):Ph [(g0,k0)]:=⟨h0,trivial⟩
theorem pB{g0:Nat}{k0:aB}{g1:Nat}{k1:aB}(h0:yB prog g0 k0)(h1:yB prog g1 k1):Ph [(g0,k0),(g1,k1)]:=⟨h0,h1,trivial⟩
theorem xB{g0:Nat}{k0:aB}{g1:Nat}{k1:aB}{g2:Nat}{k2:aB}(h0:yB prog g0 k0)(h1:yB prog g1 k1)(h2:yB prog g2 k2):Ph [(g0,k0),(g1,k1),(g2,k2)]:=⟨h0,h1,h2,trivial⟩
theorem dC{g0:Nat}{k0:aB}{g1:Nat}{k1:aB}{g2:Nat}{k2:aB}{g3:Nat}{k3:aB}(h0:yB prog g0 k0)(h1:yB prog g1 k1)(h2:yB prog g2 k2)(h3:yB prog g3 k3):Ph [(g0,k0),(g1,k1),(g2,k2),(g3,k3)]:=⟨h0,h1,h2,h3,trivial⟩
theorem bD{g0:Nat}{k0:aB}{g1:Nat}{k1:aB}{g2:Nat}{k2:aB}{g3:Nat}{k3:aB}{g4:Nat}{k4:aB}(h0:yB prog g0 k0)(h1:yB prog g1 k1)(h2:yB prog g2 k2)(h3:yB prog g3 k3)(h4:yB prog g4 k4):Ph [(g0,k0),(g1,k1),(g2,k2),(g3,k3),(g4,k4)]:=⟨h0,h1,h2,h3,h4,trivial⟩
theorem AE{g0:Nat}{k0:aB}{g1:Nat}{k1:aB}{g2:Nat}{k2:aB}{g3:Nat}{k3:aB}{g4:Nat}{k4:aB}{g5:Nat}{k5:aB}(h0:yB prog g0 k0)(h1:yB prog g1 k1)(h2:yB prog g2 k2)(h3:yB prog g3 k3)(h4:yB prog g4 k4)(h5:yB prog g5 k5):Ph [(g0,k0),(g1,k1),(g2,k2),(g3,k3),(g4,k4),(g5,k5)]:=⟨h0,h1,h2,h3,h4,h5,trivial⟩
theorem ZE{g0:Nat}{k0:aB}{g1:Nat}{k1:aB}{g2:Nat}{k2:aB}{g3:Nat}{k3:aB}{g4:Nat}{k4:aB}{g5:Nat}{k5:aB}{g6:Nat}{k6:aB}(h0:yB prog g0 k0)(h1:yB prog g1 k1)(h2:yB prog g2 k2)(h3:yB prog g3 k3)(h4:yB prog g4 k4)(h5:yB prog g5 k5)(h6:yB prog g6 k6):Ph [(g0,k0),(g1,k1),(g2,k2),(g3,k3),(g4,k4),(g5,k5),(g6,k6)]:=⟨h0,h1,h2,h3,h4,h5,h6,trivial⟩
theorem HL{g0:Nat}{k0:aB}{g1:Nat}{k1:aB}{g2:Nat}{k2:aB}{g3:Nat}{k3:aB}{g4:Nat}{k4:aB}{g5:Nat}{k5:aB}{g6:Nat}{k6:aB}{g7:Nat}{k7:aB}(h0:yB prog g0 k0)(h1:yB prog g1 k1)(h2:yB prog g2 k2)(h3:yB prog g3 k3)(h4:yB prog g4 k4)(h5:yB prog g5 k5)(h6:yB prog g6 k6)(h7:yB prog g7 k7):Ph [(g0,k0),(g1,k1),(g2,k2),(g3,k3),(g4,k4),(g5,k5),(g6,k6),(g7,k7)]:=⟨h0,h1,h2,h3,h4,h5,h6,h7,trivial⟩
theorem IE{g0:Nat}{k0:aB}{g1:Nat}{k1:aB}{g2:Nat}{k2:aB}{g3:Nat}{k3:aB}{g4:Nat}{k4:aB}{g5:Nat}{k5:aB}{g6:Nat}{k6:aB}{g7:Nat}{k7:aB}{l:List (Nat×aB)}(h0:yB prog g0 k0)(h1:yB prog g1 k1)(h2:yB prog g2 k2)(h3:yB prog g3 k3)(h4:yB prog g4 k4)(h5:yB prog g5 k5)(h6:yB prog g6 k6)(h7:yB prog g7 k7)(h:Ph l):Ph ((g0,k0) :: (g1,k1) :: (g2,k2) :: (g3,k3) :: (g4,k4) :: (g5,k5) :: (g6,k6) :: (g7,k7) :: l):=⟨h0,h1,h2,h3,h4,h5,h6,h7,h⟩
theorem c6:CT 6 (cA [lA] [yA] (λx=>some (DT x))):=eD 6 pn func6 a0 Sm (by kernel_rfl) zdc.ok
theorem c27:CT 27 (gB (fE 1) [lA] [PA] Kj [(false,1)] [] true):=eQ 32 pn func27 (jm [jk 0 [pA 3 gA] [(4,4),(8,27)]] [jk 3 [pA 3 gA,pA 4 gA] [(8,27)]] [jq 3 15 8 14]) (by kernel_rfl)
theorem c29:CT 29 (cA [lA,gA] [gA] (u2 Jj)):=eR 15 pn func29 a0 (by kernel_rfl)
theorem c84:CT 84 (gB [.ptr []] [PA] [gA,PA] Co [(false,1)] [] false):=eR 58 pn func84 (jc [jk 2228229 [pA 3 gA,fA 0 .Cur []] [(35,56)]]) (by kernel_rfl)
theorem VD:CT 34 (gB [.ptr [], .plain] [PA,gA] [lA,PA] (u2 Ay) [(false,1)] [0] false):=eR 20 (IA c84) func34 (jl [jk 0 [rA 5 .byte,fA 0 .Cur []] [(6,6),(8,18)]] [jk 3 [rA 5 .byte,pA 6 gA,fA 0 .Cur []] [(8,18)]]) (by kernel_rfl)
theorem zC:CT 35 (gB [.ptr [], .plain] [PA,gA] [gA,PA] (u2 Ar) [(false,1)] [] false):=eR 31 (IA c84) func35 a0 (by kernel_rfl)
theorem zeO:CT 145 (cA [eH] [eH] (λx=>aK x)):=eC 10 pn func145 a0 Pz (by kernel_rfl) BU.ok
theorem CB:CT 53 (cA [gA,gA,gA] [yA] (λx=>some (eA x.1 x.2.1 x.2.2))):=eD 15 pn func53 (jr [jq 1 6 7 14]) (u3 Qs) (by kernel_rfl) zcW.ok
theorem c55:CT 55 (cA [eH] [yA] (λx=>some (gC x))):=eD 12 (IA CB) func55 (jr [jq 1 2 3 11]) Rs (by kernel_rfl) zbH.ok
theorem BJ:CT 345 (cA [lA,gA,gA] [lA] (λx=>YB x.1 x.2.1 x.2.2)):=eC 35 pn func345 (jm [jk 0 [rA 7 .byte] [(8,8),(21,33)]] [jk 5 [rA 7 .byte,pA 8 gA] [(21,33)]] [jq 2 17 12 16]) (u3 Sj) (by kernel_rfl) zcD.ok
theorem zzA:CT 408 (cA [gA] [lA] (λx=>ZM x)):=eC 27 (IA BJ) func408 (jm [jk 0 [rA 3 .byte] [(12,21)]] [jk 4 [rA 3 .byte] [(12,21)]] [jq 1 9 4 8]) Nm (by kernel_rfl) JS.ok
theorem zy7:CT 409 (cA [] [tE] (λ_=>some (EE))):=eD 2 pn func409 a0 (λ_=>Sk) (by kernel_rfl) zcu.ok
theorem zy8:CT 439 (cA [tE] [yA] (λx=>some (zdY x))):=eD 19 (IA CB) func439 (jl [jk 0 [] [(2,15)]] [jk 2 [pA 3 gA] [(2,2),(4,15)]]) Nn (by kernel_rfl) KQ.ok
theorem zyt:CT 440 (cA [] [tE] (λ_=>some (vI))):=eD 2 pn func440 a0 (λ_=>Sl) (by kernel_rfl) zdf.ok
theorem znO:CT 407 (cA [lA,gA,gA] [gA,gA,yA] (λx=>mH x.1 x.2.1 x.2.2)):=eC 48 pn func407 (jm [jk 0 [pA 9 gA] [(10,10),(29,43)]] [jk 5 [pA 9 gA,pA 10 gA] [(29,43)]] [jq 1 28 11 27]) (u3 No) (by kernel_rfl) lS.ok
theorem zm3:CT 442 (cA [gA,gA] [gA] (λx=>pE x.1 x.2)):=eC 24 pn func442 (jr [jq 2 13 8 12]) (u2 Np) (by kernel_rfl) QS.ok
theorem zx7:CT 441 (cA [lA] [tE] (λx=>mM x)):=eC 84 (pB znO zm3) func441 (jl [jk 0 [rA 3 .int] [(4,7),(18,33)],jk 2 [rA 3 .int] [(8,12),(34,82)]] [jk 5 [rA 3 .int,pA 4 gA] [(5,7),(18,33)],jk 10 [rA 3 .int,pA 8 gA] [(9,12),(34,82)]]) Nq (by kernel_rfl) VP.ok
theorem zx1:CT 410 (cA [tE,lA] [tE] (λx=>WK x.1 x.2)):=eC 156 (dC zy8 zyt zx7 zm3) func410 (jm [jk 0 [pA 8 gA,pA 9 gA,pA 10 gA,pA 11 gA,pA 12 gA,pA 13 gA,pA 14 gA,pA 15 gA] [(16,18),(60,128)],jk 2 [rA 5 .int] [(20,20),(138,154)]] [jk 8 [pA 8 gA,pA 9 gA,pA 10 gA,pA 11 gA,pA 12 gA,pA 13 gA,pA 14 gA,pA 15 gA,pA 16 gA] [(17,18),(60,128)],jk 22 [pA 20 gA,rA 5 .int] [(138,154)]] [jq 2 31 24 30]) (u2 Nr) (by kernel_rfl) aQ.ok
theorem zyg:CT 411 (cA [tE] [lA] (λx=>QK x)):=eC 17 (IA BJ) func411 (jl [jk 0 [rA 3 .byte] [(4,4),(6,15)]] [jk 3 [rA 3 .byte,pA 4 gA] [(6,15)]]) Ns (by kernel_rfl) XR.ok
theorem zom:CT 357 (cA [lA] [lA] (λx=>some (JE x))):=eD 33 (dC zzA zy7 zx1 zyg) func357 (jl [(0,⟨[rA 4 .int],[(5,5),(18,30)],[3]⟩)] [jk 6 [rA 4 .int,pA 5 gA] [(18,30)]]) Nt (by kernel_rfl) OS.ok
theorem zxN:CT 356 (cA [lA] [lA] (λx=>some (kE x))):=eD 23 (IA zom) func356 ⟨[jk 851974 [rA 3 .byte] [(14,15)]],[jk 0 [rA 3 .byte] [(16,21)]],[jk 6 [rA 3 .byte] [(16,21)]],[],[]⟩ Nu (by kernel_rfl) fQ.ok
theorem zT:CT 271 (cA [lA,lA] [lA] (λx=>some (ZC x.1 x.2))):=eD 49 (pB zxN zom) func271 (jm [jk 0 [rA 6 .byte,rA 7 .byte] [(8,8),(22,41)]] [jk 7 [rA 6 .byte,rA 7 .byte,pA 8 gA] [(22,41)]] [jq 1 16 9 15]) (u2 Nv) (by kernel_rfl) zS.ok
theorem znK:CT 255 (cA [lA,gA] [lA] (λx=>some (CD x.1 x.2))):=eD 24 (xB CB zT BJ) func255 (jr [jq 1 13 5 12]) (u2 Nw) (by kernel_rfl) CR.ok
theorem zeM:CT 149 (cA [eH] [eH,lA] (λx=>iE x)):=eC 27 (xB c55 zeO znK) func149 (jr [jq 2 14 7 13]) Qa (by kernel_rfl) mV.ok
theorem zza:CT 358 (cA [lA,lA,gA] [lA,yA] (λx=>some (jH x.1 x.2.1 x.2.2))):=eD 52 (pB CB zT) func358 (jm [jk 0 [rA 8 .byte,rA 9 .byte] [(10,10),(27,46)]] [jk 6 [rA 8 .byte,rA 9 .byte,pA 10 gA] [(27,46)]] [jq 1 23 11 22]) (u3 Ny) (by kernel_rfl) IR.ok
theorem bN:CT 273 (cA [lA, .v .str] [lA] (λx=>uE x.1 x.2)):=eC 15 (IA zza) func273 a0 (u2 Qb) (by kernel_rfl) SU.ok
theorem zhY:CT 275 (cA [lA] [mL] (λx=>some (lF x))):=eD 10 (IA bN) func275 a0 Qc (by kernel_rfl) ZU.ok
theorem zh2:CT 276 (cA [gA] [RD] (λx=>some (YD x))):=eD 9 (IA CB) func276 a0 Qd (by kernel_rfl) NU.ok
theorem zhF:CT 126 (cA [mL] [yA] (λx=>some (QE x))):=eD 7 pn func126 a0 Rt (by kernel_rfl) zcf.ok
theorem znW:CT 238 (cA [RD] [gA] (λx=>qJ x)):=eC 22 pn func238 ⟨[jk 1179655 [pA 3 gA] [(19,20)]],[jk 0 [pA 3 gA] [(4,20)]],[jk 3 [pA 3 gA,pA 4 gA] [(5,20)]],[],[]⟩ Ru (by kernel_rfl) zcC.ok
theorem zoe:CT 241 (cA [mE] [yA] (λx=>some (XF x))):=eD 30 pn func241 (jr [jq 1 2 3 29]) Lk (by kernel_rfl) OQ.ok
theorem znY:CT 134 (cA [WB] [yA] (λx=>some (tC x))):=eD 38 (IA zoe) func134 (jr [jq 1 2 3 37]) Mf (by kernel_rfl) LP.ok
theorem zJ:CT 159 (cA [gA] [LB] (λx=>some (AB x))):=eD 12 (IA CB) func159 a0 Rg (by kernel_rfl) zcJ.ok
theorem znR:CT 395 (cA [SE,gA] [yA] (λx=>YF x.1 x.2)):=eC 19 pn func395 a0 (u2 Qy) (by kernel_rfl) zcs.ok
theorem zn4:CT 340 (cA [SE] [yA] (λx=>some (iD x))):=eD 46 (pB CB znR) func340 (jm [jk 0 [] [(2,3),(15,25)],jk 2 [] [(2,2),(4,4),(39,45)]] [jk 4 [pA 3 gA] [(2,2),(15,25)],jk 11 [pA 4 gA] [(2,2),(39,45)]] [jq 1 14 5 13,jq 8 35 26 34]) Lj (by kernel_rfl) ZR.ok
theorem zht:CT 242 (cA [mE] [yA] (λx=>some (aD x))):=eD 22 (pB CB zn4) func242 (jr [jq 1 2 3 21]) Qz (by kernel_rfl) zcz.ok
theorem xI:CT 135 (cA [WB] [yA] (λx=>uC x)):=eC 74 (xB CB zoe zht) func135 (jn [jk 1376261 [] [(2,3),(22,54)],jk 1572871 [pA 3 gA] []] [jq 1 19 4 18,jq 7 45 25 44,jq 9 54 46 53,jq 13 2 59 73]) Ll (by kernel_rfl) kR.ok
theorem IL:CT 58 (cA [lA,lA] [yA] (λx=>EB x.1 x.2)):=eC 10 pn func58 a0 (u2 Qw) (by kernel_rfl) zbU.ok
theorem UG:CT 131 (cA [LB] [yA] (λx=>some (GA x))):=eD 11 (IA CB) func131 (jr [jq 1 2 3 10]) Re (by kernel_rfl) zbx.ok
theorem zeQ:CT 339 (cA [PD] [yA] (λx=>some (sC x))):=eD 65 (pB CB UG) func339 (jm [jk 0 [] [(2,5),(16,64)],jk 2 [] [(2,2),(5,5),(51,64)]] [jk 4 [pA 3 gA] [(2,2),(4,5),(16,64)],jk 10 [pA 5 gA] [(2,2),(51,64)]] [jq 1 15 6 14,jq 7 50 28 49]) Mg (by kernel_rfl) RQ.ok
theorem XO:CT 239 (cA [OC] [yA] (λx=>LD x)):=eC 77 (AE CB IL znY xI zJ zeQ) func239 (jr [jq 1 30 3 29,jq 4 2 33 54,jq 5 2 55 76]) Mh (by kernel_rfl) oR.ok
theorem zex:CT 240 (cA [RD,lA] [gA] (λx=>KD x.1 x.2)):=eC 22 (IA IL) func240 (jl [jk 0 [] [(4,21)]] [jk 2 [pA 5 gA] [(4,4),(6,21)]]) (u2 Rv) (by kernel_rfl) zbS.ok
theorem zh6:CT 127 (cA [RD] [yA] (λx=>sG x)):=eC 47 (dC CB znW XO zex) func127 (jm [jk 0 [] [(2,3),(21,46)]] [jk 4 [pA 3 gA] [(2,2),(21,46)]] [jq 1 20 4 19,jq 6 46 28 45]) Mi (by kernel_rfl) SR.ok
theorem zeB:CT 128 (cA [aF] [yA] (λx=>some (kD x))):=eD 61 (pB CB UG) func128 (jm [jk 0 [] [(2,4),(8,60)],jk 2 [] [(2,2),(4,4),(45,60)]] [jk 4 [pA 3 gA] [(2,2),(4,4),(8,60)],jk 9 [pA 4 gA] [(2,2),(45,60)]] [jq 6 44 14 43]) Mj (by kernel_rfl) NP.ok
theorem sT:CT 129 (cA [lA] [yA] (λx=>some (GC x))):=eD 6 (IA CB) func129 a0 Rw (by kernel_rfl) zco.ok
theorem lN:CT 54 (cA [IC] [yA] (λx=>JC x)):=eC 67 (AE CB c55 zhF zh6 zeB sT) func54 (jm [jk 0 [] [(2,3),(34,47)],jk 2 [] [(2,2),(4,4),(48,66)]] [jk 4 [pA 3 gA] [(2,2),(34,47)],jk 9 [pA 4 gA] [(2,2),(48,66)]] [jq 1 33 5 32]) Rx (by kernel_rfl) za5.ok
theorem zoj:CT 299 (cA [fH,lA,gA] [IC] (λx=>NR x.1 x.2.1 x.2.2)):=eC 45 (dC lN zeM zhY zh2) func299 (jl [jk 0 [fA 9 .Server [0,1,2,5,6]] [(10,10),(23,39)]] [jk 4 [pA 10 gA,fA 9 .Server [0,1,2,5,6]] [(23,39)]]) (u3 Qe) (by kernel_rfl) XT.ok
theorem zyp:CT 343 (cA [lA] [lA] (λx=>zdq x)):=eC 15 pn func343 (jc [jk 589828 [rA 3 .byte] [(10,11)]]) Qf (by kernel_rfl) EU.ok
theorem zia:CT 289 (cA [gA,lA,LB] [SB] (λx=>SI x.1 x.2.1 x.2.2)):=eC 27 (xB CB sT UG) func289 (jr [jq 1 19 7 18]) (u3 Qg) (by kernel_rfl) dU.ok
theorem zey:CT 151 (cA [lA] [eF] (λx=>ZD x)):=eC 7 pn func151 a0 Qh (by kernel_rfl) bU.ok
theorem zyY:CT 247 (cA [lA,lA,lA,gA] [LC] (λx=>zcR x.1 x.2.1 x.2.2.1 x.2.2.2)):=eC 46 (ZE lN zey zJ znK zia zoj zyp) func247 a0 (u4 Qi) (by kernel_rfl) mU.ok
theorem zyQ:CT 142 (gB [.ptr []] [PA] [LC,PA] Iy [(true,14)] [1,2,3,4,7,8,9,11,12,13] false):=eR 13 (xB VD zC zyY) func142 a0 (by kernel_rfl)
theorem znQ:CT 397 (cA [SE] [SE] (λx=>(λ(a0:Aq)=>oA a0) x)):=eC 10 pn func397 a0 Ot (by kernel_rfl) yR.ok
theorem zev:CT 347 (cA [mE] [mE] (λx=>(λ(a0:Ax)=>oA a0) x)):=eC 15 (IA znQ) func347 a0 Ou (by kernel_rfl) xR.ok
theorem zAg:CT 348 (cA [mE,yA] [mE] (λx=>zdU x.1 x.2)):=eC 27 (IA zev) func348 a0 (u2 Ov) (by kernel_rfl) RR.ok
theorem xK:CT 254 (cA [WB] [WB] (λx=>(λ(a0:Ak)=>oA a0) x)):=eC 26 (pB zev zAg) func254 a0 Ow (by kernel_rfl) iR.ok
theorem zeP:CT 427 (cA [.v .Cand] [.v .Cand] (λx=>EH x)):=eC 12 pn func427 a0 Sd (by kernel_rfl) zbp.ok
theorem zeL:CT 379 (cA [PD] [PD] (λx=>(λ(a0:Aj)=>oA a0) x)):=eC 27 (IA zeP) func379 (jl [jk 0 [fA 3 .Paths [2]] [(4,4),(8,25)]] [jk 3 [pA 4 gA,fA 3 .Paths [2]] [(8,25)]]) Ox (by kernel_rfl) WQ.ok
theorem SO:CT 305 (cA [OC] [OC] (λx=>(λ(a0:Ah)=>oA a0) x)):=eC 24 (pB xK zeL) func305 a0 Oy (by kernel_rfl) XQ.ok
theorem zhN:CT 251 (cA [RD] [RD] (λx=>(λ(a0:Ao)=>oA a0) x)):=eC 27 (IA SO) func251 (jl [jk 0 [fA 3 .Tab [1]] [(4,4),(8,25)]] [jk 3 [pA 4 gA,fA 3 .Tab [1]] [(8,25)]]) Oz (by kernel_rfl) zQ.ok
theorem wT:CT 144 (cA [IC] [IC] (λx=>(λ(a0:Ac)=>oA a0) x)):=eC 42 (pB zeO zhN) func144 (jl [jk 0 [fA 3 .Server [0,1,2,5,6]] [(4,4),(22,40)]] [jk 3 [pA 4 gA,fA 3 .Server [0,1,2,5,6]] [(22,40)]]) Pa (by kernel_rfl) SQ.ok
theorem zAx:CT 146 (cA [eE] [eE] (λx=>(λ(a0:List Ap)=>oA a0) x)):=eC 34 pn func146 (jl [jk 0 [rA 3 .Wire] [(4,4),(6,32)]] [jk 3 [rA 3 .Wire,pA 4 gA] [(6,32)]]) Pb (by kernel_rfl) BQ.ok
theorem zz5:CT 252 (cA [eF] [eF] (λx=>(λ(a0:Ad)=>oA a0) x)):=eC 24 pn func252 a0 Pd (by kernel_rfl) gR.ok
theorem zzE:CT 147 (cA [wC] [wC] (λx=>(λ(a0:List Ad)=>oA a0) x)):=eC 21 (IA zz5) func147 (jl [jk 0 [rA 3 .Note] [(4,4),(6,19)]] [jk 3 [rA 3 .Note,pA 4 gA] [(6,19)]]) Pe (by kernel_rfl) MR.ok
theorem zeJ:CT 253 (cA [vB] [vB] (λx=>(λ(a0:Ab)=>oA a0) x)):=eC 34 pn func253 a0 Pf (by kernel_rfl) ER.ok
theorem aN:CT 148 (cA [SB] [SB] (λx=>(λ(a0:Ae)=>oA a0) x)):=eC 24 (pB zeJ xK) func148 a0 Pg (by kernel_rfl) IQ.ok
theorem c66:CT 66 (cA [LC] [LC] (λx=>(λ(a0:Aa)=>oA a0) x)):=eC 59 (bD wT zeO zAx zzE aN) func66 (jl [jk 0 [fA 3 .World [1,2,3,4,7,8,9,11,12,13]] [(4,4),(21,38)],jk 2 [fA 3 .World [1,2,3,4,7,8,9,11,12,13]] [(5,5),(39,57)]] [jk 3 [pA 4 gA,fA 3 .World [1,2,3,4,7,8,9,11,12,13]] [(21,38)],jk 7 [pA 5 gA,fA 3 .World [1,2,3,4,7,8,9,11,12,13]] [(39,57)]]) Pi (by kernel_rfl) QQ.ok
theorem YG:CT 32 (gB [.ptr [], .plain] [PA,gA] [yA,PA] (u2 Bb) [(false,1)] [] false):=eR 9 (IA zC) func32 a0 (by kernel_rfl)
theorem MD:CT 31 (gB [.ptr [], .plain] [PA,tE] [gA,PA] (u2 As) [(false,1)] [] false):=eR 12 (IA zC) func31 a0 (by kernel_rfl)
theorem zz9:CT 344 (gB [.ptr []] [PA] [zdW,PA] Kk [(true,4)] [3] false):=eR 25 (xB MD VD zC) func344 (jc [jk 655364 [fA 0 .Cur [],fA 3 .Op [3]] [(11,16)]]) (by kernel_rfl)
theorem zmZ:CT 269 (cA [gA] [gA] Dk):=eR 9 pn func269 a0 (by kernel_rfl)
theorem zzS:CT 248 (gB [.ptr [], .plain] [PA,gA] [zdI,PA] (u2 Iz) [(false,1)] [0] false):=eR 53 (xB zC zmZ zz9) func248 (jm [jk 0 [rA 5 .Op,pA 6 gA,fA 0 .Cur []] [(7,9),(15,43)],jk 2 [fA 0 .Cur [],fA 8 .Op [3]] [(9,9),(21,33)],jk 4 [rA 5 .Op] [(6,6),(44,51)]] [jk 4 [rA 5 .Op,pA 6 gA,pA 7 gA,fA 0 .Cur []] [(8,9),(15,43)],jk 8 [pA 9 gA,fA 0 .Cur [],fA 8 .Op [3]] [(21,33)],jk 13 [rA 5 .Op,pA 6 gA] [(44,51)]] [jq 8 29 21 28]) (by kernel_rfl)
theorem zzv:CT 249 (gB [.ptr []] [PA] [gA,lA,PA] Ja [(false,1),(false,1)] [1] false):=eR 25 (xB MD VD zC) func249 a0 (by kernel_rfl)
theorem zeC:CT 371 (cA [gA,lA,gA,gA] [lA] (u4 Cb)):=eR 37 (pB CB BJ) func371 (jr [jq 1 26 9 25]) (by kernel_rfl)
theorem cP:CT 243 (cA [gA] [yA] (λx=>some (jC x))):=eD 5 (IA CB) func243 a0 Sa (by kernel_rfl) zb1.ok
theorem zh7:CT 244 (cA [gA,gA] [yA] (λx=>some (dG x.1 x.2))):=eD 19 pn func244 (jr [jq 3 14 9 13]) (u2 Ps) (by kernel_rfl) IU.ok
theorem zzf:CT 412 (cA [lA,lA,gA] [lA] (u3 Gq)):=eR 23 (xB CB zT BJ) func412 (jr [jq 1 14 7 13]) (by kernel_rfl)
theorem zzs:CT 359 (cA [lA,lA,gA] [lA] (u3 Fd)):=eR 41 (pB CB zzf) func359 (jm [jk 0 [rA 7 .byte] [(8,8),(24,35)]] [jk 5 [rA 7 .byte,pA 8 gA] [(24,35)]] [jq 1 21 9 20]) (by kernel_rfl)
theorem zhD:CT 274 (cA [lA,lA,lA] [lA] (u3 Ea)):=eR 49 (IA zzs) func274 (jm [jk 0 [rA 7 .byte] [(9,9),(30,47)]] [jk 6 [rA 7 .byte,pA 9 gA] [(30,47)]] [jq 2 23 11 22]) (by kernel_rfl)
theorem DL:CT 136 (cA [vB] [yA] (λx=>some (wB x))):=eD 174 (xB CB cP zh7) func136 (jr [jq 2 2 6 61,jq 3 87 62 86,jq 7 2 92 117,jq 9 2 120 145,jq 11 2 148 173]) Mm (by kernel_rfl) aR.ok
theorem ZO:CT 346 (cA [gA,vB] [lA] (u2 Bt)):=eR 40 (dC CB DL cP zeC) func346 (jr [jq 1 19 6 18]) (by kernel_rfl)
theorem zaI:CT 272 (cA [lA,lA] [lA] (u2 Cp)):=eR 17 (IA zT) func272 a0 (by kernel_rfl)
theorem zhO:CT 293 (cA [lA,gA,lA,gA,gA,gA,lA] [vB,yA] (u7 Eb)):=eR 72 (AE cP zh7 zaI zhD ZO zeC) func293 (jm [jk 0 [fA 17 .Frame [2,3,5,6,9,10]] [(18,18),(56,64)]] [jk 6 [pA 18 gA,fA 17 .Frame [2,3,5,6,9,10]] [(56,64)]] [jq 2 43 24 42]) (by kernel_rfl)
theorem zyK:CT 250 (cA [lA,gA,gA,lA,gA,gA,gA,lA] [zdI] (u8 Jb)):=eR 65 (dC CB zhO BJ ZO) func250 (jr [jq 2 37 31 36]) (by kernel_rfl)
theorem zAf:CT 143 (gB [.ptr [], .plain, .ptr [], .plain] [PA,LC, .cells .int,yA] [VK,PA, .cells .int] (u4 Jc) [(true,6)] [4] false):=eR 239 (ZE MD YG VD zC zzS zzv zyK) func143 (jn [jk 5111823 [fA 0 .Cur [],fA 9 .Event [4,5]] [(79,86)],jq 6225941 95 97 97,jk 6225942 [fA 9 .Event [4],fA 0 .Cur []] [(10,15),(98,204)],jk 6881305 [fA 0 .Cur [],fA 9 .Event [4]] [(10,14),(106,155)],jk 8060956 [pA 11 lA] [(124,129)],(10027040,⟨[fA 9 .Event [4]],[(154,155)],[14]⟩),jk 10223650 [fA 9 .Event [4,5],fA 0 .Cur []] [(15,15),(158,204)],jk 10420260 [fA 9 .Event [4,5],fA 0 .Cur []] [(15,15),(161,204)],jk 10616870 [fA 9 .Event [4,5],fA 0 .Cur []] [(15,15),(164,204)],jk 11010089 [fA 9 .Event [4,5],fA 0 .Cur []] [(15,15),(170,204)],jk 11206699 [fA 9 .Event [4,5],fA 0 .Cur []] [(15,15),(173,204)],jk 11599918 [fA 0 .Cur [],fA 9 .Event [4,5]] [(15,15),(179,204)],jk 11796527 [fA 9 .Event [4,5],fA 0 .Cur []] [(181,184)],jk 12124210 [fA 9 .Event [4,5],fA 0 .Cur []] [(15,15),(187,204)],jq 13434934 205 207 208,jq 13434935 205 208 208,jk 13434936 [fA 9 .Event [4],fA 0 .Cur [],fA 8 .Event [4,5]] [(10,15),(64,204),(209,237)],jq 14090299 215 217 217,jk 14090300 [fA 9 .Event [4],fA 0 .Cur [],fA 8 .Event [4,5]] [(10,15),(64,204),(218,237)],jq 14876736 227 229 229,jk 14876737 [fA 9 .Event [4],fA 0 .Cur [],fA 8 .Event [4,5]] [(10,15),(64,204),(230,237)],jk 15138883 [fA 9 .Event [4],fA 0 .Cur [],fA 8 .Event [4,5]] [(10,15),(64,204),(233,237)],jq 15335493 234 236 236,jk 15335494 [fA 9 .Event [4],fA 0 .Cur [],fA 8 .Event [4,5]] [(10,15),(64,204),(237,237)]] [jk 2 [pA 34 yA,fA 0 .Cur []] [(23,33)],jk 7 [pA 59 yA,fA 0 .Cur []] [(47,58)],jk 13 [pA 78 yA,fA 0 .Cur []] [(71,77)],jk 26 [pA 123 yA,fA 0 .Cur []] [(117,122)]]) (by kernel_rfl)
theorem c67:CT 67 (cA [VK] [yA] (λx=>some (fF x))):=eD 33 (IA CB) func67 (jr [jq 1 2 3 32]) Qt (by kernel_rfl) zbk.ok
theorem zm4:CT 132 (cA [iI] [yA] (λx=>some (xD x))):=eD 37 (IA CB) func132 (jr [jq 3 2 9 36]) Mk (by kernel_rfl) tQ.ok
theorem zAd:CT 133 (cA [vB] [yA] (λx=>some (LF x))):=eD 62 pn func133 (jr [jq 1 2 3 61]) Ml (by kernel_rfl) sP.ok
theorem mN:CT 57 (cA [SB] [yA] (λx=>OD x)):=eC 204 (IE CB IL sT UG zm4 zAd znY xI (IA DL)) func57 (jr [jq 1 36 3 35,jq 4 2 40 70,jq 8 2 78 108,jq 9 122 109 121,jq 12 2 126 133,jq 13 2 134 203]) Mn (by kernel_rfl) lQ.ok
theorem BT:CT 256 (cA [gA] [iI] Bf):=eR 10 (IA CB) func256 a0 (by kernel_rfl)
theorem znp:CT 257 (cA [SB] [vB] Fe):=eR 10 pn func257 a0 (by kernel_rfl)
theorem zne:CT 150 (cA [SB,gA,lA] [SB,nG,wC,gA] (u3 Ff)):=eR 57 (bD CB mN aN BT znp) func150 (jr [jq 2 26 14 25]) (by kernel_rfl)
theorem c85:CT 85 (cA [] [LB] (λ_=>some (BE))):=eD 2 (IA zJ) func85 a0 (λ_=>Rh) (by kernel_rfl) zda.ok
theorem zhz:CT 351 (cA [vB] [lA] Bj):=eR 91 (pB DL BJ) func351 ⟨[jk 2097161 [rA 3 .byte] [(4,4),(15,31),(34,89)],jk 3276815 [rA 3 .byte] [(15,31),(52,89)],jk 4325394 [rA 3 .byte] [(15,31),(68,89)]],[jk 1 [rA 3 .byte] [(4,4),(43,49)]],[jk 10 [rA 3 .byte,pA 4 gA] [(43,49)]],[],[]⟩ (by kernel_rfl)
theorem zhH:CT 262 (cA [LB,LB,vB] [rO] (u3 Ec)):=eR 12 (IA zhz) func262 a0 (by kernel_rfl)
theorem zhE:CT 258 (cA [SB,nG] [eE] (u2 Ed)):=eR 26 (pB c85 zhH) func258 (jl [jk 0 [rA 5 .Wire] [(6,6),(8,24)]] [jk 3 [rA 5 .Wire,pA 6 gA] [(8,24)]]) (by kernel_rfl)
theorem zhB:CT 155 (gB [.ptr [1,11,12,13], .plain, .plain] [aH,eE,wC] [aH] (u3 Cc) [] [1,11,12,13] false):=eR 41 pn func155 ⟨[jk 1179653 [fA 0 .World [1,11,12,13]] [(19,31)]],[jk 0 [fA 0 .World [1,11,12,13]] [(6,31)]],[jk 1 [pA 6 gA,fA 0 .World [1,11,12,13]] [(7,31)]],[],[]⟩ (by kernel_rfl)
theorem zAu:CT 152 (gB [.ptr [1,11,12,13], .plain, .plain, .plain, .plain] [aH,gA,SB,nG,wC] [aH] (u5 Dl) [] [1,11,12,13] false):=eR 23 (pB zhB zhE) func152 a0 (by kernel_rfl)
theorem zzy:CT 349 (cA [mE,gA,lA,gA,lA] [mE,vB,gA] (u5 Gr)):=eR 78 (AE zht cP zh7 zhO zev zeC) func349 (jr [jq 2 41 18 40,jq 4 50 44 49]) (by kernel_rfl)
theorem xT:CT 259 (cE [WB,gA,lA] [WB,vB,gA] (u3 Cd) [1,8,11,14,17,18,20,21,24,25]):=eR 40 (xB xI xK zzy) func259 (jc [(2228231,⟨[fA 9 .Chan [1,8,11,14]],[(35,36)],[1000010]⟩)]) (by kernel_rfl)
theorem zib:CT 350 (cA [lA,lA] [eF] (u2 Ee)):=eR 12 pn func350 a0 (by kernel_rfl)
theorem bP:CT 260 (cA [WB,vB] [eF] (u2 Bn)):=eR 13 (pB ZO zib) func260 a0 (by kernel_rfl)
theorem zzP:CT 153 (cE [SB,gA,lA] [SB,nG,wC,gA] (u3 Gs) [1,5,8,9,11,12,15,16,18,25,28,31,41,42]):=eR 75 (bD CB mN aN xT bP) func153 ⟨[],[],[],[jq 2 29 17 28],[(11,[1000012])]⟩ (by kernel_rfl)
theorem zyF:CT 261 (cE [OC,lA] [OC,HF,wC,gA] (u2 Gt) [1,2,4,11,14,17,20,24,25]):=eR 71 (dC XO xT bP SO) func261 ⟨[],[],[],[jq 2 22 15 21],[(11,[1000010])]⟩ (by kernel_rfl)
theorem zzb:CT 154 (cA [IC,gA,gA,lA] [IC,HF,wC,gA] (u4 Gu)):=eR 66 (dC CB lN wT zyF) func154 (jn [(3604489,⟨[fA 12 .Server [0,1,2,5,6]],[(56,61)],[1000013]⟩)] [jq 2 26 19 25]) (by kernel_rfl)
theorem zoi:CT 156 (cA [HF] [eE] Fg):=eR 28 (pB c85 zhH) func156 (jl [jk 0 [rA 3 .Wire] [(4,4),(6,26)]] [jk 3 [rA 3 .Wire,pA 4 gA] [(6,26)]]) (by kernel_rfl)
theorem zy9:CT 363 (cA [iI,gA] [yA] (u2 Cq)):=eR 21 (pB CB zm4) func363 (jr [jq 1 4 5 20]) (by kernel_rfl)
theorem zhx:CT 290 (cA [iI,gA] [iI,gA] (u2 Cs)):=eR 29 (IA zy9) func290 (jc [jk 1310728 [pA 6 gA] []]) (by kernel_rfl)
theorem zol:CT 277 (cA [SB] [SB] Dm):=eR 10 (IA zia) func277 a0 (by kernel_rfl)
theorem znJ:CT 352 (cA [WB,gA] [WB] (u2 Bu)):=eR 34 (xB CB xI xK) func352 (jn [jk 1835012 [fA 5 .Chan [1,3,6,8,11,14]] [(29,32)]] [jq 2 28 8 27]) (by kernel_rfl)
theorem zeD:CT 294 (cA [gA] [lA] Bk):=eR 10 (pB CB BJ) func294 a0 (by kernel_rfl)
theorem zok:CT 266 (cE [WB] [WB,vB,gA] Fh [1,8,11,14,17,18,20,21,24,25]):=eR 27 (dC xI xK xT zeD) func266 (jr [jq 1 13 5 12]) (by kernel_rfl)
theorem zAv:CT 263 (cE [SB,gA] [SB,nG,wC] (u2 Gv) [1,5,8,9,11,12,15,16,41,42]):=eR 159 (IE CB mN aN zeJ BT znp bP zok (xB zol zhx znJ)) func263 (jn [jk 4587533 [rA 8 .Frame] [(71,75)],jk 5373967 [rA 8 .Frame] [(83,88)],jk 8585241 [fA 7 .Client [1,5,8,9,11,12,15,16,18,20,23,25,28,31]] [(132,134)],(9371676,⟨[rA 8 .Frame,rA 9 .Note,fA 7 .Client [1,5,8,9,11,12,15,16]],[(144,155)],[1000015,1000014]⟩)] [jq 4 33 21 32,jq 11 70 64 69,jq 13 82 76 81]) (by kernel_rfl)
theorem oT:CT 190 (cA [OC] [OC] Ce):=eR 21 (pB XO SO) func190 a0 (by kernel_rfl)
theorem zm8:CT 428 (cA [PD,gA] [PD] (u2 Bv)):=eR 47 (dC CB zeQ zeL zeP) func428 ⟨[jk 2228233 [fA 5 .Paths [2]] [(35,45)]],[jk 0 [fA 5 .Paths [2]] [(6,6),(20,45)]],[jk 5 [pA 6 gA,fA 5 .Paths [2]] [(20,45)]],[jq 1 14 7 13],[]⟩ (by kernel_rfl)
theorem zyb:CT 398 (cA [OC,gA] [OC] (u2 Gw)):=eR 39 (AE CB oT XO SO znJ zm8) func398 (jr [jq 2 19 8 18]) (by kernel_rfl)
theorem zyn:CT 353 (cA [RD,gA] [RD] (u2 Gx)):=eR 52 (dC CB zh6 zhN zyb) func353 ⟨[(2883594,⟨[fA 5 .Tab [1]],[(45,50)],[1000007]⟩)],[jk 0 [fA 5 .Tab [1]] [(6,7),(21,50)]],[jk 5 [pA 6 gA,fA 5 .Tab [1]] [(7,7),(21,50)]],[jq 1 15 8 14,jq 8 44 35 43],[]⟩ (by kernel_rfl)
theorem znv:CT 278 (cA [OC] [eF] Fi):=eR 10 pn func278 a0 (by kernel_rfl)
theorem zyO:CT 264 (cE [IC,gA] [IC,wC] (u2 Gy) [7]):=eR 79 (AE CB lN wT zex znv zyn) func264 ⟨[jk 4325388 [rA 7 .Note] [(67,76)]],[(0,⟨[rA 7 .Note],[(8,9),(28,76)],[1000006]⟩)],[jk 7 [rA 7 .Note,pA 8 gA] [(9,9),(28,76)]],[jq 3 20 13 19,jq 10 66 46 65],[]⟩ (by kernel_rfl)
theorem zzn:CT 157 (gB [.ptr [1,11,12,13]] [aH] [eE,aH] Gz [(false,1)] [0,2,12,13,14] false):=eR 86 (xB zhE zAv zyO) func157 (jl [jk 0 [rA 3 .Wire,fA 0 .World [1,11,12,13]] [(4,7),(19,59)]] [jk 4 [rA 3 .Wire,pA 4 gA,fA 0 .World [1,11,12,13]] [(5,7),(19,59)]]) (by kernel_rfl)
theorem zyS:CT 158 (cA [SB,LB] [SB] (u2 Ct)):=eR 17 (xB mN UG aN) func158 (jn [jk 851972 [fA 5 .Client [1,5,8,9,11,12,15,16,18,20,23,25,28,31]] [(14,15)]] [jq 2 13 8 12]) (by kernel_rfl)
theorem zxX:CT 265 (cA [WB] [WB,yA] Cu):=eR 34 (xB xI xK bN) func265 (jr [jq 2 26 7 25]) (by kernel_rfl)
theorem zyk:CT 160 (cE [SB,gA] [SB,nG,wC,gA] (u2 Ha) [1,5,8,9,11,12,15,16,18,25,28,31,41,42]):=eR 73 (ZE CB mN aN BT bP zxX zok) func160 ⟨[],[],[],[jq 2 23 16 22,jq 4 36 27 35,jq 8 57 52 56],[(12,[1000012])]⟩ (by kernel_rfl)
theorem c36:CT 36 (cA [LC,LB] [gA] (λx=>gL x.1 x.2)):=eC 30 (IA c85) func36 (jl [jk 0 [] [(4,5),(9,29)]] [jk 4 [pA 5 gA] [(4,4),(9,29)]]) (u2 Ls) (by kernel_rfl) cR.ok
theorem zh8:CT 425 (cA [aF,LB] [gA] (λx=>some (oB x.1 x.2))):=eD 20 pn func425 (jl [jk 0 [] [(4,19)]] [jk 2 [pA 5 gA] [(4,4),(6,19)]]) (u2 Se) (by kernel_rfl) zcp.ok
theorem zof:CT 376 (cA [aF,LB,gA] [aF] (u3 Fj)):=eR 63 (dC CB zeB UG zh8) func376 (jn [jk 3735564 [rA 7 .Credit] [(58,61)]] [jq 2 24 12 23]) (by kernel_rfl)
theorem zn8:CT 355 (cA [lA] [vB,yA] Ef):=eR 140 (pB zhz znO) func355 (jc [jk 3276815 [fA 2 .Frame [2,3,5,6,9,10],fA 4 .Frame [2,3,5,6,9,10]] [(3,3),(17,49),(52,131)],jk 4325396 [fA 2 .Frame [2,3,5,6,9,10],fA 4 .Frame [2,3,5,6,9,10]] [(3,3),(17,49),(68,131)],jk 6160411 [fA 2 .Frame [2,3,5,6,9,10],fA 4 .Frame [2,3,5,6,9,10]] [(3,3),(17,49),(96,131)]]) (by kernel_rfl)
theorem zn0:CT 431 (cA [RD,LB] [yA] (u2 Dn)):=eR 31 pn func431 (jm [jk 0 [] [(4,30)]] [jk 2 [pA 5 gA] [(4,4),(6,30)]] [jq 4 30 13 29]) (by kernel_rfl)
theorem znx:CT 426 (cA [aF,LB] [gA] (u2 Bw)):=eR 28 (pB zeB zh8) func426 (jr [jq 2 15 9 14]) (by kernel_rfl)
theorem zzu:CT 399 (cA [IC,LB,gA] [yA] (u3 Fk)):=eR 19 (pB znx zn0) func399 (jr [jq 1 6 7 18]) (by kernel_rfl)
theorem zyo:CT 432 (cA [lA,LB] [lA] (u2 Hb)):=eR 18 (pB UG BJ) func432 a0 (by kernel_rfl)
theorem znk:CT 401 (cA [LB,gA,lA,lA,gA] [lA] (u5 Eg)):=eR 50 (dC CB UG BJ zyo) func401 (jr [jq 1 34 12 33]) (by kernel_rfl)
theorem znz:CT 400 (cA [mL,LB,gA,lA,lA,gA] [lA] (u6 Fl)):=eR 33 (xB zhF zaI znk) func400 (jr [jq 2 27 20 26]) (by kernel_rfl)
theorem zyJ:CT 433 (cA [gA,gA] [yA] (u2 Cv)):=eR 17 (IA CB) func433 (jr [jq 1 4 5 16]) (by kernel_rfl)
theorem zy3:CT 450 (cA [lA,lA] [gA] (u2 Bo)):=eR 31 pn func450 (jl [jk 0 [pA 5 gA] [(6,6),(12,29)]] [jk 5 [pA 5 gA,pA 6 gA] [(12,29)]]) (by kernel_rfl)
theorem zh0:CT 434 (cA [lA,lA] [yA] (u2 Bm)):=eR 14 (IA zy3) func434 (jr [jq 1 4 5 13]) (by kernel_rfl)
theorem zAe:CT 402 (cA [mL,gA,LB,vB] [gA] (u4 Hc)):=eR 52 (ZE CB zhF UG DL znz zyJ zh0) func402 (jr [jq 1 31 9 30]) (by kernel_rfl)
theorem zni:CT 420 (cA [lA,lA] [lA] (u2 Bx)):=eR 8 (IA zT) func420 a0 (by kernel_rfl)
theorem zhT:CT 366 (cA [lA] [lA] Bh):=eR 12 (xB sT bN zni) func366 a0 (by kernel_rfl)
theorem zhC:CT 367 (cA [gA,lA,lA,gA,lA] [lA] (u5 Eh)):=eR 48 (pB CB BJ) func367 (jr [jq 1 34 12 33]) (by kernel_rfl)
theorem znU:CT 380 (cA [lA,gA,lA,lA,gA,lA] [lA] (u6 Fm)):=eR 35 (xB zaI zhT zhC) func380 (jr [jq 3 30 23 29]) (by kernel_rfl)
theorem zAD:CT 403 (cA [lA,vB] [yA] (u2 Hd)):=eR 29 (xB DL znU zh0) func403 (jr [jq 1 4 5 28]) (by kernel_rfl)
theorem zxU:CT 418 (cA [lA,lA,lA] [lA] (u3 He)):=eR 28 (pB sT zni) func418 (jr [jq 1 19 7 18]) (by kernel_rfl)
theorem zy6:CT 417 (cA [lA] [lA] Cw):=eR 9 (IA bN) func417 a0 (by kernel_rfl)
theorem zy0:CT 419 (cA [lA,gA] [lA] (u2 Hf)):=eR 22 (pB CB bN) func419 (jl [jk 0 [rA 5 .byte] [(6,6),(14,20)]] [jk 5 [rA 5 .byte,pA 6 gA] [(14,20)]]) (by kernel_rfl)
theorem zod:CT 365 (cA [lA,lA,lA,gA] [lA] (u4 Fn)):=eR 22 (xB zy6 zxU zy0) func365 a0 (by kernel_rfl)
theorem znM:CT 424 (cA [] [SE] (λ_=>Fo)):=eR 14 pn func424 (jl [jk 0 [fA 1 .Win [1]] [(2,2),(4,12)]] [jk 3 [pA 2 gA,fA 1 .Win [1]] [(4,12)]]) (by kernel_rfl)
theorem zaK:CT 373 (cA [gA,lA] [mE] (u2 By)):=eR 20 (pB CB znM) func373 (jr [jq 1 12 5 11]) (by kernel_rfl)
theorem zhM:CT 364 (cA [gA,lA,lA] [WB] (u3 Ei)):=eR 28 (pB CB zaK) func364 (jr [jq 1 19 7 18]) (by kernel_rfl)
theorem zns:CT 381 (cA [LB] [PD] Cf):=eR 5 pn func381 a0 (by kernel_rfl)
theorem znf:CT 307 (cA [lA,gA,LB,vB] [OC] (u4 Fp)):=eR 58 (ZE CB sT UG DL zhM zod zns) func307 (jr [jq 1 31 9 30]) (by kernel_rfl)
theorem zhy:CT 302 (cA [RD,OC] [RD,gA] (u2 Bi)):=eR 48 (AE zh6 znW XO zex zhN SO) func302 (jr [jq 2 20 9 19,jq 6 38 28 37]) (by kernel_rfl)
theorem zie:CT 370 (cA [lA,lA,lA] [eF] (u3 Do)):=eR 17 pn func370 a0 (by kernel_rfl)
theorem znS:CT 435 (cE [WB] [WB,vB,gA] Fq [1,8,11,14,17,18,20,21,24,25]):=eR 25 (dC xI xK xT zeD) func435 (jr [jq 1 12 5 11]) (by kernel_rfl)
theorem zzm:CT 404 (cE [OC] [OC,HF,wC] Hg [1,2,4,11,14,17,20,24,25]):=eR 53 (dC XO bP SO znS) func404 ⟨[],[],[],[jq 2 24 11 23],[(8,[1000007])]⟩ (by kernel_rfl)
theorem zxO:CT 458 (cA [gA] [gA] Hh):=eR 8 pn func458 a0 (by kernel_rfl)
theorem znL:CT 447 (cA [SE,gA] [yA] (u2 Bp)):=eR 30 (dC CB zn4 znR zxO) func447 (jr [jq 1 12 5 11,jq 3 4 13 29]) (by kernel_rfl)
theorem zyv:CT 448 (cA [lA,gA,vB] [lA,yA] (u3 Hi)):=eR 42 (bD zaI zhD ZO zeC zh0) func448 (jr [(2,⟨[pA 28 yA],[(12,27)],[8]⟩)]) (by kernel_rfl)
theorem znE:CT 449 (cA [SE,gA] [SE,yA] (u2 Cg)):=eR 73 (pB znQ znL) func449 ⟨[jk 4521999 [fA 6 .Win [1]] [(70,71)]],[jk 0 [fA 6 .Win [1]] [(7,9),(21,48)]],[jk 6 [pA 7 gA,pA 8 gA,fA 6 .Win [1]] [(9,9),(21,48)]],[jq 6 27 21 26],[]⟩ (by kernel_rfl)
theorem zzG:CT 421 (cA [mE,gA,vB] [mE,lA,gA] (u3 Cy)):=eR 64 (AE zht ZO zev znL zyv znE) func421 (jr [jq 2 30 14 29]) (by kernel_rfl)
theorem zor:CT 368 (cA [WB,gA,vB] [WB,lA,gA] (u3 Ej)):=eR 174 (HL CB IL xI DL cP xK zaK zzG) func368 (jn [jk 5373966 [fA 9 .Chan [1,3,6,8,11,14]] [(83,85)]] [jq 2 40 22 39,jq 12 82 76 81,jq 15 97 88 96,jq 16 106 98 105,jq 23 139 127 138]) (by kernel_rfl)
theorem znV:CT 369 (cA [WB,gA] [lA,yA] (u2 Fr)):=eR 51 (IA xI) func369 (jr [jq 3 18 10 17,jq 7 45 34 44]) (by kernel_rfl)
theorem zyR:CT 451 (cA [PD,LB] [.v .Cand,yA] (λx=>LM x.1 x.2)):=eC 33 (pB zeQ zeP) func451 (jl [jk 0 [fA 4 .Cand [2]] [(5,6),(11,31)]] [jk 4 [pA 6 gA,fA 4 .Cand [2]] [(5,5),(11,31)]]) (u2 Mr) (by kernel_rfl) mR.ok
theorem zzY:CT 436 (cA [PD,gA,LB,lA] [PD,yA] (u4 Fs)):=eR 71 (bD CB IL zeL zeP zyR) func436 ⟨[jk 3801098 [fA 12 .Paths [2]] [(59,69)]],[jk 0 [fA 12 .Paths [2]] [(13,13),(44,69)]],[jk 6 [pA 13 gA,fA 12 .Paths [2]] [(44,69)]],[(2,⟨[pA 39 yA],[(20,38)],[1000010]⟩)],[]⟩ (by kernel_rfl)
theorem zx6:CT 452 (cA [WB] [WB,yA] Hj):=eR 38 (dC xI xK bN zaK) func452 (jr [jq 2 20 7 19]) (by kernel_rfl)
theorem zz6:CT 437 (cA [WB,gA,lA] [WB,gA] (u3 Hk)):=eR 57 (AE CB IL xI xK zeD zx6) func437 (jr [jq 2 33 13 32]) (by kernel_rfl)
theorem zmY:CT 382 (cA [PD,gA,LB,lA] [PD,yA] (u4 Ek)):=eR 77 (bD CB UG zeQ zeL zm8) func382 (jm [jk 0 [fA 8 .Paths [2]] [(9,9),(11,11),(41,57)]] [jk 5 [pA 11 gA,fA 8 .Paths [2]] [(9,9),(41,57)]] [jq 1 35 12 34]) (by kernel_rfl)
theorem zyZ:CT 405 (cE [OC,gA,LB,vB,lA] [OC,HF,wC,yA] (u5 Hl) [1,2,24,25]):=eR 241 (IE UG XO xT bP SO ZO zor znV (bD zie zmY znS zzY zz6)) func405 (jn [(5898256,⟨[rA 15 .Out,rA 16 .Note,fA 14 .Sess [1,2]],[(22,28),(92,197)],[18]⟩),jk 7077906 [rA 15 .Out,rA 16 .Note,fA 14 .Sess [1,2]] [(22,28),(110,197)],(7798804,⟨[rA 16 .Note,fA 14 .Sess [1,2,4,6,9,11,14,17]],[(120,134)],[1000022]⟩),jk 8847383 [rA 15 .Out,rA 16 .Note,fA 14 .Sess [1,2,20]] [(24,28),(137,197)],(9633817,⟨[rA 15 .Out,rA 16 .Note,fA 14 .Sess [1,2,20]],[(26,28),(148,197)],[1000024]⟩),jk 10158106 [rA 16 .Note] [(156,171)],(11862046,⟨[rA 15 .Out,rA 16 .Note,fA 14 .Sess [1,2,20]],[(182,197)],[1000027,1000026]⟩)] [jq 4 49 38 48,jq 34 220 215 219]) (by kernel_rfl)
theorem zzJ:CT 438 (cA [vB] [gA] Em):=eR 6 (IA zhz) func438 a0 (by kernel_rfl)
theorem znB:CT 377 (cA [aF,LB,gA] [aF,yA] (u3 Dp)):=eR 44 (dC CB zeB zh8 znx) func377 (jr [jq 3 30 16 29]) (by kernel_rfl)
theorem zym:CT 406 (gB [.ptr [], .plain] [.cells .Server,HF] [HF, .cells .Server] (u2 Hm) [(false,1)] [0] false):=eR 60 (xB znB zn0 zzJ) func406 ⟨[jk 1703943 [fA 0 .Server []] [(7,8),(27,51)]],[jk 0 [rA 5 .Out,fA 0 .Server []] [(6,8),(10,58)],jk 1 [rA 5 .Out,fA 0 .Server []] [(7,8),(16,58)]],[jk 3 [rA 5 .Out,pA 6 gA,fA 0 .Server []] [(7,8),(10,58)]],[],[]⟩ (by kernel_rfl)
theorem zzi:CT 354 (cE [IC,gA,LB,lA] [IC,HF,wC] (u4 Hn) [7,8]):=eR 410 (IE CB lN IL UG wT zeM zey zex (IE cP zhy znf zib zn8 zhT zhC zie (IE zof zzu znz znk zAe zAD zzm zyZ (IA zym)))) func354 (jn [(4653068,⟨[rA 12 .Out,rA 13 .Note,fA 11 .Server [],fA 8 .Server [0,1,2,5,6]],[(9,10),(16,33),(75,404)],[1000014]⟩),jk 9437204 [rA 12 .Out,rA 13 .Note,fA 8 .Server [0,1,2,5,6],fA 11 .Server [0,1,5,6]] [(9,10),(19,33),(148,404)],jk 12058648 [rA 13 .Note,pA 19 gA,fA 8 .Server [0,1,2,5,6],fA 11 .Server [0,1,2,5,6]] [(9,10),(20,22),(185,279)],jk 19791907 [rA 12 .Out,rA 13 .Note,fA 11 .Server [0,1,2,5,6]] [(24,26),(303,320)],jk 21037096 [rA 12 .Out,rA 13 .Note,fA 8 .Server [0,1,2,5,6],fA 11 .Server [0,1,5,6]] [(9,10),(27,33),(325,404)],jk 23134253 [rA 29 .byte] [(354,354)],(24903730,⟨[rA 13 .Note,fA 11 .Server [0,1,5,6]],[(381,387)],[1000028]⟩),jk 25624630 [rA 13 .Note] [(392,404)]] [jq 4 50 38 49,(11,⟨[pA 92 yA],[(75,91)],[1000011]⟩),jq 19 174 148 173,jq 33 302 286 301,jq 40 340 330 339]) (by kernel_rfl)
theorem zoc:CT 306 (cA [lA,gA,vB] [vB,yA] (u3 Ft)):=eR 42 (xB DL zeJ znU) func306 (jr [jq 1 17 10 16]) (by kernel_rfl)
theorem znI:CT 292 (cE [SB,gA,vB] [SB,nG,wC] (u3 En) [1,5,8,9,11,12,15,16,41,42]):=eR 283 (IE CB mN IL DL aN cP zeJ BT (IE xT bP zoc ZO zib zhM zod zhT (dC zhC zor znV zie))) func292 (jn [(11272218,⟨[rA 11 .Note,fA 9 .Client [1,5,8,9,11,12,15,16]],[(173,197)],[1000014]⟩),jk 13434911 [rA 11 .Note,fA 9 .Client [1,5,8,9,11,12,15,16]] [(206,223)],jk 14811170 [rA 11 .Note] [(227,242)],(16056356,⟨[rA 10 .Frame,rA 11 .Note,fA 9 .Client [1,5,8,9,11,12,15,16]],[(19,21),(246,279)],[15]⟩),(16646182,⟨[rA 10 .Frame,rA 11 .Note,fA 9 .Client [1,5,8,9,11,12,15,16]],[(255,279)],[1000020,1000019]⟩)] [jq 4 38 26 37,jq 6 56 42 55,jq 15 131 123 130]) (by kernel_rfl)
theorem zAi:CT 267 (gB [.ptr [1,11,12,13], .plain, .plain, .plain] [aH,gA,LB,lA] [eE,aH] (u4 Ho) [(false,1)] [0,2,12,13,14] false):=eR 95 (bD zoi zhE znI zzi zn8) func267 a0 (by kernel_rfl)
theorem zxR:CT 161 (gB [.ptr [1,11,12,13], .plain, .plain, .plain] [aH,gA,LB,lA] [aH] (u4 Cz) [] [1,11,12,13] false):=eR 18 (pB zhB zAi) func161 a0 (by kernel_rfl)
theorem zzq:CT 268 (cA [zdW] [yA] Da):=eR 22 (IA CB) func268 (jr [jq 1 2 3 21]) (by kernel_rfl)
theorem zyA:CT 270 (cA [lA,gA,gA] [lA,yA] (λx=>yJ x.1 x.2.1 x.2.2)):=eC 37 pn func270 (jr [jq 1 27 8 26]) (u3 Pj) (by kernel_rfl) IS.ok
theorem zzw:CT 162 (cA [zdI,eE,fH] [lA,yA] (u3 Fu)):=eR 235 (ZE zzq zmZ zyA zT zaI bN zhD) func162 ⟨[jk 3407887 [rA 12 .byte] [(6,7),(13,15),(54,211)],jk 3801105 [rA 12 .byte] [(6,7),(13,15),(60,211)],jk 4849685 [rA 12 .byte] [(6,7),(13,15),(76,211)],jk 5832729 [rA 12 .byte] [(6,7),(13,15),(91,211)],jk 7012382 [rA 12 .byte] [(6,7),(15,15),(109,211)],jk 7929888 [rA 12 .byte] [(6,7),(15,15),(123,211)],jk 10747943 [rA 12 .byte] [(166,211)],jk 11534377 [rA 12 .byte] [(178,211)],jk 12320811 [rA 12 .byte] [(190,211)],jk 12779565 [rA 12 .byte] [(197,211)]],[jk 0 [rA 8 .bs] [(6,7),(9,15),(21,225)],jk 3 [rA 12 .byte] [(15,15),(136,163)]],[jk 5 [rA 8 .bs,pA 9 gA] [(6,7),(10,15),(21,225)],jk 34 [rA 12 .byte,pA 15 gA] [(136,163)]],[jq 8 41 31 40,jq 45 218 212 217],[]⟩ (by kernel_rfl)
theorem zyG:CT 163 (cA [IC] [IC,wC] Hp):=eR 48 (AE lN wT zeM zey zhY zh2) func163 (jr [jq 2 17 9 16]) (by kernel_rfl)
theorem zyM:CT 164 (cA [SB] [SB,wC] Hq):=eR 27 (xB mN aN zol) func164 a0 (by kernel_rfl)
theorem zAm:CT 165 (cA [IC,gA] [IC,wC,gA] (u2 Hr)):=eR 55 (bD CB lN wT oT znv) func165 (jr [jq 4 31 15 30]) (by kernel_rfl)
theorem zzz:CT 279 (cA [WB] [fH] Hs):=eR 39 (IA xI) func279 (jc [jk 655366 [rA 3 .bs] [(11,18)],jk 1966089 [rA 3 .bs] [(31,37)]]) (by kernel_rfl)
theorem zyr:CT 166 (gB [.ptr [1,11,12,13], .plain] [aH,WB] [yA,aH] (u2 Fv) [(false,1)] [2,12,13,14] false):=eR 40 (IA zzz) func166 a0 (by kernel_rfl)
theorem zyC:CT 167 (cA [eH,gA] [eH] (u2 Fw)):=eR 17 (xB CB c55 zeO) func167 (jn [jk 851972 [fA 5 .Dice [0]] [(14,15)]] [jq 2 13 8 12]) (by kernel_rfl)
theorem c68:CT 68 (gB [.ptr [1,11,12,13], .plain] [aH,VK] [yA,aH] (u2 Fx) [(false,1)] [2,12,13,14] false):=eR 519 (IE c36 zeM zne zey zAu zzP zzb zhB (IE zoi zzn zyS zJ zyk zxR zzw zyG (dC zyM zAm zyr zyC))) func68 (jn [jk 3276805 [fA 6 .Wire []] [(4,4),(51,70)],jk 4784138 [fA 0 .World [1,11,12,13]] [(4,4),(7,38),(75,518)],jk 8126482 [fA 0 .World [1,11,12,13]] [(4,4),(13,38),(126,518)],jk 10027031 [fA 0 .World [1,11,12,13]] [(4,4),(17,38),(155,518)],jk 12058653 [fA 0 .World [1,11,12,13]] [(4,4),(21,38),(186,518)],jk 12910626 [fA 0 .World [1,11,12,13]] [(4,4),(22,38),(199,518)],jk 14286884 [fA 0 .World [1,11,12,13]] [(4,4),(22,38),(220,518)],jk 16056361 [fA 0 .World [1,11,12,13]] [(4,4),(26,38),(247,518)],jk 17170478 [fA 0 .World [1,11,12,13]] [(4,4),(27,38),(264,518)],jk 17825840 [fA 0 .World [1,11,12,13]] [(4,4),(27,38),(274,518)],jk 18546738 [fA 0 .World [1,11,12,13]] [(4,4),(27,38),(285,518)],jk 21430330 [fA 0 .World [1,11,12,13]] [(4,4),(30,38),(329,518)],jk 23265343 [fA 0 .World [1,11,12,13]] [(4,4),(32,38),(357,518)],jk 24641605 [fA 0 .World [1,11,12,13]] [(4,4),(34,38),(378,518)],jk 26476618 [fA 0 .World [1,11,12,13]] [(4,4),(36,38),(406,518)],jk 32178260 [fA 0 .World [1,11,12,13]] [(493,518)],jk 32505941 [fA 0 .World [1,11,12,13]] [(497,518)]] [jq 3 50 43 49,jq 50 298 291 297,jk 79 [pA 4 yA,fA 0 .World [1,11,12,13]] [(429,449)],jk 81 [pA 4 yA,fA 0 .World [1,11,12,13]] [(452,490)]]) (by kernel_rfl)
theorem c65:CT 65 (gB [.ptr [], .plain, .plain] [PA,gA,yA] [LC,zcg,LC,PA] (u3 Kl) [(true,14),(false,1),(true,14)] [1,2,7,8,11,12,13,14,16,26,27,28] false):=eR 55 (AE zC c66 c67 c68 zyQ zAf) func65 ⟨[jk 3276813 [fA 10 .World [1,11,12,13], .drop 15] [(51,51)]],[jk 0 [rA 11 .Event,fA 0 .Cur [],fA 12 .int [],fA 10 .World [1,11,12,13]] [(13,15),(25,51)]],[jk 6 [rA 11 .Event,pA 13 gA,fA 0 .Cur [],fA 12 .int [],fA 10 .World [1,11,12,13]] [(14,15),(25,51)]],[jk 11 [pA 50 yA,fA 15 .World [1,11,12,13]] [(39,49)]],[]⟩ (by kernel_rfl)
theorem c28:CT 28 (gB [.ptr [], .plain] [PA,gA] [LC,PA] (u2 Jd) [(true,14)] [1,11,12,13] false):=eR 19 (pB YG c65) func28 a0 (by kernel_rfl)
theorem zny:CT 291 (gB [.ptr []] [PA] [vB,PA] Ko [(true,11)] [2,3,5,6,9,10] false):=eR 12 (pB VD zC) func291 a0 (by kernel_rfl)
theorem zzc:CT 423 (gB [.ptr [], .plain] [PA,gA] [tE,PA] (u2 Jk) [(false,1)] [0] false):=eR 47 (xB MD YG zC) func423 ⟨[jk 1376264 [pA 6 gA,fA 0 .Cur []] [(22,26)],jk 2555915 [rA 5 .int,fA 0 .Cur []] [(40,45)]],[jk 0 [rA 5 .int,fA 0 .Cur []] [(6,7),(16,37)]],[jk 4 [rA 5 .int,pA 6 gA,pA 7 gA,fA 0 .Cur []] [(16,37)]],[],[]⟩ (by kernel_rfl)
theorem zyl:CT 422 (cA [tE] [SE] Jl):=eR 22 (pB znM znE) func422 (jl [jk 0 [fA 3 .Win [1]] [(4,4),(6,20)]] [jk 3 [pA 4 gA,fA 3 .Win [1]] [(6,20)]]) (by kernel_rfl)
theorem zhW:CT 372 (gB [.ptr []] [PA] [SE,PA] Hu [(true,2)] [1] false):=eR 6 (pB zyl zzc) func372 a0 (by kernel_rfl)
theorem zh4:CT 295 (gB [.ptr [], .plain] [PA,gA] [WB,PA] (u2 Hv) [(true,15)] [1,3,6,8,11,14] false):=eR 74 (ZE MD YG VD bN zhM zhW zaK) func295 (jn [jk 1179653 [fA 0 .Cur [],fA 5 .Chan [1,3,6,8,11,14]] [(19,22)],jk 1572871 [fA 5 .Chan [1,3,6,8,11,14],fA 0 .Cur []] [(25,55)],jk 3538957 [fA 5 .Chan [1,3,6,8,11,14]] [(55,55)],jk 4390927 [fA 5 .Chan [1,3,6,8,11,14]] [(68,72)]] [jq 11 54 48 53,jk 13 [pA 67 yA,fA 0 .Cur []] [(56,66)]]) (by kernel_rfl)
theorem znl:CT 296 (gB [.ptr [], .plain] [PA,gA] [iI,PA] (u2 Kp) [(true,4)] [] false):=eR 23 (xB zC BT zhx) func296 (jl [jk 0 [fA 5 .Timer []] [(6,6),(11,21)]] [jk 3 [pA 6 gA,fA 5 .Timer []] [(11,21)]]) (by kernel_rfl)
theorem zyx:CT 181 (gB [.ptr []] [PA] [SB,PA] Jo [(true,41)] [1,5,8,9,11,12,15,16] false):=eR 137 (IE MD YG VD zC zne zJ BT zia (ZE zhx zny znI zhO zeD zh4 znl)) func181 ⟨[jk 5898260 [fA 3 .Client [1,5,8,9,11,12,15,16]] [(91,93)],jk 7602201 [fA 0 .Cur [],fA 3 .Client [1,5,8,9,11,12,15,16]] [(117,135)],jk 8126491 [fA 0 .Cur [],fA 3 .Client [1,5,8,9,11,12,15,16,18,20,23,25,28,31]] [(125,135)],jk 8650781 [fA 3 .Client [1,5,8,9,11,12,15,16,18,20,23,25,28,31]] [(133,135)]],[jk 0 [fA 3 .Client [1,5,8,9,11,12,15,16]] [(7,7),(73,86)]],[jk 15 [pA 7 gA,fA 3 .Client [1,5,8,9,11,12,15,16]] [(73,86)]],[],[]⟩ (by kernel_rfl)
theorem c82:CT 82 (gB [.ptr []] [PA] [LB,PA] Jg [(true,2)] [] false):=eR 17 (dC YG zC c84 zJ) func82 a0 (by kernel_rfl)
theorem c83:CT 83 (gB [.ptr []] [PA] [gA,PA] Ix [(false,1)] [] false):=eR 6 (IA MD) func83 a0 (by kernel_rfl)
theorem ET:CT 33 (gB [.ptr []] [PA] [LB,PA] Db [(true,2)] [] false):=eR 20 (dC MD zC c82 c83) func33 (jc [jk 524293 [fA 0 .Cur [],fA 3 .Addr []] [(10,18)],jk 851975 [fA 0 .Cur [],fA 3 .Addr []] [(15,18)]]) (by kernel_rfl)
theorem zn5:CT 297 (gB [.ptr []] [PA] [vB,PA] Kq [(true,11)] [2,3,5,6,9,10] false):=eR 79 (xB MD VD zC) func297 (jn [jk 2293770 [pA 4 gA] [],jk 2490380 [pA 4 gA] [],jk 2818063 [fA 0 .Cur [],fA 3 .Frame [2,3,5,6,9,10]] [(4,4),(11,42),(45,77)],jq 3407890 52 54 54,jk 3407891 [fA 0 .Cur [],fA 3 .Frame [2,3,5,6,9,10]] [(4,4),(11,42),(55,77)],jk 4587544 [fA 0 .Cur [],fA 3 .Frame [2,3,5,6,9,10]] [(71,77)]] [jq 8 35 28 34]) (by kernel_rfl)
theorem zAy:CT 182 (gB [.ptr []] [PA] [vB,PA] Jp [(true,11)] [2,3,5,6,9,10] false):=eR 87 (dC MD VD zC zn5) func182 (jc [jk 524293 [fA 0 .Cur [],fA 3 .Frame [2,3,5,6,9,10]] [(10,85)],jk 917511 [fA 0 .Cur [],fA 3 .Frame [2,3,5,6,9,10]] [(16,85)],jk 1310729 [fA 0 .Cur [],fA 3 .Frame [2,3,5,6,9,10]] [(22,85)],jk 1835019 [fA 0 .Cur [],fA 3 .Frame [2,3,5,6,9,10]] [(30,85)],jk 2359309 [fA 0 .Cur [],fA 3 .Frame [2,3,5,6,9,10]] [(38,85)],jk 2752527 [fA 0 .Cur [],fA 3 .Frame [2,3,5,6,9,10]] [(44,85)],jk 3276817 [fA 0 .Cur [],fA 3 .Frame [2,3,5,6,9,10]] [(52,85)],jk 3801107 [fA 0 .Cur [],fA 3 .Frame [2,3,5,6,9,10]] [(60,85)],jk 4194325 [fA 0 .Cur [],fA 3 .Frame [2,3,5,6,9,10]] [(66,85)],jk 4587543 [fA 0 .Cur [],fA 3 .Frame [2,3,5,6,9,10]] [(72,85)],jk 5111833 [fA 0 .Cur [],fA 3 .Frame [2,3,5,6,9,10]] [(80,85)]]) (by kernel_rfl)
theorem zx5:CT 374 (gB [.ptr []] [PA] [mE,PA] Jm [(true,5)] [1,4] false):=eR 20 (bD MD YG VD zhW zaK) func374 (jc [jk 983045 [fA 0 .Cur [],fA 3 .Ep [1,4]] [(16,18)]]) (by kernel_rfl)
theorem zyB:CT 375 (gB [.ptr []] [PA] [SE,PA] Jn [(true,2)] [1] false):=eR 33 (xB MD zC zhW) func375 (jc [jk 524293 [fA 0 .Cur [],fA 3 .Win [1]] [(10,31)],jk 917511 [fA 0 .Cur [],fA 3 .Win [1]] [(16,31)],jk 1572873 [fA 0 .Cur [],fA 3 .Win [1]] [(26,31)]]) (by kernel_rfl)
theorem zyw:CT 298 (gB [.ptr []] [PA] [mE,PA] Km [(true,5)] [1,4] false):=eR 34 (bD MD VD zC zx5 zyB) func298 (jc [jk 524293 [fA 0 .Cur [],fA 3 .Ep [1,4]] [(10,32)],jk 917511 [fA 0 .Cur [],fA 3 .Ep [1,4]] [(16,32)],jk 1441801 [fA 0 .Cur [],fA 3 .Ep [1,4]] [(24,32)],jk 1835019 [fA 0 .Cur [],fA 3 .Ep [1,4]] [(30,32)]]) (by kernel_rfl)
theorem znt:CT 183 (gB [.ptr []] [PA] [WB,PA] Kn [(true,15)] [1,3,6,8,11,14] false):=eR 52 (bD MD VD zC zh4 zyw) func183 (jc [jk 655365 [fA 0 .Cur [],fA 3 .Chan [1,3,6,8,11,14]] [(12,50)],jk 1048583 [fA 0 .Cur [],fA 3 .Chan [1,3,6,8,11,14]] [(18,50)],jk 1376265 [fA 0 .Cur [],fA 3 .Chan [1,3,6,8,11,14]] [(23,50)],jk 1703947 [fA 0 .Cur [],fA 3 .Chan [1,3,6,8,11,14]] [(28,50)],jk 2031629 [fA 3 .Chan [1,3,6,8,11,14],fA 0 .Cur []] [(33,50)],jk 2424847 [fA 0 .Cur [],fA 3 .Chan [1,3,6,8,11,14]] [(39,50)],jk 2818065 [fA 0 .Cur [],fA 3 .Chan [1,3,6,8,11,14]] [(45,50)]]) (by kernel_rfl)
theorem zze:CT 184 (gB [.ptr []] [PA] [iI,PA] Kr [(true,4)] [] false):=eR 36 (xB MD zC znl) func184 (jc [jk 720901 [fA 0 .Cur [],fA 3 .Timer []] [(13,34)],jk 1114119 [fA 0 .Cur [],fA 3 .Timer []] [(19,34)],jk 1507337 [fA 0 .Cur [],fA 3 .Timer []] [(25,34)],jk 1900555 [fA 3 .Timer []] [(31,34)]]) (by kernel_rfl)
theorem c77:CT 77 (gB [.ptr []] [PA] [SB,PA] Jq [(true,41)] [1,5,8,9,11,12,15,16] false):=eR 72 (HL MD ET VD zC zyx zAy znt zze) func77 (jc [jk 524293 [fA 0 .Cur [],fA 3 .Client [1,5,8,9,11,12,15,16]] [(10,70)],jk 917511 [fA 0 .Cur [],fA 3 .Client [1,5,8,9,11,12,15,16]] [(16,70)],jk 1441801 [fA 0 .Cur [],fA 3 .Client [1,5,8,9,11,12,15,16]] [(24,70)],jk 1769483 [fA 0 .Cur [],fA 3 .Client [1,5,8,9,11,12,15,16]] [(29,70)],jk 2162701 [fA 0 .Cur [],fA 3 .Client [1,5,8,9,11,12,15,16]] [(35,70)],jk 2686991 [fA 0 .Cur [],fA 3 .Client [1,5,8,9,11,12,15,16]] [(43,70)],jk 3014673 [fA 0 .Cur [],fA 3 .Client [1,5,8,9,11,12,15,16]] [(48,70)],jk 3342355 [fA 0 .Cur [],fA 3 .Client [1,5,8,9,11,12,15,16]] [(53,70)],jk 3670037 [fA 0 .Cur [],fA 3 .Client [1,5,8,9,11,12,15,16]] [(58,70)],jk 3997719 [fA 0 .Cur [],fA 3 .Client [1,5,8,9,11,12,15,16]] [(63,70)],jk 4390937 [fA 3 .Client [1,5,8,9,11,12,15,16]] [(69,70)]]) (by kernel_rfl)
theorem zAl:CT 300 (gB [.ptr []] [PA] [fH,PA] Jr [(false,1)] [0] false):=eR 22 (pB VD zC) func300 (jl [jk 0 [rA 3 .bs,fA 0 .Cur []] [(4,4),(9,20)]] [jk 3 [rA 3 .bs,pA 4 gA,fA 0 .Cur []] [(9,20)]]) (by kernel_rfl)
theorem zn6:CT 308 (gB [.ptr []] [PA] [PD,PA] Ks [(true,3)] [2] false):=eR 34 (bD VD zC zJ zns zmY) func308 (jl [jk 0 [fA 0 .Cur [],fA 3 .Paths [2]] [(4,5),(14,32)]] [jk 4 [pA 4 gA,pA 5 gA,fA 0 .Cur [],fA 3 .Paths [2]] [(14,32)]]) (by kernel_rfl)
theorem zeI:CT 191 (gB [.ptr []] [PA] [OC,PA] Fy [(true,24)] [1,6,9,11,14,17,20] false):=eR 43 (IE MD YG VD zC zJ zny zh4 zoc (pB znf zn6)) func191 (jc [jk 1900549 [fA 0 .Cur [],fA 5 .Sess [1,6,9,11,14,17,20]] [(30,36)],jk 2490376 [fA 0 .Cur [],fA 5 .Sess [1,6,9,11,14,17,20]] [(39,41)]]) (by kernel_rfl)
theorem zn2:CT 301 (gB [.ptr []] [PA] [RD,PA] Kt [(true,2)] [1] false):=eR 47 (AE YG zC oT zeI zh2 zhy) func301 ⟨[jk 1966088 [fA 0 .Cur [],fA 3 .Tab [1]] [(5,5),(31,45)]],[jk 0 [fA 0 .Cur [],fA 3 .Tab [1]] [(4,5),(12,45)]],[jk 3 [pA 4 gA,fA 0 .Cur [],fA 3 .Tab [1]] [(5,5),(12,45)]],[jk 6 [pA 30 yA,fA 0 .Cur []] [(23,29)]],[]⟩ (by kernel_rfl)
theorem znD:CT 303 (gB [.ptr [], .plain] [PA,gA] [aF,PA] (u2 Ku) [(false,1)] [0] false):=eR 36 (bD MD zC zJ zof znB) func303 (jl [jk 0 [rA 5 .Credit,fA 0 .Cur []] [(6,7),(13,34)]] [jk 3 [rA 5 .Credit,pA 6 gA,fA 0 .Cur []] [(7,7),(13,34)]]) (by kernel_rfl)
theorem zzo:CT 185 (gB [.ptr []] [PA] [IC,PA] Js [(true,7)] [0,1,2,5,6] false):=eR 54 (ZE VD zC zoj zAl zn2 zhy znD) func185 ⟨[jk 2097160 [fA 3 .Server [0,1,2,5,6]] [(33,44)]],[jk 0 [fA 3 .Server [0,1,2,5,6]] [(5,5),(16,44)]],[jk 4 [pA 5 gA,fA 3 .Server [0,1,2,5,6]] [(16,44)]],[],[]⟩ (by kernel_rfl)
theorem zzX:CT 186 (gB [.ptr [], .plain, .plain] [PA,fH,fH] [fH,PA] (u3 Jt) [(false,1)] [] false):=eR 11 (IA YG) func186 a0 (by kernel_rfl)
theorem zAA:CT 187 (gB [.ptr []] [PA] [mL,PA] Ju [(true,1)] [0] false):=eR 16 (dC MD YG VD zhY) func187 (jc [jk 524292 [fA 0 .Cur [],fA 3 .Jar [0]] [(9,14)]]) (by kernel_rfl)
theorem zyT:CT 378 (gB [.ptr []] [PA] [PD,PA] Jv [(true,3)] [2] false):=eR 66 (AE MD YG ET VD zC zn6) func378 (jn [jk 1507336 [fA 0 .Cur [],fA 3 .Paths [2]] [(25,64)],jk 1835018 [fA 0 .Cur [],fA 3 .Paths [2]] [(30,64)],jk 2424844 [fA 0 .Cur [],fA 3 .Paths [2]] [(39,64)],jk 3014670 [fA 0 .Cur [],fA 3 .Paths [2]] [(48,64)],jk 3670032 [fA 3 .Paths [2]] [(58,64)]] [jk 2 [pA 14 yA,fA 0 .Cur []] [(7,13)]]) (by kernel_rfl)
theorem zx4:CT 304 (gB [.ptr []] [PA] [OC,PA] Jw [(true,24)] [1,6,9,11,14,17,20] false):=eR 58 (ZE MD VD zC znt oT zeI zyT) func304 (jc [jk 524293 [fA 0 .Cur [],fA 3 .Sess [1,6,9,11,14,17,20],fA 2 .Sess [1,2,4,6,9,11,14,17,20]] [(10,56)],jk 917511 [fA 0 .Cur [],fA 3 .Sess [1,6,9,11,14,17,20],fA 2 .Sess [1,2,4,6,9,11,14,17,20]] [(16,56)],jk 1245193 [fA 0 .Cur [],fA 3 .Sess [1,6,9,11,14,17,20],fA 2 .Sess [1,2,4,6,9,11,14,17,20]] [(21,56)],jk 1769483 [fA 0 .Cur [],fA 3 .Sess [1,6,9,11,14,17,20],fA 2 .Sess [1,2,4,6,9,11,14,17,20]] [(29,56)],jk 2097165 [fA 0 .Cur [],fA 3 .Sess [1,6,9,11,14,17,20],fA 2 .Sess [1,2,4,6,9,11,14,17,20]] [(34,56)],jk 2424847 [fA 0 .Cur [],fA 3 .Sess [1,6,9,11,14,17,20],fA 2 .Sess [1,2,4,6,9,11,14,17,20]] [(39,56)],jk 2818065 [fA 0 .Cur [],fA 3 .Sess [1,6,9,11,14,17,20],fA 2 .Sess [1,2,4,6,9,11,14,17,20]] [(45,56)],jk 3211283 [fA 3 .Sess [1,6,9,11,14,17,20],fA 2 .Sess [1,2,4,6,9,11,14,17,20]] [(51,56)],jq 3407893 52 54 54]) (by kernel_rfl)
theorem zy4:CT 188 (gB [.ptr []] [PA] [RD,PA] Jx [(true,2)] [1] false):=eR 65 (ZE MD VD zC oT zeI zn2 zx4) func188 ⟨[jk 655365 [fA 0 .Cur [],fA 3 .Tab [1]] [(4,5),(12,63)],jk 1048583 [fA 0 .Cur [],fA 3 .Tab [1]] [(4,5),(18,63)],jk 1638409 [fA 3 .Tab [1],fA 0 .Cur []] [(4,5),(27,63)],jk 1966090 [fA 3 .Tab [1]] [(31,39)],jk 2621452 [fA 0 .Cur [],fA 3 .Tab [1]] [(4,5),(42,63)]],[jk 1 [fA 0 .Cur [],fA 4 .Sess [],fA 3 .Tab [1]] [(5,5),(48,63)]],[jk 13 [pA 5 gA,fA 0 .Cur [],fA 4 .Sess [],fA 3 .Tab [1]] [(48,63)]],[],[]⟩ (by kernel_rfl)
theorem zAw:CT 189 (gB [.ptr []] [PA] [aF,PA] Jy [(false,1)] [0] false):=eR 60 (dC MD ET zC znD) func189 (jc [jk 1114120 [rA 3 .Credit,fA 0 .Cur []] [(19,58)],jk 1638410 [rA 3 .Credit,fA 0 .Cur []] [(27,58)],jk 2228236 [rA 3 .Credit,fA 0 .Cur []] [(36,58)],jk 3276814 [rA 3 .Credit] [(52,58)]]) (by kernel_rfl)
theorem c78:CT 78 (gB [.ptr []] [PA] [IC,PA] Jz [(true,7)] [1,2,5,6] false):=eR 61 (IE MD zC zzo zzX zAA zy4 zAw oT (IA zeI)) func78 (jc [jk 524293 [fA 0 .Cur [],fA 3 .Server [1,2,5,6]] [(10,59)],jk 1179655 [fA 0 .Cur [],fA 3 .Server [0,1,2,5,6]] [(20,59)],jk 1507337 [fA 0 .Cur [],fA 3 .Server [0,1,2,5,6]] [(25,59)],jk 1966091 [fA 0 .Cur [],fA 3 .Server [0,1,2,5,6]] [(32,59)],jk 2293773 [fA 0 .Cur [],fA 3 .Server [0,1,2,5,6]] [(37,59)],jk 2621455 [fA 3 .Server [0,1,2,5,6],fA 0 .Cur []] [(42,59)],jk 3145745 [fA 0 .Cur [],fA 3 .Server [0,1,2,5,6]] [(50,59)]]) (by kernel_rfl)
theorem zyy:CT 192 (gB [.ptr []] [PA] [eH,PA] Ka [(true,2)] [0] false):=eR 11 (pB VD zC) func192 a0 (by kernel_rfl)
theorem c79:CT 79 (gB [.ptr []] [PA] [eH,PA] Kb [(true,2)] [0] false):=eR 23 (dC MD VD zC zyy) func79 (jc [jk 524293 [fA 0 .Cur [],fA 3 .Dice [0]] [(10,21)],jk 917511 [fA 0 .Cur [],fA 3 .Dice [0]] [(16,21)]]) (by kernel_rfl)
theorem zys:CT 193 (gB [.ptr []] [PA] [rO,PA] Kc [(true,5)] [4] false):=eR 26 (ZE MD YG VD zC zJ zhH zn5) func193 a0 (by kernel_rfl)
theorem c80:CT 80 (gB [.ptr []] [PA] [rO,PA] Kd [(true,5)] [4] false):=eR 24 (dC ET VD zC zys) func80 (jc [jk 524293 [fA 0 .Cur [],fA 3 .Wire [4]] [(10,22)],jk 851975 [fA 0 .Cur [],fA 3 .Wire [4]] [(15,22)],jk 1179657 [fA 0 .Cur [],fA 3 .Wire [4]] [(20,22)]]) (by kernel_rfl)
theorem zAG:CT 309 (gB [.ptr []] [PA] [lA,PA] Ht [(false,1)] [0] false):=eR 19 (IA zC) func309 (jl [jk 0 [rA 3 .byte] [(5,5),(10,17)]] [jk 4 [rA 3 .byte,pA 5 gA] [(10,17)]]) (by kernel_rfl)
theorem zAr:CT 310 (gB [.ptr []] [PA] [lA,PA] Je [(false,1)] [0] false):=eR 19 (IA zC) func310 (jl [jk 0 [rA 3 .byte] [(5,5),(10,17)]] [jk 4 [rA 3 .byte,pA 5 gA] [(10,17)]]) (by kernel_rfl)
theorem zyi:CT 194 (gB [.ptr []] [PA] [eF,PA] Jf [(true,12)] [3,4,7,8] false):=eR 36 (dC zC zJ zAG zAr) func194 a0 (by kernel_rfl)
theorem c81:CT 81 (gB [.ptr []] [PA] [eF,PA] Jh [(true,12)] [3,4,7,8] false):=eR 82 (bD MD ET VD zC zyi) func81 (jc [jk 524293 [fA 0 .Cur [],fA 3 .Note [3,4,7,8]] [(10,80)],jk 917511 [fA 0 .Cur [],fA 3 .Note [3,4,7,8]] [(16,80)],jk 1310729 [fA 0 .Cur [],fA 3 .Note [3,4,7,8]] [(22,80)],jk 1703947 [fA 0 .Cur [],fA 3 .Note [3,4,7,8]] [(28,80)],jk 2228237 [fA 0 .Cur [],fA 3 .Note [3,4,7,8]] [(36,80)],jk 2752527 [fA 0 .Cur [],fA 3 .Note [3,4,7,8]] [(44,80)],jk 3145745 [fA 0 .Cur [],fA 3 .Note [3,4,7,8]] [(50,80)],jk 3538963 [fA 0 .Cur [],fA 3 .Note [3,4,7,8]] [(56,80)],jk 4063253 [fA 0 .Cur [],fA 3 .Note [3,4,7,8]] [(64,80)],jk 4587543 [fA 0 .Cur [],fA 3 .Note [3,4,7,8]] [(72,80)],jk 4915225 [fA 0 .Cur [],fA 3 .Note [3,4,7,8]] [(77,80)]]) (by kernel_rfl)
theorem c30:CT 30 (gB [.ptr [], .plain] [PA,gA] [LC,PA] (u2 Ke) [(true,14)] [1,11,12,13] false):=eR 88 (IE c28 MD VD zC c77 c78 c79 c80 (IA c81)) func30 (jc [jk 720901 [fA 0 .Cur [],fA 5 .World [1,11,12,13]] [(13,86)],jk 1114119 [fA 0 .Cur [],fA 5 .World [1,11,12,13]] [(19,86)],jk 1703945 [fA 0 .Cur [],fA 5 .World [1,11,12,13]] [(28,86)],jk 2228235 [fA 0 .Cur [],fA 5 .World [1,11,12,13]] [(36,86)],jk 2555917 [fA 0 .Cur [],fA 5 .World [1,11,12,13]] [(41,86)],jk 2883599 [fA 0 .Cur [],fA 5 .World [1,11,12,13]] [(46,86)],jk 3473425 [fA 0 .Cur [],fA 5 .World [1,11,12,13]] [(55,86)],jk 4259859 [fA 0 .Cur [],fA 5 .World [1,11,12,13]] [(67,86)],jk 4849685 [fA 5 .World [1,11,12,13]] [(76,86)],jk 5242903 [fA 5 .World [1,11,12,13]] [(82,86)]]) (by kernel_rfl)
theorem c19:CT 19 (cE [lA] [LC,zcg] Kg [1,11,12,13,14]):=eR 24 (bD c27 c29 c30 YG c65) func19 (jc [jk 1245189 [fA 4 .Cur [],fA 5 .World [1,11,12,13]] [(20,21)]]) (by kernel_rfl)
theorem c20:CT 20 (cA [lA,gA] [gA] (u2 Ji)):=eR 21 pn func20 a0 (by kernel_rfl)
theorem bC:CT 87 (cA [lA] [lA] (λx=>BA x)):=eC 6 pn func87 a0 Sf (by kernel_rfl) zcj.ok
theorem c90:CT 90 (cA [fH] [fH] (λx=>oS x)):=eC 20 (IA bC) func90 (jl [jk 0 [rA 3 .bs] [(5,5),(9,18)]] [jk 3 [rA 3 .bs,pA 9 gA] [(5,5),(10,18)]]) Pu (by kernel_rfl) sU.ok
theorem znZ:CT 384 (cA [SE] [SE] (λx=>(λ(a0:Aq)=>oA a0) x)):=eC 10 pn func384 a0 So (by kernel_rfl) zbj.ok
theorem zhS:CT 312 (cA [mE] [mE] (λx=>(λ(a0:Ax)=>oA a0) x)):=eC 14 (pB bC znZ) func312 a0 Qj (by kernel_rfl) QU.ok
theorem vK:CT 197 (cA [WB] [WB] (λx=>(λ(a0:Ak)=>oA a0) x)):=eC 20 (pB bC zhS) func197 a0 Qk (by kernel_rfl) nU.ok
theorem zaM:CT 383 (cA [PD] [PD] (λx=>(λ(a0:Aj)=>oA a0) x)):=eC 31 (IA bC) func383 (jl [jk 0 [fA 3 .Paths [2]] [(5,5),(12,29)]] [jk 3 [pA 12 gA,fA 3 .Paths [2]] [(5,5),(13,29)]]) Pk (by kernel_rfl) SP.ok
theorem gN:CT 311 (cA [OC] [OC] (λx=>(λ(a0:Ah)=>oA a0) x)):=eC 20 (xB bC vK zaM) func311 a0 Ql (by kernel_rfl) tU.ok
theorem zeG:CT 195 (cA [RD] [RD] (λx=>(λ(a0:Ao)=>oA a0) x)):=eC 25 (IA gN) func195 (jl [jk 0 [fA 3 .Tab [1]] [(5,5),(12,23)]] [jk 3 [pA 12 gA,fA 3 .Tab [1]] [(5,5),(13,23)]]) Sp (by kernel_rfl) zbi.ok
theorem zhV:CT 196 (cA [aF] [aF] (λx=>(λ(a0:List Al)=>oA a0) x)):=eC 6 pn func196 a0 Qm (by kernel_rfl) RT.ok
theorem LT:CT 86 (cA [IC] [IC] (λx=>(λ(a0:Ac)=>oA a0) x)):=eC 26 (dC bC c90 zeG zhV) func86 a0 Qn (by kernel_rfl) TT.ok
theorem zhu:CT 111 (cA [vB] [vB] (λx=>(λ(a0:Ab)=>oA a0) x)):=eC 28 (IA bC) func111 a0 Qo (by kernel_rfl) fU.ok
theorem CJ:CT 88 (cA [SB] [SB] (λx=>(λ(a0:Ae)=>oA a0) x)):=eC 20 (xB bC zhu vK) func88 a0 Qp (by kernel_rfl) WT.ok
theorem c89:CT 89 (cA [eE] [eE] (λx=>(λ(a0:List Ap)=>oA a0) x)):=eC 26 (IA bC) func89 (jl [jk 0 [rA 3 .Wire] [(5,5),(9,24)]] [jk 3 [rA 3 .Wire,pA 9 gA] [(5,5),(10,24)]]) Pl (by kernel_rfl) GP.ok
theorem zzT:CT 198 (cA [eF] [eF] (λx=>(λ(a0:Ad)=>oA a0) x)):=eC 20 (IA bC) func198 a0 Qq (by kernel_rfl) qU.ok
theorem c91:CT 91 (cA [wC] [wC] (λx=>(λ(a0:List Ad)=>oA a0) x)):=eC 20 (IA zzT) func91 (jl [jk 0 [rA 3 .Note] [(5,5),(9,18)]] [jk 3 [rA 3 .Note,pA 9 gA] [(5,5),(10,18)]]) Sq (by kernel_rfl) zaU.ok
theorem FT:CT 38 (cA [LC] [LC] (λx=>(λ(a0:Aa)=>oA a0) x)):=eC 48 (AE LT bC CJ c89 c90 c91) func38 (jl [jk 0 [fA 3 .World [1,2,3,4,7,8,9,11,12,13]] [(5,5),(23,34)]] [jk 3 [pA 23 gA,fA 3 .World [1,2,3,4,7,8,9,11,12,13]] [(5,5),(24,34)]]) Qr (by kernel_rfl) hU.ok
theorem FB:CT 39 (cA [gA,gA,gA] [yA] (λx=>some (eA x.1 x.2.1 x.2.2))):=eD 15 pn func39 (jr [jq 1 6 7 14]) (u3 Qu) (by kernel_rfl) zb0.ok
theorem zhX:CT 115 (cA [mL] [yA] (λx=>some (QE x))):=eD 7 pn func115 a0 Rm (by kernel_rfl) zce.ok
theorem c48:CT 48 (cA [eH] [yA] (λx=>some (gC x))):=eD 12 (IA FB) func48 (jr [jq 1 2 3 11]) Rl (by kernel_rfl) zbB.ok
theorem znr:CT 232 (cA [RD] [gA] (λx=>qJ x)):=eC 20 pn func232 ⟨[jk 983047 [pA 3 gA] [(16,17)]],[jk 0 [pA 3 gA] [(5,5),(9,18)]],[jk 3 [pA 3 gA,pA 9 gA] [(5,5),(10,18)]],[],[]⟩ Rn (by kernel_rfl) zcy.ok
theorem pH:CT 121 (cA [lA] [yA] (λx=>some (nA x))):=eD 6 pn func121 a0 Ra (by kernel_rfl) zbf.ok
theorem BI:CT 51 (cA [lA,lA] [yA] (λx=>EB x.1 x.2)):=eC 10 pn func51 a0 (u2 Qx) (by kernel_rfl) zb4.ok
theorem zzK:CT 337 (cA [tE,tE] [yA] (λx=>some (zeo x.1 x.2))):=eD 26 pn func337 (jl [jk 0 [] [(4,6),(14,25)]] [jk 4 [pA 14 gA] [(4,6),(15,25)]]) (u2 Rd) (by kernel_rfl) za7.ok
theorem zn3:CT 234 (cA [mE,mE] [yA] (λx=>FO x.1 x.2)):=eC 42 (pB BI zzK) func234 (jr [jq 1 4 5 41]) (u2 Ln) (by kernel_rfl) KR.ok
theorem zng:CT 120 (cA [WB] [yA] (λx=>BO x)):=eC 40 (IA zn3) func120 (jr [jq 1 2 3 39]) Lu (by kernel_rfl) DP.ok
theorem zaJ:CT 235 (cA [gA] [yA] (λx=>some (NA x))):=eD 9 pn func235 (jr [jq 1 2 3 8]) Pn (by kernel_rfl) MU.ok
theorem zh3:CT 393 (cA [tE,gA] [yA] (λx=>some (FC x.1 x.2))):=eD 21 (IA FB) func393 (jl [jk 0 [] [(4,4),(6,6),(9,16)]] [jk 2 [pA 9 gA] [(4,4),(6,6),(10,16)]]) (u2 Po) (by kernel_rfl) kU.ok
theorem zna:CT 394 (cA [SE,gA] [yA] (λx=>YF x.1 x.2)):=eC 17 pn func394 a0 (u2 Rb) (by kernel_rfl) zbM.ok
theorem zob:CT 338 (cA [SE] [yA] (λx=>some (iD x))):=eD 33 (xB FB zh3 zna) func338 (jm [jk 0 [] [(2,3),(17,23)]] [jk 4 [pA 3 gA] [(2,2),(17,23)]] [jq 1 13 4 12,jq 8 2 24 32]) Lm (by kernel_rfl) WR.ok
theorem zeK:CT 236 (cA [mE] [yA] (λx=>some (aD x))):=eD 22 (pB FB zob) func236 (jr [jq 1 2 3 21]) Rc (by kernel_rfl) zcL.ok
theorem zz1:CT 237 (cA [WB] [yA] (λx=>zdX x)):=eC 42 (xB FB zn3 zeK) func237 (jr [jq 2 2 6 14,jq 3 28 15 27,jq 5 2 29 41]) Lo (by kernel_rfl) UR.ok
theorem RH:CT 124 (cA [WB] [yA] (λx=>uC x)):=eC 45 (dC pH zaJ zeK zz1) func124 (jr [jq 1 23 3 22,jq 3 2 24 44]) Lp (by kernel_rfl) uR.ok
theorem iG:CT 16 (cA [LB] [yA] (λx=>some (GA x))):=eD 11 (IA FB) func16 (jr [jq 1 2 3 10]) Rf (by kernel_rfl) zb2.ok
theorem zeA:CT 336 (cA [PD] [yA] (λx=>some (sC x))):=eD 64 (xB iG FB pH) func336 (jm [jk 0 [] [(2,4),(6,6),(20,63)],jk 2 [] [(2,2),(6,6),(53,62)]] [jk 4 [pA 20 gA] [(2,4),(6,6),(21,63)],jk 9 [pA 53 gA] [(2,2),(6,6),(54,62)]] [jq 1 16 7 15,jq 6 47 25 46]) Lv (by kernel_rfl) CQ.ok
theorem aP:CT 233 (cA [OC] [yA] (λx=>LD x)):=eC 76 (AE FB BI zng pH RH zeA) func233 (jr [jq 1 24 3 23,jq 4 2 27 48,jq 5 2 49 75]) Lw (by kernel_rfl) HR.ok
theorem zaH:CT 113 (cA [RD,lA] [gA] (λx=>KD x.1 x.2)):=eC 21 (IA BI) func113 (jl [jk 0 [] [(4,6),(10,20)]] [jk 2 [pA 10 gA] [(4,6),(11,20)]]) (u2 Ro) (by kernel_rfl) zbO.ok
theorem zeS:CT 116 (cA [RD] [yA] (λx=>sG x)):=eC 42 (dC FB zaH znr aP) func116 (jm [jk 0 [] [(2,4),(25,41)]] [jk 4 [pA 25 gA] [(2,4),(26,41)]] [jq 1 21 5 20,jq 6 40 30 39]) Lx (by kernel_rfl) QR.ok
theorem zeF:CT 199 (cA [aF,LB] [gA] (λx=>some (oB x.1 x.2))):=eD 20 pn func199 (jl [jk 0 [] [(4,6),(9,19)]] [jk 2 [pA 9 gA] [(4,6),(10,19)]]) (u2 Rp) (by kernel_rfl) za8.ok
theorem zeu:CT 117 (cA [aF] [yA] (λx=>some (kD x))):=eD 43 (xB iG FB zeF) func117 (jm [jk 0 [] [(2,4),(10,42)]] [jk 4 [pA 10 gA] [(2,4),(11,42)]] [jq 6 41 15 40]) Ly (by kernel_rfl) QP.ok
theorem zaL:CT 118 (cA [lA] [yA] (λx=>some (GC x))):=eD 6 (IA FB) func118 a0 Rq (by kernel_rfl) zcl.ok
theorem JT:CT 47 (cA [IC] [yA] (λx=>JC x)):=eC 62 (AE FB c48 zhX zeS zeu zaL) func47 (jm [jk 0 [] [(2,2),(4,4),(39,46)],jk 2 [] [(2,2),(6,6),(51,61)]] [jk 4 [pA 39 gA] [(2,2),(4,4),(40,46)],jk 10 [pA 51 gA] [(2,2),(6,6),(52,61)]] [jq 1 35 7 34]) Lz (by kernel_rfl) iQ.ok
theorem c15:CT 15 (cA [rO] [yA] (λx=>some (PE x))):=eD 17 (IA iG) func15 (jr [jq 1 2 3 16]) Sb (by kernel_rfl) zbN.ok
theorem c49:CT 49 (cA [eE] [yA] (λx=>some (QD x))):=eD 18 (IA c15) func49 (jl [jk 0 [] [(2,2),(4,4),(7,14)]] [jk 2 [pA 7 gA] [(2,2),(4,4),(8,14)]]) Mp (by kernel_rfl) TQ.ok
theorem znh:CT 119 (cA [vB,vB] [yA] (λx=>VN x.1 x.2)):=eC 80 (IA BI) func119 (jr [jq 1 4 5 79]) (u2 Ma) (by kernel_rfl) HP.ok
theorem znN:CT 122 (cA [iI] [yA] (λx=>some (xD x))):=eD 39 (IA FB) func122 (jr [jq 3 3 10 27,jq 4 2 28 38]) Mb (by kernel_rfl) VQ.ok
theorem dP:CT 95 (cA [gA] [yA] (λx=>some (jC x))):=eD 5 (IA FB) func95 a0 Rr (by kernel_rfl) zbY.ok
theorem zAF:CT 216 (cA [gA,gA] [yA] (λx=>some (dG x.1 x.2))):=eD 17 pn func216 (jc [jq 655366 10 12 12]) (u2 Pr) (by kernel_rfl) LU.ok
theorem AJ:CT 103 (cA [vB] [yA] (λx=>VC x)):=eC 165 (bD FB dP znh pH zAF) func103 (jn [jk 524293 [pA 4 yA,fA 3 .Frame []] [(12,158)],jk 1703944 [pA 4 yA,fA 3 .Frame []] [(30,158)],jk 3997707 [pA 4 yA,fA 3 .Frame []] [(65,158)],jk 7405582 [pA 4 yA,fA 3 .Frame [2,5,6]] [(117,158)]] [jq 5 4 18 25,jq 8 4 42 60,jq 11 4 83 112,jq 14 4 132 158,jq 15 2 159 164]) Mc (by kernel_rfl) xQ.ok
theorem zzj:CT 123 (cA [SB] [yA] (λx=>zcS x)):=eC 74 (dC BI AJ pH RH) func123 (jr [jq 1 35 3 34,jq 3 2 36 73]) Md (by kernel_rfl) pQ.ok
theorem kN:CT 50 (cA [SB] [yA] (λx=>OD x)):=eC 161 (IE iG FB zaL znh zng pH znN zzj (IA RH)) func50 (jr [jq 1 20 5 19,jq 7 2 33 58,jq 9 2 61 92,jq 11 2 95 117,jq 13 2 120 160]) Me (by kernel_rfl) kQ.ok
theorem zzM:CT 125 (cA [lA,gA] [yA] (λx=>some (WC x.1 x.2))):=eD 14 pn func125 (jr [jq 1 4 5 13]) (u2 Pq) (by kernel_rfl) yU.ok
theorem c52:CT 52 (cA [eF] [yA] (λx=>some (mC x))):=eD 57 (xB iG FB zzM) func52 (jr [jq 1 2 3 56]) Lr (by kernel_rfl) LR.ok
theorem jG:CT 11 (cA [LC] [yA] (λx=>FG x)):=eC 101 (ZE FB JT c48 c49 kN BI c52) func11 (jm [jk 0 [] [(2,4),(51,78)],jk 2 [] [(2,2),(6,6),(82,89)],jk 4 [] [(2,2),(8,8),(93,100)]] [jk 6 [pA 51 gA] [(2,4),(52,78)],jk 12 [pA 82 gA] [(2,2),(6,6),(83,89)],jk 18 [pA 93 gA] [(2,2),(8,8),(94,100)]] [jq 1 31 9 30,jq 3 47 32 46,jq 8 77 56 76]) Mq (by kernel_rfl) JQ.ok
theorem c70:CT 70 (cA [VK] [yA] (λx=>some (fF x))):=eD 33 (IA FB) func70 (jr [jq 1 2 3 32]) Qv (by kernel_rfl) zba.ok
theorem wK:CT 218 (cA [lA,gA,gA] [lA] (λx=>YB x.1 x.2.1 x.2.2)):=eC 35 pn func218 (jm [jk 0 [rA 7 .byte] [(8,8),(21,33)]] [jk 5 [rA 7 .byte,pA 8 gA] [(21,33)]] [jq 2 17 12 16]) (u3 Mt) (by kernel_rfl) AS.ok
theorem zzl:CT 457 (cA [] [tE] (λ_=>some (EE))):=eD 2 pn func457 a0 (λ_=>Sg) (by kernel_rfl) zcv.ok
theorem zx9:CT 445 (cA [] [CV] (λ_=>some (JO))):=eD 3 (IA zzl) func445 a0 (λ_=>Sh) (by kernel_rfl) zbq.ok
theorem znb:CT 453 (cA [CV] [yA] (λx=>some (OG x))):=eD 20 (pB FB zh3) func453 (jr [jq 1 2 3 19]) Mu (by kernel_rfl) FR.ok
theorem uI:CT 217 (cA [fH] [lA] (λx=>mD x)):=eC 18 pn func217 (jl [jk 0 [rA 3 .byte] [(5,5),(9,16)]] [jk 3 [rA 3 .byte,pA 9 gA] [(5,5),(10,16)]]) Mv (by kernel_rfl) pR.ok
theorem zm5:CT 325 (cA [lA,gA,gA] [lA,yA] (λx=>yJ x.1 x.2.1 x.2.2)):=eC 36 pn func325 (jr [jq 1 27 8 26]) (u3 Mw) (by kernel_rfl) GS.ok
theorem znn:CT 215 (cA [lA,gA,gA] [gA,gA,yA] (λx=>mH x.1 x.2.1 x.2.2)):=eC 45 (IA zm5) func215 (jm [jk 0 [pA 11 gA] [(13,13),(31,40)]] [jk 8 [pA 11 gA,pA 31 gA] [(13,13),(32,40)]] [jq 1 19 14 18]) (u3 Mx) (by kernel_rfl) sS.ok
theorem zon:CT 461 (cA [gA,gA] [gA] (λx=>pE x.1 x.2)):=eC 23 pn func461 (jr [jq 2 12 7 11]) (u2 My) (by kernel_rfl) SS.ok
theorem zzr:CT 460 (cA [lA] [tE] (λx=>mM x)):=eC 79 (pB znn zon) func460 (jl [jk 0 [rA 3 .int] [(4,4),(14,28)],jk 2 [rA 3 .int] [(5,9),(29,77)]] [jk 5 [pA 4 gA,rA 3 .int] [(14,28)],jk 9 [pA 5 gA,rA 3 .int] [(6,9),(29,77)]]) Mz (by kernel_rfl) jQ.ok
theorem zxJ:CT 462 (cA [gA] [gA] (λx=>some (tM x))):=eD 14 pn func462 (jr [jq 1 9 4 8]) Ki (by kernel_rfl) pN.ok
theorem zAc:CT 463 (cA [gA,gA] [gA] (λx=>some (UF x.1 x.2))):=eD 9 pn func463 a0 (u2 Si) (by kernel_rfl) zck.ok
theorem zz3:CT 459 (cA [tE,lA] [tE] (λx=>WK x.1 x.2)):=eC 151 (bD zh3 zzr zon zxJ zAc) func459 (jm [jk 0 [pA 7 gA,pA 8 gA,pA 9 gA,pA 10 gA,pA 11 gA,pA 12 gA,pA 13 gA,pA 14 gA] [(15,19),(60,124)],jk 2 [rA 5 .int] [(20,21),(135,149)]] [jk 7 [pA 7 gA,pA 8 gA,pA 9 gA,pA 10 gA,pA 11 gA,pA 12 gA,pA 13 gA,pA 14 gA,pA 15 gA] [(16,19),(60,124)],jk 16 [pA 135 gA,rA 5 .int] [(20,21),(136,149)]] [jq 2 32 25 31]) (u2 Na) (by kernel_rfl) cQ.ok
theorem znw:CT 454 (cN [tE,lA] [tE,lA] (λx=>yT x.1 x.2)):=eC 17 (IA zz3) func454 (jl [jk 0 [pA 0 tE,pA 1 lA] [(6,14)]] [jk 1 [pA 0 tE,pA 1 lA] [(6,14)]]) (u2 Nb) (by kernel_rfl) mP.ok
theorem zAt:CT 444 (cA [CV,lA] [CV] (λx=>zdl x.1 x.2)):=eC 50 (dC bC uI znb znw) func444 (jr [jq 1 17 7 16]) (u2 Nc) (by kernel_rfl) fR.ok
theorem zyj:CT 455 (cA [gA] [lA] (λx=>ZM x)):=eC 25 (pB FB wK) func455 (jl [jk 0 [rA 3 .byte] [(8,17)]] [jk 4 [rA 3 .byte] [(8,17)]]) Nd (by kernel_rfl) ES.ok
theorem zxS:CT 456 (cA [tE] [lA] (λx=>QK x)):=eC 18 (IA wK) func456 (jl [jk 0 [rA 3 .byte] [(5,5),(9,16)]] [jk 3 [rA 3 .byte,pA 9 gA] [(5,5),(10,16)]]) Nf (by kernel_rfl) TP.ok
theorem zzN:CT 443 (cA [CV] [lA] (λx=>zc6 x)):=eC 23 (bD uI znb znw zyj zxS) func443 a0 Ng (by kernel_rfl) yQ.ok
theorem zm2:CT 414 (cA [lA] [lA] (λx=>some (JE x))):=eD 10 (xB zzN zAt zx9) func414 a0 Nh (by kernel_rfl) PS.ok
theorem zAa:CT 413 (cA [lA] [lA] (λx=>some (kE x))):=eD 21 (pB bC zm2) func413 ⟨[jk 720902 [rA 3 .byte] [(12,13)]],[jk 0 [rA 3 .byte] [(14,19)]],[jk 6 [rA 3 .byte] [(14,19)]],[],[]⟩ Ni (by kernel_rfl) YP.ok
theorem zyP:CT 415 (cA [lA, .v .byte] [lA] (λx=>zak x.1 x.2)):=eC 23 pn func415 (jl [jk 0 [rA 5 .byte] [(7,7),(11,21)]] [jk 3 [rA 5 .byte,pA 11 gA] [(7,7),(12,21)]]) (u2 Nj) (by kernel_rfl) nR.ok
theorem pT:CT 360 (cA [lA,lA] [lA] (λx=>some (ZC x.1 x.2))):=eD 27 (dC uI zAa zm2 zyP) func360 (jr [jq 1 13 6 12]) (u2 Nk) (by kernel_rfl) xS.ok
theorem zzI:CT 280 (cA [lA,gA] [lA] (λx=>some (CD x.1 x.2))):=eD 22 (dC FB bC wK pT) func280 (jr [jq 1 13 5 12]) (u2 Nl) (by kernel_rfl) wR.ok
theorem zez:CT 168 (cA [eH] [eH,lA] (λx=>iE x)):=eC 30 (xB c48 bC zzI) func168 (jr [jq 2 18 11 17]) Pt (by kernel_rfl) vV.ok
theorem zeR:CT 169 (cA [lA] [eF] (λx=>ZD x)):=eC 6 (IA bC) func169 a0 Py (by kernel_rfl) pU.ok
theorem zeE:CT 220 (cA [gA] [iI] Bf):=eR 10 (IA FB) func220 a0 (by kernel_rfl)
theorem znG:CT 110 (cA [SB] [vB] Fz):=eR 9 (IA bC) func110 a0 (by kernel_rfl)
theorem zyN:CT 170 (cA [SB,gA,lA] [SB,nG,wC,gA] (u3 Hw)):=eR 51 (ZE FB kN bC CJ znG pH zeE) func170 (jr [jq 2 26 14 25]) (by kernel_rfl)
theorem zhZ:CT 332 (cA [gA,lA,gA,gA] [lA] (u4 Eo)):=eR 37 (bD FB pH uI wK zaJ) func332 (jr [jq 1 26 9 25]) (by kernel_rfl)
theorem zzV:CT 446 (cA [lA,lA,gA] [lA] (u3 Hx)):=eR 23 (dC FB uI wK pT) func446 (jr [jq 1 14 7 13]) (by kernel_rfl)
theorem zzC:CT 416 (cA [lA,lA,gA] [lA] (u3 Hy)):=eR 39 (xB FB bC zzV) func416 (jm [jk 0 [rA 7 .byte] [(8,8),(23,34)]] [jk 5 [rA 7 .byte,pA 8 gA] [(23,34)]] [jq 1 21 9 20]) (by kernel_rfl)
theorem zhI:CT 362 (cA [lA,lA,lA] [lA] (u3 Eq)):=eR 46 (IA zzC) func362 (jm [jk 0 [rA 7 .byte] [(8,9),(30,44)]] [jk 5 [rA 7 .byte,pA 30 gA] [(8,9),(31,44)]] [jq 1 22 10 21]) (by kernel_rfl)
theorem uT:CT 225 (cA [gA,vB] [lA] (u2 Ch)):=eR 36 (bD dP AJ uI zaJ zhZ) func225 (jr [jq 1 18 5 17]) (by kernel_rfl)
theorem zaN:CT 313 (cA [lA,lA] [lA] (u2 Bz)):=eR 15 (pB bC pT) func313 a0 (by kernel_rfl)
theorem zzD:CT 392 (cE [lA,gA,lA,gA,gA,gA,lA] [vB,yA] (u7 Dq) [2,5,6,9,10]):=eR 61 (HL bC dP AJ uT zaJ zaN zhZ zhI) func392 (jr [(2,⟨[pA 43 yA],[(26,42)],[19,23,24]⟩)]) (by kernel_rfl)
theorem zxT:CT 333 (cE [mE,gA,lA,gA,lA] [mE,vB,gA] (u5 Er) [1,4,7,10,11,14,15]):=eR 75 (xB zeK zhS zzD) func333 (jr [jq 7 47 41 46]) (by kernel_rfl)
theorem tT:CT 226 (cE [WB,gA,lA] [WB,vB,gA] (u3 Bq) [1,3,6,8,11,14,17,20,21,24,25]):=eR 38 (xB RH vK zxT) func226 a0 (by kernel_rfl)
theorem zh1:CT 202 (cA [lA,lA] [eF] (u2 Es)):=eR 10 (IA bC) func202 a0 (by kernel_rfl)
theorem dN:CT 227 (cA [WB,vB] [eF] (u2 Br)):=eR 13 (pB zh1 uT) func227 a0 (by kernel_rfl)
theorem zyc:CT 171 (cA [SB,gA,lA] [SB,nG,wC,gA] (u3 Hz)):=eR 67 (AE FB kN bC CJ tT dN) func171 ⟨[],[],[],[jq 2 29 17 28],[(11,[1000012])]⟩ (by kernel_rfl)
theorem zz8:CT 385 (cA [lA,lA,gA] [lA,yA] (λx=>some (jH x.1 x.2.1 x.2.2))):=eD 48 (dC FB bC uI pT) func385 (jm [jk 0 [rA 8 .byte,rA 9 .byte] [(10,10),(26,43)]] [jk 6 [rA 8 .byte,rA 9 .byte,pA 10 gA] [(26,43)]] [jq 1 23 11 22]) (u3 Nx) (by kernel_rfl) vR.ok
theorem VO:CT 319 (cA [lA, .v .str] [lA] (λx=>uE x.1 x.2)):=eC 15 (IA zz8) func319 a0 (u2 Pv) (by kernel_rfl) bV.ok
theorem zzg:CT 281 (cA [WB] [WB,yA] Cu):=eR 34 (xB RH vK VO) func281 (jr [jq 2 26 7 25]) (by kernel_rfl)
theorem zhG:CT 334 (cA [gA] [lA] Bk):=eR 8 (pB FB wK) func334 a0 (by kernel_rfl)
theorem zoo:CT 229 (cE [WB] [WB,vB,gA] Ga [1,3,6,8,11,14,17,20,21,24,25]):=eR 27 (dC RH vK tT zhG) func229 (jr [jq 1 13 5 12]) (by kernel_rfl)
theorem zxV:CT 172 (cA [SB,gA] [SB,nG,wC,gA] (u2 Ia)):=eR 67 (ZE FB kN CJ zeE dN zoo zzg) func172 ⟨[],[],[],[jq 2 23 16 22,jq 4 34 25 33,jq 8 53 48 52],[(11,[1000012])]⟩ (by kernel_rfl)
theorem c60:CT 60 (cA [gA] [LB] (λx=>some (AB x))):=eD 12 (IA FB) func60 a0 Ri (by kernel_rfl) zcY.ok
theorem zyX:CT 173 (cA [SB,LB] [SB] (u2 Ct)):=eR 17 (xB iG kN CJ) func173 (jn [jk 851972 [fA 5 .Client [1,5,8,9,11,12,15,16,18,20,23,25,28,31]] [(14,15)]] [jq 2 13 8 12]) (by kernel_rfl)
theorem zhJ:CT 109 (cA [SB] [SB] Dr):=eR 11 (IA bC) func109 a0 (by kernel_rfl)
theorem zeH:CT 114 (cA [gA,gA,lA] [eF] (u3 Ci)):=eR 12 (IA bC) func114 a0 (by kernel_rfl)
theorem zxQ:CT 174 (cA [SB] [SB,wC] Ib):=eR 23 (dC kN CJ zhJ zeH) func174 a0 (by kernel_rfl)
theorem KT:CT 14 (cA [] [LB] (λ_=>some (BE))):=eD 2 (IA c60) func14 a0 (λ_=>Rj) (by kernel_rfl) zdk.ok
theorem zhR:CT 104 (cA [vB] [lA] Bg):=eR 73 (xB AJ uI wK) func104 a0 (by kernel_rfl)
theorem znT:CT 100 (cA [LB,LB,vB] [rO] (u3 Gb)):=eR 12 (IA zhR) func100 a0 (by kernel_rfl)
theorem c44:CT 44 (cA [SB,nG] [eE] (u2 Cj)):=eR 25 (pB KT znT) func44 (jl [jk 0 [rA 5 .Wire] [(7,7),(11,23)]] [jk 3 [rA 5 .Wire,pA 11 gA] [(7,7),(12,23)]]) (by kernel_rfl)
theorem c71:CT 71 (gB [.mv [1,2,3,4,7,8,9,11,12,13], .plain] [LC,VK] [LC,eE,yA] (u2 Kv) [(true,14),(false,1),(false,1)] [1,2,3,4,7,8,9,11,12,13,14] false):=eR 110 (IE c44 c60 zez zeR zyN zyc zxV zyX (IA zxQ)) func71 (jc [jk 1572873 [rA 9 .Frame,rA 10 .Note,pA 11 gA,fA 2 .World [1,2,3,4,7,8,9,11,12,13],fA 8 .Client []] [(12,13),(26,93)],jk 3342350 [rA 9 .Frame,rA 10 .Note,pA 11 gA,fA 8 .Client []] [(53,93)],jk 4194320 [rA 9 .Frame,rA 10 .Note,pA 11 gA,fA 8 .Client []] [(66,93)],jk 4915218 [rA 10 .Note,pA 11 gA,fA 8 .Client []] [(77,93)],jk 5505044 [rA 10 .Note,pA 11 gA,fA 8 .Client []] [(86,93)],jk 5767189 [pA 11 gA] []]) (by kernel_rfl)
theorem zyu:CT 282 (cA [gA] [gA] Ic):=eR 14 pn func282 (jc [jq 262148 4 6 6,jq 458759 7 9 11,jq 458760 7 10 11,jq 458761 7 11 11]) (by kernel_rfl)
theorem zx8:CT 283 (cA [zdW] [yA] Da):=eR 22 (IA FB) func283 (jr [jq 1 2 3 21]) (by kernel_rfl)
theorem zyE:CT 361 (cA [lA,lA] [lA] (u2 Kw)):=eR 27 pn func361 (jl [jk 0 [rA 5 .byte] [(6,7),(11,25)]] [jk 3 [rA 5 .byte,pA 11 gA] [(6,7),(12,25)]]) (by kernel_rfl)
theorem zx3:CT 284 (cN [zdW,fH,eE,fH] [lA,yA] (u4 Kx)):=eR 117 (ZE uI zaN VO zm5 pT zyE zhI) func284 (jc [jk 1048582 [] [(8,9),(18,116)],jk 1900553 [] [(8,9),(31,116)],jk 4128784 [] [(8,9),(65,116)]]) (by kernel_rfl)
theorem zxW:CT 175 (cA [zdI,eE,fH] [lA,yA] (u3 Gc)):=eR 75 (dC bC zyu zx8 zx3) func175 (jm [jk 0 [rA 8 .bs] [(6,7),(10,13),(20,67)]] [jk 5 [rA 8 .bs,pA 20 gA] [(6,7),(10,13),(21,67)]] [jq 8 36 30 35,jq 11 58 47 57]) (by kernel_rfl)
theorem c92:CT 92 (cA [aF,LB,gA] [aF] (u3 Ie)):=eR 52 (bD iG FB zeu zhV zeF) func92 (jn [jk 1900551 [rA 7 .Credit] [(30,50)],jk 2883593 [rA 7 .Credit] [(45,50)]] [jq 2 23 11 22]) (by kernel_rfl)
theorem znC:CT 102 (gB [.ptr [], .plain] [zch,gA] [lA,zch] (u2 Bl) [(false,1)] [0] false):=eR 26 (IA bC) func102 a0 (by kernel_rfl)
theorem zye:CT 101 (gB [.ptr [], .plain] [zch,gA] [gA,zch] (u2 Ck) [(false,1)] [] false):=eR 18 (pB znC znn) func101 a0 (by kernel_rfl)
theorem c42:CT 42 (cN [lA] [vB,yA] Dc):=eR 70 (AE BI dP zye znC AJ zhR) func42 (jn [jk 589829 [fA 4 .bs [],fA 5 .Frame [2,3,5,6,9,10]] [(13,57)],jk 1114120 [fA 4 .bs [],fA 5 .Frame [2,3,5,6,9,10]] [(26,57)],jk 1835017 [fA 4 .bs [],fA 5 .Frame [2,3,5,6,9,10]] [(29,30)],jk 2686991 [fA 4 .bs [],fA 5 .Frame [2,3,5,6,9,10]] [(42,43)],jk 2883601 [fA 4 .bs [],fA 5 .Frame [2,3,5,6,9,10]] [(48,57)]] [jq 6 17 18 25,(21,⟨[pA 67 yA],[(58,66)],[1000005]⟩)]) (by kernel_rfl)
theorem c97:CT 97 (cA [RD,LB] [yA] (u2 Dd)):=eR 25 pn func97 (jm [jk 0 [] [(4,4),(6,6),(10,24)]] [jk 2 [pA 10 gA] [(4,4),(6,6),(11,24)]] [jq 4 23 14 22]) (by kernel_rfl)
theorem zoh:CT 214 (cA [aF,LB] [gA] (u2 Bw)):=eR 28 (pB zeu zeF) func214 (jr [jq 2 15 9 14]) (by kernel_rfl)
theorem zm9:CT 200 (cA [IC,LB,gA] [yA] (u3 Gd)):=eR 19 (pB c97 zoh) func200 (jr [jq 1 6 7 18]) (by kernel_rfl)
theorem zyq:CT 314 (cA [lA,LB] [lA] (u2 If)):=eR 17 (xB iG bC wK) func314 a0 (by kernel_rfl)
theorem zhQ:CT 203 (cA [LB,gA,lA,lA,gA] [lA] (u5 Et)):=eR 46 (AE iG FB pH uI wK zyq) func203 (jr [jq 1 33 11 32]) (by kernel_rfl)
theorem zm6:CT 201 (cA [mL,LB,gA,lA,lA,gA] [lA] (u6 Ge)):=eR 32 (xB zhX zhQ zaN) func201 (jr [jq 2 27 20 26]) (by kernel_rfl)
theorem c93:CT 93 (cE [IC,gA,LB,vB] [IC,HF,wC] (u4 Ky) [7,8]):=eR 82 (ZE bC zez zeR zm9 zm6 zh1 zhQ) func93 (jr [jq 1 33 16 32]) (by kernel_rfl)
theorem zz4:CT 315 (cA [gA,gA] [yA] (u2 Cv)):=eR 17 (IA FB) func315 (jr [jq 1 4 5 16]) (by kernel_rfl)
theorem zn9:CT 330 (cA [lA,lA] [gA] (u2 Bo)):=eR 31 pn func330 (jl [jk 0 [pA 5 gA] [(6,6),(14,29)]] [jk 5 [pA 5 gA,pA 14 gA] [(6,6),(15,29)]]) (by kernel_rfl)
theorem zh9:CT 316 (cA [lA,lA] [yA] (u2 Bm)):=eR 14 (IA zn9) func316 (jr [jq 1 4 5 13]) (by kernel_rfl)
theorem zyf:CT 204 (cA [mL,gA,LB,vB] [gA] (u4 Ig)):=eR 52 (ZE iG FB AJ zhX zm6 zz4 zh9) func204 (jr [jq 1 31 9 30]) (by kernel_rfl)
theorem znF:CT 320 (cA [lA,lA] [lA] (u2 Bx)):=eR 8 (IA pT) func320 a0 (by kernel_rfl)
theorem zic:CT 209 (cA [lA] [lA] Bh):=eR 11 (xB zaL VO znF) func209 a0 (by kernel_rfl)
theorem zhK:CT 210 (cA [gA,lA,lA,gA,lA] [lA] (u5 De)):=eR 44 (dC FB pH uI wK) func210 (jr [jq 1 33 11 32]) (by kernel_rfl)
theorem zoq:CT 317 (cA [lA,gA,lA,lA,gA,lA] [lA] (u6 Ds)):=eR 34 (xB zic zhK zaN) func317 (jr [jq 3 30 23 29]) (by kernel_rfl)
theorem zyV:CT 205 (cA [lA,vB] [yA] (u2 Ih)):=eR 29 (xB AJ zh9 zoq) func205 (jr [jq 1 4 5 28]) (by kernel_rfl)
theorem zAp:CT 318 (cA [LB] [PD] Cf):=eR 5 pn func318 a0 (by kernel_rfl)
theorem zyH:CT 328 (cA [lA,lA,lA] [lA] (u3 Ii)):=eR 26 (dC zaL pH uI znF) func328 (jr [jq 1 19 7 18]) (by kernel_rfl)
theorem zxL:CT 327 (cA [lA] [lA] Cw):=eR 8 (IA VO) func327 a0 (by kernel_rfl)
theorem zyd:CT 329 (cA [lA,gA] [lA] (u2 Ij)):=eR 20 (xB FB bC VO) func329 (jl [jk 0 [rA 5 .byte] [(6,6),(12,18)]] [jk 5 [rA 5 .byte,pA 6 gA] [(12,18)]]) (by kernel_rfl)
theorem znj:CT 222 (cA [lA,lA,lA,gA] [lA] (u4 Gf)):=eR 21 (xB zxL zyH zyd) func222 a0 (by kernel_rfl)
theorem zyD:CT 389 (cA [] [SE] (λ_=>Kz)):=eR 3 pn func389 a0 (by kernel_rfl)
theorem zhw:CT 326 (cA [gA,lA] [mE] (u2 Df)):=eR 19 (xB FB bC zyD) func326 (jr [jq 1 12 5 11]) (by kernel_rfl)
theorem zn7:CT 221 (cA [gA,lA,lA] [WB] (u3 Gg)):=eR 27 (dC bC pH zaJ zhw) func221 (jr [jq 1 19 7 18]) (by kernel_rfl)
theorem zAE:CT 206 (cA [lA,gA,LB,vB] [OC] (u4 Eu)):=eR 59 (HL iG FB bC AJ zaL zn7 znj zAp) func206 (jr [jq 1 32 10 31]) (by kernel_rfl)
theorem zxY:CT 207 (cA [RD,OC] [RD,gA] (u2 Bi)):=eR 51 (AE zaH zeS zeG znr aP gN) func207 (jr [jq 2 9 10 21,jq 6 30 31 41]) (by kernel_rfl)
theorem zhL:CT 208 (cA [lA,lA,lA] [eF] (u3 Dt)):=eR 14 (IA bC) func208 a0 (by kernel_rfl)
theorem zno:CT 321 (cE [WB] [WB,vB,gA] Gh [1,3,6,8,11,14,17,20,21,24,25]):=eR 25 (dC RH vK tT zhG) func321 (jr [jq 1 12 5 11]) (by kernel_rfl)
theorem zy5:CT 211 (cA [OC] [OC,HF,wC] Ev):=eR 49 (dC dN aP gN zno) func211 ⟨[],[],[],[jq 2 24 11 23],[(8,[1000007])]⟩ (by kernel_rfl)
theorem zew:CT 212 (cA [RD,gA,OC] [RD,yA] (u3 Bs)):=eR 38 (xB zeS zeG gN) func212 (jr [jq 2 24 11 23]) (by kernel_rfl)
theorem c94:CT 94 (cE [IC,gA,LB,vB] [IC,HF,wC] (u4 La) [7,8]):=eR 181 (IE BI bC zaH zhQ zyf zyV zAE zxY (bD zhL zic zhK zy5 zew)) func94 (jn [jk 3604486 [rA 11 .Note,fA 8 .Server [0,1,2,5,6],fA 4 .Server []] [(9,10),(12,15),(56,130)]] [jq 1 47 21 46,jq 14 158 142 157]) (by kernel_rfl)
theorem zzx:CT 430 (cA [SE,gA] [yA] (u2 Cl)):=eR 31 (xB FB zob zna) func430 (jr [jq 1 12 5 11,jq 3 4 13 30]) (by kernel_rfl)
theorem zzU:CT 390 (cA [SE,gA] [SE,yA] (u2 Dg)):=eR 57 (pB znZ zzx) func390 (jl [jk 0 [fA 6 .Win [1]] [(7,7),(22,38)]] [jk 5 [pA 7 gA,fA 6 .Win [1]] [(22,38)]]) (by kernel_rfl)
theorem zAb:CT 391 (cA [lA,gA,vB] [lA,yA] (u3 Ik)):=eR 41 (bD uT zaN zh9 zhZ zhI) func391 (jr [(2,⟨[pA 28 yA],[(12,27)],[8]⟩)]) (by kernel_rfl)
theorem zAz:CT 331 (cA [mE,gA,vB] [mE,lA,gA] (u3 Ew)):=eR 59 (bD uT zeK zhS zzU zAb) func331 (jr [jq 2 31 15 30]) (by kernel_rfl)
theorem zm7:CT 223 (cE [WB,gA,vB] [WB,lA,gA] (u3 Dh) [1,14,15]):=eR 157 (HL FB dP AJ RH vK zhw zn9 zAz) func223 (jn [jk 6684686 [fA 13 .Ep []] [(103,104)],jk 6881296 [fA 13 .Ep []] [(106,112)],(8978455,⟨[fA 9 .Chan [1,14]],[(127,136),(139,154)],[1000014]⟩),jk 9633817 [fA 9 .Chan [1,8,11,14]] [(148,150)],jk 9895963 [fA 9 .Chan [1,14]] [(127,136),(153,154)]] [jq 2 37 19 36,jq 5 11 45 54,jq 6 12 55 67,jq 7 85 68 84,jq 9 98 87 97,jq 23 147 141 146]) (by kernel_rfl)
theorem znA:CT 224 (cA [WB,gA] [lA,yA] (u2 Gi)):=eR 50 (pB bC RH) func224 (jr [jq 3 10 11 19,jq 7 34 35 46]) (by kernel_rfl)
theorem znq:CT 386 (cA [PD,LB] [gA] (λx=>cJ x.1 x.2)):=eC 21 pn func386 (jl [jk 0 [] [(4,6),(10,20)]] [jk 2 [pA 10 gA] [(4,6),(11,20)]]) (u2 Ms) (by kernel_rfl) rR.ok
theorem zzh:CT 322 (cA [PD,gA,LB,lA] [PD,yA] (u4 Gj)):=eR 65 (bD FB BI zeA zaM znq) func322 (jr [jq 3 49 17 48]) (by kernel_rfl)
theorem zzp:CT 429 (cA [WB] [WB,yA] Il):=eR 38 (dC RH vK VO zhw) func429 (jr [jq 2 20 7 19]) (by kernel_rfl)
theorem zAq:CT 387 (cA [WB,gA,lA] [WB,gA] (u3 Im)):=eR 58 (AE FB BI RH vK zhG zzp) func387 (jr [jq 2 33 13 32,jq 7 55 47 54]) (by kernel_rfl)
theorem zya:CT 323 (cE [OC,gA,lA] [OC,HF,wC] (u3 Lb) [24,25]):=eR 75 (dC bC dN zno zAq) func323 ⟨[(2162695,⟨[rA 11 .Note],[(34,47)],[1000009]⟩)],[],[],[],[(12,[1000013])]⟩ (by kernel_rfl)
theorem znu:CT 388 (cA [PD,gA] [PD] (u2 Du)):=eR 31 (IA zaM) func388 ⟨[jk 1441799 [fA 5 .Paths [2]] [(23,28)]],[jk 0 [fA 5 .Paths [2]] [(7,7),(15,29)]],[jk 3 [pA 15 gA,fA 5 .Paths [2]] [(7,7),(16,29)]],[],[]⟩ (by kernel_rfl)
theorem zz7:CT 324 (cA [PD,gA,LB,lA] [PD,yA] (u4 Gk)):=eR 64 (HL iG FB bC pH zeA zaM znq znu) func324 (jr [jq 1 34 11 33,jq 4 49 40 48]) (by kernel_rfl)
theorem zzt:CT 213 (cE [OC,gA,LB,vB,lA] [OC,HF,wC,yA] (u5 Gm) [24,25]):=eR 180 (IE iG bC zhL zm7 znA uT tT dN (bD aP gN zzh zya zz7)) func213 (jn [(5242894,⟨[rA 20 .Note,rA 21 .Out,fA 14 .Sess []],[(22,26),(82,136)],[16]⟩),jk 6225936 [rA 20 .Note,rA 21 .Out,fA 14 .Sess []] [(22,26),(97,136)],(6946834,⟨[rA 20 .Note,fA 14 .Sess [1,2,4,17]],[(107,118)],[1000022]⟩),jk 7798805 [rA 20 .Note,rA 21 .Out,fA 14 .Sess []] [(24,26),(121,136)]] [jq 2 44 33 43,jq 26 159 154 158]) (by kernel_rfl)
theorem c96:CT 96 (cE [IC,gA,LB,vB] [IC,HF,wC] (u4 Lc) [7,8]):=eR 93 (ZE bC zaH zez zeR zm9 zew zzt) func96 (jn [jk 2949127 [rA 13 .byte] [],(4653067,⟨[rA 16 .Note,fA 4 .Server [5]],[(18,18),(72,89)],[1000012]⟩)] [jq 2 34 24 33]) (by kernel_rfl)
theorem c99:CT 99 (cA [vB] [gA] Dv):=eR 6 (IA zhR) func99 a0 (by kernel_rfl)
theorem c98:CT 98 (cA [aF,LB,gA] [aF,yA] (u3 Dw)):=eR 41 (bD FB zeu zhV zeF zoh) func98 (jr [jq 3 29 15 28]) (by kernel_rfl)
theorem c40:CT 40 (cE [IC,gA,LB,lA] [IC,HF,wC] (u4 In) [7,8]):=eR 129 (IE iG FB c42 JT LT c92 c93 c94 (bD dP c96 c97 c98 c99)) func40 ⟨[jk 3342346 [rA 14 .Out,rA 15 .Note,fA 11 .Server []] [(54,92)],jk 3538955 [rA 14 .Out,rA 15 .Note,fA 11 .Server []] [(58,92)],jk 4390925 [rA 14 .Out,rA 15 .Note,fA 11 .Server []] [(71,92)],jk 5242895 [rA 14 .Out,rA 15 .Note,fA 11 .Server []] [(84,92)],jk 6881301 [fA 11 .Server []] [(19,20),(106,120)]],[jk 1 [rA 16 .Out,fA 11 .Server []] [(18,20),(96,125)],jk 2 [rA 16 .Out,fA 11 .Server []] [(18,20),(98,124)]],[jk 17 [rA 16 .Out,pA 96 gA,fA 11 .Server []] [(18,20),(97,125)]],[jq 2 35 23 34],[]⟩ (by kernel_rfl)
theorem c41:CT 41 (cA [HF] [eE] Dx):=eR 24 (pB KT znT) func41 (jl [jk 0 [rA 3 .Wire] [(5,5),(9,22)]] [jk 3 [rA 3 .Wire,pA 9 gA] [(5,5),(10,22)]]) (by kernel_rfl)
theorem zAo:CT 219 (cA [lA,gA,vB] [vB,yA] (u3 Ey)):=eR 47 (xB bC AJ zoq) func219 (jr [jq 1 16 9 15]) (by kernel_rfl)
theorem zzF:CT 105 (cA [SB,gA,vB] [SB,nG,wC] (u3 Ld)):=eR 77 (IE bC CJ zhu zh1 zic zhK zAo zeE (pB zn7 znj)) func105 a0 (by kernel_rfl)
theorem zzB:CT 106 (cE [SB,gA,vB] [SB,nG,wC] (u3 Le) [1,5,8,9,11,12,15,16,41,42]):=eR 152 (HL bC CJ zhL zm7 znA uT tT dN) func106 ⟨[(3538954,⟨[rA 15 .Note,fA 9 .Client [1,5,8,9,11,12,15,16]],[(55,76)],[1000010]⟩),jk 5505037 [rA 15 .Note,fA 9 .Client [1,5,8,9,11,12,15,16]] [(85,100)],(6750224,⟨[rA 15 .Note],[(104,116)],[11]⟩)],[],[],[],[(23,[1000017])]⟩ (by kernel_rfl)
theorem c43:CT 43 (cE [SB,gA,vB] [SB,nG,wC] (u3 Io) [1,5,8,9,11,12,15,16,41,42]):=eR 68 (HL FB kN BI CJ dP AJ zzF zzB) func43 (jr [jq 1 21 9 20,jq 3 38 24 37,jq 5 58 46 57]) (by kernel_rfl)
theorem c9:CT 9 (cE [LC,gA,LB,lA] [LC,eE] (u4 Cm) [1,9,11,12,13,14]):=eR 95 (IE jG iG FT FB c40 c41 c42 c43 (IA c44)) func9 (jr [jq 2 33 21 32]) (by kernel_rfl)
theorem c13:CT 13 (cA [LC,LB] [gA] (λx=>gL x.1 x.2)):=eC 24 (IA KT) func13 (jl [jk 0 [] [(4,4),(6,6),(13,23)]] [jk 4 [pA 13 gA] [(4,4),(6,6),(14,23)]]) (u2 Lt) (by kernel_rfl) LQ.ok
theorem c72:CT 72 (cE [LC,VK] [LC,eE,yA] (u2 Lf) [14]):=eR 117 (bD c9 c13 c60 bC zxW) func72 (jc [jk 4718605 [pA 13 gA,fA 12 .Addr [],fA 4 .World [1,2,3,4,7,8,9,11,12,13],rA 14 .byte] [(5,6),(74,103)],jk 5111823 [pA 13 gA,fA 4 .World [1,2,3,4,7,8,9,11,12,13],rA 14 .byte] [(5,6),(80,103)],jk 5439505 [fA 4 .World [1,2,3,4,7,8,9,11,12,13],rA 14 .byte] [(5,6),(85,103)]]) (by kernel_rfl)
theorem zAB:CT 285 (cA [OC,lA] [OC,HF,wC,gA] (u2 Di)):=eR 63 (bD bC tT dN aP gN) func285 ⟨[],[],[],[jq 2 22 15 21],[(11,[1000010])]⟩ (by kernel_rfl)
theorem zAh:CT 176 (cA [IC,gA,gA,lA] [IC,HF,wC,gA] (u4 Ip)):=eR 68 (bD FB JT LT zew zAB) func176 (jr [jq 2 26 19 25,jq 4 37 28 36]) (by kernel_rfl)
theorem zxP:CT 286 (cA [lA] [mL] (λx=>some (lF x))):=eD 10 (pB pH VO) func286 a0 Pw (by kernel_rfl) UU.ok
theorem zyI:CT 287 (cA [gA] [RD] (λx=>some (YD x))):=eD 9 (IA FB) func287 a0 Px (by kernel_rfl) KU.ok
theorem zyW:CT 177 (cA [IC] [IC,wC] Ez):=eR 45 (ZE JT LT bC zez zeR zxP zyI) func177 (jr [jq 2 17 9 16]) (by kernel_rfl)
theorem znH:CT 288 (cA [OC] [OC] Fa):=eR 19 (xB bC aP gN) func288 a0 (by kernel_rfl)
theorem zz0:CT 178 (cA [IC,gA] [IC,wC,gA] (u2 Iq)):=eR 58 (bD JT LT zeH zew znH) func178 (jr [jq 4 33 15 32]) (by kernel_rfl)
theorem c73:CT 73 (gB [.mv [1,2,3,4,7,8,9,11,12,13], .plain] [LC,VK] [LC,eE,yA] (u2 Lg) [(true,14),(false,1),(false,1)] [1,2,3,4,7,8,9,11,12,13,14] false):=eR 80 (dC c41 zAh zyW zz0) func73 (jc [jk 1245191 [rA 7 .Out,rA 8 .Note,pA 9 yA,fA 2 .World [1,2,3,4,7,8,9,11,12,13]] [(10,16),(21,70)],jk 2686986 [rA 8 .Note,pA 9 yA,fA 2 .World [1,2,3,4,7,8,9,11,12,13]] [(14,16),(43,70)],jk 3604493 [rA 8 .Note,pA 9 yA,fA 2 .World [1,2,3,4,7,8,9,11,12,13]] [(14,16),(57,70)]]) (by kernel_rfl)
theorem zyz:CT 179 (cA [WB] [fH] Gn):=eR 36 (pB bC RH) func179 (jc [jk 655366 [rA 3 .bs] [(11,17)],jk 1835017 [rA 3 .bs] [(29,34)]]) (by kernel_rfl)
theorem c74:CT 74 (gB [.mv [1,2,3,4,7,8,9,11,12,13], .plain] [LC,VK] [LC,yA] (u2 Lh) [(true,14),(false,1)] [1,2,3,4,7,8,9,11,12,13] false):=eR 73 (pB bC zyz) func74 (jn [jk 655364 [fA 4 .World [1,2,3,4,7,8,9,11,12,13],fA 6 .Chan []] [(5,5),(7,7),(11,52)]] [jq 7 42 24 41]) (by kernel_rfl)
theorem zop:CT 228 (cA [WB,gA] [WB] (u2 Bu)):=eR 34 (xB FB RH vK) func228 (jn [jk 1835012 [fA 5 .Chan [1,3,6,8,11,14]] [(29,32)]] [jq 2 28 8 27]) (by kernel_rfl)
theorem zz2:CT 230 (cA [iI,gA] [yA] (u2 Cq)):=eR 21 (pB FB znN) func230 (jr [jq 1 4 5 20]) (by kernel_rfl)
theorem znm:CT 108 (cA [iI,gA] [iI,gA] (u2 Dy)):=eR 28 (IA zz2) func108 a0 (by kernel_rfl)
theorem zy2:CT 107 (cE [SB,gA] [SB,nG,wC] (u2 Li) [1,5,8,9,11,12,15,16,41,42]):=eR 70 (HL CJ znm zhJ zeH zeE dN zop zoo) func107 ⟨[jk 3080203 [fA 7 .Client [1,5,8,9,11,12,15,16,18,20,23,25,28,31]] [(48,50)]],[],[],[],[(15,[1000011])]⟩ (by kernel_rfl)
theorem c45:CT 45 (cE [SB,gA] [SB,nG,wC] (u2 Ir) [1,5,8,9,11,12,15,16,41,42]):=eR 77 (IE FB kN bC CJ zy2 znm zhJ znG (IA zhu)) func45 (jr [jq 2 24 12 23,jq 10 56 57 63]) (by kernel_rfl)
theorem zx0:CT 335 (cA [PD,gA] [PD] (u2 Dj)):=eR 18 (dC FB zeA zaM znu) func335 (jr [jq 1 12 5 11]) (by kernel_rfl)
theorem zxI:CT 231 (cA [OC,gA] [OC] (u2 Is)):=eR 39 (AE FB zop aP znH gN zx0) func231 (jr [jq 2 19 8 18]) (by kernel_rfl)
theorem zxK:CT 112 (cA [RD,gA] [RD] (u2 Iu)):=eR 49 (dC FB zeS zeG zxI) func112 ⟨[(2621450,⟨[fA 5 .Tab [1]],[(41,46)],[1000007]⟩)],[jk 0 [fA 5 .Tab [1]] [(7,7),(24,47)]],[jk 5 [pA 24 gA,fA 5 .Tab [1]] [(7,7),(25,47)]],[jq 1 15 8 14,jq 8 40 31 39],[]⟩ (by kernel_rfl)
theorem c46:CT 46 (cE [IC,gA] [IC,wC] (u2 Iv) [7]):=eR 68 (AE FB JT LT zxK zaH zeH) func46 ⟨[jk 3670028 [rA 7 .Note] [(57,64)]],[(0,⟨[rA 7 .Note],[(9,10),(32,65)],[1000006]⟩)],[jk 7 [rA 7 .Note,pA 32 gA] [(9,10),(33,65)]],[jq 2 20 13 19,jq 10 56 41 55],[]⟩ (by kernel_rfl)
theorem BG:CT 10 (cE [LC] [LC,eE] Dz [1,9,11,12,13,14]):=eR 79 (bD jG FT c44 c45 c46) func10 (jm [jk 0 [rA 5 .Wire,fA 4 .World [1,2,3,4,7,8,9,11,12,13]] [(6,9),(31,61)]] [jk 7 [rA 5 .Wire,pA 31 gA,fA 4 .World [1,2,3,4,7,8,9,11,12,13]] [(6,9),(32,61)]] [jq 2 21 14 20]) (by kernel_rfl)
theorem c75:CT 75 (cA [eH,gA] [eH] (u2 Gp)):=eR 21 (xB FB c48 bC) func75 (jn [jk 1114116 [fA 5 .Dice [0]] [(18,19)]] [jq 2 17 12 16]) (by kernel_rfl)
theorem zxM:CT 180 (cA [eE,rO] [eE] (u2 Iw)):=eR 19 (pB c49 c89) func180 a0 (by kernel_rfl)
theorem c76:CT 76 (cA [LC,eE] [LC] (u2 Ca)):=eR 23 (pB FT zxM) func76 (jl [jk 0 [fA 5 .World [1,2,3,4,7,8,9,11,12,13]] [(7,7),(12,21)]] [jk 3 [pA 12 gA,fA 5 .World [1,2,3,4,7,8,9,11,12,13]] [(7,7),(13,21)]]) (by kernel_rfl)
theorem c24:CT 24 (cA [LC,VK] [LC,yA] (u2 Fb)):=eR 115 (IE BG jG FT c70 c71 c72 c73 c74 (pB c75 c76)) func24 (jn [jq 1769481 27 29 32,jq 1769482 27 30 32,jq 1769483 27 31 32,jq 1769484 27 32 32,jk 1769485 [rA 7 .Wire,pA 8 yA,fA 6 .World []] [(33,107)],jq 2686991 41 43 46,jq 2686992 41 44 46,jq 2686993 41 45 46,jq 2686994 41 46 46,jk 2686995 [rA 7 .Wire,pA 8 yA,fA 6 .World []] [(47,107)],jq 3538965 54 56 57,jq 3538966 54 57 57,jk 3538967 [rA 7 .Wire,pA 8 yA,fA 6 .World [1,9,11,12,13]] [(58,107)],jq 4325401 66 68 68,jk 4325402 [rA 7 .Wire,pA 8 yA,fA 6 .World [1,9,11,12,13]] [(69,107)],jk 4980764 [rA 7 .Wire,pA 8 yA,fA 6 .World [1,9,11,12,13]] [(78,107)],jk 5636127 [pA 8 yA,fA 6 .World [1,2,3,4,7,8,9,11,12,13]] [(88,107)],jk 6094881 [fA 6 .World [1,2,3,4,7,8,9,11,12,13]] [(94,107)]] [jq 1 22 9 21]) (by kernel_rfl)
theorem c21:CT 21 (cA [LC,zcg] [LC] (u2 Fc)):=eR 28 (pB c24 FT) func21 (jl [jk 0 [fA 5 .World [1,2,3,4,7,8,9,11,12,13]] [(7,7),(16,26)]] [jk 3 [pA 16 gA,fA 5 .World [1,2,3,4,7,8,9,11,12,13]] [(7,7),(17,26)]]) (by kernel_rfl)
theorem GL:CT 62 (cA [lA,lA] [yA] (λx=>(λ(a0:List UInt8) (a1:List UInt8)=>kB a0 a1) x.1 x.2)):=eC 10 pn func62 a0 (u2 Nz) (by kernel_rfl) tS.ok
theorem zAs:CT 396 (cA [tE,tE] [yA] (λx=>(λ(a0:List Int) (a1:List Int)=>kB a0 a1) x.1 x.2)):=eC 26 pn func396 (jl [jk 0 [] [(4,5),(11,25)]] [jk 4 [pA 5 gA] [(4,4),(11,25)]]) (u2 Oa) (by kernel_rfl) WP.ok
theorem zyh:CT 342 (cA [SE,SE] [yA] (λx=>(λ(a0:Aq) (a1:Aq)=>kB a0 a1) x.1 x.2)):=eC 17 (IA zAs) func342 (jr [jq 1 4 5 16]) (u2 Ob) (by kernel_rfl) sQ.ok
theorem zyU:CT 246 (cA [mE,mE] [yA] (λx=>(λ(a0:Ax) (a1:Ax)=>kB a0 a1) x.1 x.2)):=eC 31 (pB GL zyh) func246 (jr [jq 1 4 5 30]) (u2 Oc) (by kernel_rfl) sR.ok
theorem znX:CT 141 (cA [WB,WB] [yA] (λx=>(λ(a0:Ak) (a1:Ak)=>kB a0 a1) x.1 x.2)):=eC 52 (pB GL zyU) func141 (jr [jq 1 4 5 51]) (u2 Od) (by kernel_rfl) gQ.ok
theorem zyL:CT 341 (cA [PD,PD] [yA] (λx=>(λ(a0:Aj) (a1:Aj)=>kB a0 a1) x.1 x.2)):=eC 71 (IA GL) func341 (jm [jk 0 [] [(4,5),(20,70)]] [jk 4 [pA 5 gA] [(4,4),(20,70)]] [jq 1 19 6 18,jq 6 70 27 69]) (u2 Oe) (by kernel_rfl) KP.ok
theorem zAC:CT 245 (cA [OC,OC] [yA] (λx=>(λ(a0:Ah) (a1:Ah)=>kB a0 a1) x.1 x.2)):=eC 59 (xB GL znX zyL) func245 (jr [jq 1 4 5 58]) (u2 Of) (by kernel_rfl) nQ.ok
theorem zy1:CT 138 (cA [RD,RD] [yA] (λx=>(λ(a0:Ao) (a1:Ao)=>kB a0 a1) x.1 x.2)):=eC 39 (IA zAC) func138 (jm [jk 0 [] [(4,5),(20,38)]] [jk 4 [pA 5 gA] [(4,4),(20,38)]] [jq 1 19 6 18]) (u2 Og) (by kernel_rfl) rQ.ok
theorem zAn:CT 139 (cA [aF,aF] [yA] (λx=>(λ(a0:List Al) (a1:List Al)=>kB a0 a1) x.1 x.2)):=eC 26 pn func139 (jl [jk 0 [] [(4,5),(11,25)]] [jk 4 [pA 5 gA] [(4,4),(11,25)]]) (u2 Oh) (by kernel_rfl) lP.ok
theorem c61:CT 61 (cA [IC,IC] [yA] (λx=>(λ(a0:Ac) (a1:Ac)=>kB a0 a1) x.1 x.2)):=eC 77 (xB GL zy1 zAn) func61 (jm [jk 0 [] [(4,5),(58,76)]] [jk 4 [pA 5 gA] [(4,4),(58,76)]] [jq 1 57 6 56]) (u2 Oi) (by kernel_rfl) pP.ok
theorem c26:CT 26 (cA [eE,eE] [yA] (λx=>(λ(a0:List Ap) (a1:List Ap)=>kB a0 a1) x.1 x.2)):=eC 55 (IA GL) func26 (jm [jk 0 [] [(4,5),(11,54)]] [jk 4 [pA 5 gA] [(4,4),(11,54)]] [jq 6 54 17 53]) (u2 Oj) (by kernel_rfl) OP.ok
theorem c64:CT 64 (cA [eF,eF] [yA] (λx=>(λ(a0:Ad) (a1:Ad)=>kB a0 a1) x.1 x.2)):=eC 80 (IA BI) func64 (jr [jq 1 4 5 79]) (u2 Ol) (by kernel_rfl) oQ.ok
theorem c18:CT 18 (cA [wC,wC] [yA] (λx=>(λ(a0:List Ad) (a1:List Ad)=>kB a0 a1) x.1 x.2)):=eC 27 (IA c64) func18 (jl [jk 0 [] [(4,5),(11,26)]] [jk 4 [pA 5 gA] [(4,4),(11,26)]]) (u2 Om) (by kernel_rfl) PP.ok
theorem zx2:CT 140 (cA [vB,vB] [yA] (λx=>(λ(a0:Ab) (a1:Ab)=>kB a0 a1) x.1 x.2)):=eC 80 (IA GL) func140 (jr [jq 1 4 5 79]) (u2 Oo) (by kernel_rfl) MP.ok
theorem c63:CT 63 (cA [SB,SB] [yA] (λx=>(λ(a0:Ae) (a1:Ae)=>kB a0 a1) x.1 x.2)):=eC 73 (xB GL zx2 znX) func63 (jr [jq 1 4 5 72]) (u2 Oq) (by kernel_rfl) FP.ok
theorem c17:CT 17 (cA [LC,LC] [yA] (λx=>(λ(a0:Aa) (a1:Aa)=>kB a0 a1) x.1 x.2)):=eC 111 (bD c18 c26 c61 GL c63) func17 (jm [jk 0 [] [(4,5),(73,91)],jk 2 [] [(4,4),(6,6),(92,110)]] [jk 4 [pA 5 gA] [(4,4),(73,91)],jk 9 [pA 6 gA] [(4,4),(92,110)]] [jq 1 72 7 71]) (u2 Or) (by kernel_rfl) JP.ok
theorem zzO:CT 130 (cA [rO] [yA] (λx=>some (PE x))):=eD 17 (IA UG) func130 (jr [jq 1 2 3 16]) Ry (by kernel_rfl) zbJ.ok
theorem c56:CT 56 (cA [eE] [yA] (λx=>some (QD x))):=eD 19 (IA zzO) func56 (jl [jk 0 [] [(2,15)]] [jk 2 [pA 3 gA] [(2,2),(4,15)]]) Rz (by kernel_rfl) zbb.ok
theorem zzL:CT 137 (cA [gA,gA] [yA] (λx=>some (UD x.1 x.2))):=eD 12 pn func137 (jr [jq 1 4 5 11]) (u2 Pp) (by kernel_rfl) TU.ok
theorem c59:CT 59 (cA [eF] [yA] (λx=>some (mC x))):=eD 60 (xB CB UG zzL) func59 (jr [jq 1 2 3 59]) Lq (by kernel_rfl) GR.ok
theorem IT:CT 12 (cA [LC] [yA] (λx=>FG x)):=eC 113 (ZE CB lN c55 c56 mN IL c59) func12 (jm [jk 0 [] [(2,3),(47,84)],jk 2 [] [(2,2),(4,4),(85,98)],jk 4 [] [(2,2),(5,5),(99,112)]] [jk 4 [pA 3 gA] [(2,2),(47,84)],jk 9 [pA 4 gA] [(2,2),(85,98)],jk 14 [pA 5 gA] [(2,2),(99,112)]] [jq 1 46 6 45,jq 6 84 51 83]) Mo (by kernel_rfl) DQ.ok
theorem c22:CT 22 (cN [LC,zcg] [LC] (u2 Kf)):=eR 44 (dC IT c66 c67 c68) func22 ⟨[jk 2228233 [fA 5 .World []] [(7,7),(35,42)],(2686987,⟨[fA 5 .World []],[(42,42)],[1000007]⟩)],[jk 0 [fA 5 .World []] [(6,7),(14,42)]],[jk 5 [pA 6 gA,fA 5 .World []] [(7,7),(14,42)]],[jq 5 21 14 20,jq 7 34 24 33],[]⟩ (by kernel_rfl)
theorem c4:CT 4 (cA [lA] [yA] (λx=>some ((λ(a0:List UInt8)=>zmu a0) x))):=eD 51 (AE c6 c17 c19 c20 c21 c22) func4 ⟨[jk 1114118 [rA 4 .Event] [(18,19)],jk 1441801 [pA 5 gA] [(23,28)]],[],[],[(11,⟨[pA 2 yA],[(41,50)],[1000006,1000007,1000003]⟩)],[(10,[4])]⟩ Pm (by kernel_rfl) MQ.ok
end Go.D

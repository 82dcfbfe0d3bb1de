/-
 The functions of the program: each computes what is said of it.
-/
import Derived.Test.YthmhafeaiaigoaaGreatN13
import Derived.Test.YthmhafeaiaigoaaGreatProg
import Derived.KernelRfl
set_option linter.all false
namespace Go.D
open Go.Proofs
open Tryz
def tnT:TypeId→Option TN:=λt=>UC t [(3, .int),(5, .byte),(22, .bs),(51, .Wire),(57, .Frame),(68, .Client),(77, .Event),(113, .Note),(147, .Out),(167, .Sess),(224, .Credit),(272, .Op),(329, .Cand)]
def zk2:Tryz.prog.follows .mixedOrders=true:=by kernel_rfl
def TL:List (TypeId×TN):=[(3, .int),(5, .byte),(22, .bs),(51, .Wire),(57, .Frame),(68, .Client),(77, .Event),(113, .Note),(147, .Out),(167, .Sess),(224, .Credit),(272, .Op),(329, .Cand)]
def zmM:zd8 prog TL=true:=by kernel_rfl
variable [zaw TL]
def a0:An:=⟨[],[],[],[],[]⟩
abbrev u2{A B R:Type}(f:A→B→R):A×B→R:=λx=>f x.1 x.2
abbrev u3{A B C R:Type}(f:A→B→C→R):A×B×C→R:=λx=>f x.1 x.2.1 x.2.2
abbrev u4{A B C D R:Type}(f:A→B→C→D→R):A×B×C×D→R:=λx=>f x.1 x.2.1 x.2.2.1 x.2.2.2
abbrev u5{A B C D E R:Type}(f:A→B→C→D→E→R):A×B×C×D×E→R:=λx=>f x.1 x.2.1 x.2.2.1 x.2.2.2.1 x.2.2.2.2
abbrev u6{A B C D E F R:Type}(f:A→B→C→D→E→F→R):A×B×C×D×E×F→R:=λx=>f x.1 x.2.1 x.2.2.1 x.2.2.2.1 x.2.2.2.2.1 x.2.2.2.2.2
abbrev u7{A B C D E F G R:Type}(f:A→B→C→D→E→F→G→R):A×B×C×D×E×F×G→R:=λx=>f x.1 x.2.1 x.2.2.1 x.2.2.2.1 x.2.2.2.2.1 x.2.2.2.2.2.1 x.2.2.2.2.2.2
abbrev u8{A B C D E F G H R:Type}(f:A→B→C→D→E→F→G→H→R):A×B×C×D×E×F×G×H→R:=λx=>f x.1 x.2.1 x.2.2.1 x.2.2.2.1 x.2.2.2.2.1 x.2.2.2.2.2.1 x.2.2.2.2.2.2.1 x.2.2.2.2.2.2.2
def Ph:List (Nat×bB)→Prop
 | []=>True
 | (g,ci) :: l=>yB prog g ci∧Ph l
def pn:Ph []:=trivial
def ph{n:Nat}:∀(l:List (Nat×bB)),(l.all λp=>Nat.blt p.1 1048576)=true→Ph l→hG ⟨prog,λt=>UC t TL,λf=>iG f l,n,EL⟩
 | [],_,_=>zwe
 | (g,ci) :: l,h,k=>by
  simp only[List.all_cons,Bool.and_eq_true]at h;have hg:g % 1048576=g:=Nat.mod_eq_of_lt (by simpa[Nat.blt_eq]using h.1);exact zvo (by rw[hg];exact k.1) (ph l h.2 k.2)
def okB (n m : Nat) (l : List (Nat × bB)) (fn : Func) (ks : List pB) (ats : List Ty) : Bool := (l.all λp => Nat.blt p.1 1048576) && (fn.body.isSome && !(fn.name == "runtime.NumGoroutine") && Nat.beq n fn.ntmps && DC ks ats && Nat.ble m fn.ntmps)
def eC{f:Nat}{fn:Func}{ks:List pB}{ats rts:List Ty}{F:fB ats→Option (fB rts)}{sh:List (Bool×Nat)}{own:List Nat}(n:Nat){l:List (Nat×bB)}
  (hp:Ph l) (hf:prog.funcs[f]?=some fn) (an:An) (Raw:fB ats→Option (fB rts))
  (he:(okB n ks.length l fn ks ats,λx=>zav ⟨prog,λt=>UC t TL,λf=>iG f l,n,EL⟩ fn (fn.body.getD .skip) an ks own sh rts (gB ats x))=(true,Raw))
  (BX:∀{x},xA ats x→∀{r},F x=some r→Raw x=some r):yB prog f (eB ks ats rts F sh own false):=by
 obtain⟨h0,h1⟩:=Prod.mk.inj he;obtain⟨ha,hb⟩:=Bool.and_eq_true_iff.1 h0;exact evC n zk2 zmM (ph l ha hp) hf an Raw hb (λx=>congrFun h1 x) λ_ _ hb h=>BX hb h
def eR{f:Nat}{fn:Func}{ks:List pB}{ats rts:List Ty}{F:fB ats→Option (fB rts)}{sh:List (Bool×Nat)}{own:List Nat}(n:Nat){l:List (Nat×bB)}
  (hp:Ph l) (hf:prog.funcs[f]?=some fn) (an:An)
  (he:(okB n ks.length l fn ks ats,λx=>zav ⟨prog,λt=>UC t TL,λf=>iG f l,n,EL⟩ fn (fn.body.getD .skip) an ks own sh rts (gB ats x))=(true,F)):
  yB prog f (eB ks ats rts F sh own false):=eC n hp hf an F he λ_ _ h=>h
def eP{f:Nat}{fn:Func}{m:Nat}{ats rts:List Ty}{F:fB ats→Option (fB rts)}{sh:List (Bool×Nat)}(n:Nat){l:List (Nat×bB)}
  (hp:Ph l) (hf:prog.funcs[f]?=some fn) (an:An) (Raw:fB ats→Option (fB rts))
  (he:(okB n m l fn (gE m) ats,λx=>zek ⟨prog,λt=>UC t TL,λf=>iG f l,n,EL⟩ fn (fn.body.getD .skip) an (gE m) rts (gB ats x))=(true,Raw))
  (BX:∀{x},xA ats x→∀{r},F x=some r→Raw x=some r):yB prog f (eB (gE m) ats rts F sh [] true):=by
 obtain⟨h0,h1⟩:=Prod.mk.inj he;obtain⟨ha,hb⟩:=Bool.and_eq_true_iff.1 h0;exact evP n zk2 zmM (ph l ha hp) hf an Raw hb (λx=>congrFun h1 x) λ_ _ hb h=>BX hb h
def eQ{f:Nat}{fn:Func}{m:Nat}{ats rts:List Ty}{F:fB ats→Option (fB rts)}{sh:List (Bool×Nat)}(n:Nat){l:List (Nat×bB)}
  (hp:Ph l) (hf:prog.funcs[f]?=some fn) (an:An)
  (he:(okB n m l fn (gE m) ats,λx=>zek ⟨prog,λt=>UC t TL,λf=>iG f l,n,EL⟩ fn (fn.body.getD .skip) an (gE m) rts (gB ats x))=(true,F)):
  yB prog f (eB (gE m) ats rts F sh [] true):=eP n hp hf an F he λ_ _ h=>h
def eD{f:Nat}{fn:Func}{ks:List pB}{ats rts:List Ty}{G:fB ats→fB rts}{sh:List (Bool×Nat)}{own:List Nat}(n:Nat){l:List (Nat×bB)}
  (hp:Ph l) (hf:prog.funcs[f]?=some fn) (an:An) (Raw:fB ats→Option (fB rts))
  (he:(okB n ks.length l fn ks ats,λx=>zav ⟨prog,λt=>UC t TL,λf=>iG f l,n,EL⟩ fn (fn.body.getD .skip) an ks own sh rts (gB ats x))=(true,Raw))
  (BX:∀{x},xA ats x→Raw x=some (G x)):yB prog f (eB ks ats rts (λx=>some (G x)) sh own false):=eC n hp hf an Raw he λhb _ h=>(BX hb).trans h
abbrev kA:Ty:= .sl .byte
abbrev yA:Ty:= .v .bool
abbrev OA:Ty:= .cells .Cur
abbrev gA:Ty:= .v .int
abbrev dH:Ty:= .v .Dice
abbrev tE:Ty:= .sl .int
abbrev kL:Ty:= .v .Jar
abbrev PD:Ty:= .v .Tab
abbrev nE:Ty:= .v .Ep
abbrev VB:Ty:= .v .Chan
abbrev LB:Ty:= .v .Addr
abbrev RE:Ty:= .v .Win
abbrev ND:Ty:= .v .Paths
abbrev LC:Ty:= .v .Sess
abbrev ZE:Ty:= .sl .Credit
abbrev IC:Ty:= .v .Server
abbrev eH:Ty:= .sl .bs
abbrev QB:Ty:= .v .Client
abbrev bF:Ty:= .v .Note
abbrev QC:Ty:= .v .World
abbrev eE:Ty:= .sl .Wire
abbrev wC:Ty:= .sl .Note
abbrev vB:Ty:= .v .Frame
abbrev zd1:Ty:= .v .Op
abbrev zdm:Ty:= .sl .Op
abbrev fI:Ty:= .v .Event
abbrev hI:Ty:= .v .Timer
abbrev pG:Ty:= .sl .Frame
abbrev oO:Ty:= .v .Wire
abbrev ZG:Ty:= .cells .World
abbrev GF:Ty:= .sl .Out
abbrev BV:Ty:= .v .Hash
abbrev zb7:Ty:= .cells .bs
def tnS:TN→Nat×List Nat
 | .Addr=>(2,[])
 | .Cand=>(4,[2])
 | .Chan=>(15,[1,3,6,8,11,14])
 | .Client=>(41,[1,5,8,9,11,12,15,16,18,20,23,25,28,31])
 | .Dice=>(2,[0])
 | .Ep=>(5,[1,4])
 | .Event=>(6,[4,5])
 | .Frame=>(11,[2,3,5,6,9,10])
 | .Hash=>(3,[0,1])
 | .Jar=>(1,[0])
 | .Note=>(12,[3,4,7,8])
 | .Paths=>(3,[2])
 | .Server=>(7,[0,1,2,5,6])
 | .Sess=>(24,[1,2,4,6,9,11,14,17,20])
 | .Tab=>(2,[1])
 | .Timer=>(4,[])
 | .Win=>(2,[1])
 | .Wire=>(5,[4])
 | .World=>(14,[1,2,3,4,7,8,9,11,12,13])
 | _=>(0,[])
def tyS:Ty→Bool×Nat
 | .v n=>match(tnS n).1 with
  | 0=>(false,1)
  | k=>(true,k)
 | _=>(false,1)
def tyO:Nat→List Ty→List Nat
 | _,[]=>[]
 | p, .v n :: l=>(tnS n).2.map (λi=>p+i)++tyO (p+(tyS (.v n)).2) l
 | p,_ :: l=>p :: tyO (p+1) l
abbrev CT(n:Nat)(c:bB):=yB prog n c
abbrev cA(a r:List Ty)(F:fB a→Option (fB r)):=eB (gE a.length) a r F (r.map tyS) (tyO 0 r) false
abbrev cN(a r:List Ty)(F:fB a→Option (fB r)):=eB (gE a.length) a r F (r.map tyS) [] false
abbrev cE(a r:List Ty)(F:fB a→Option (fB r))(o:List Nat):=eB (gE a.length) a r F (r.map tyS) o false
abbrev qA:=lC.slot
abbrev fA:=lC.box
abbrev rA:=lC.own
def jj(a:List lC)(b:List (Nat×Nat)):JI:=⟨a,b,[]⟩
def jk(n:Nat)(a:List lC)(b:List (Nat×Nat)):Nat×JI:=(n,⟨a,b,[]⟩)
def jq(n s a b:Nat):Nat×JI:=(n,⟨[.slot s (.v .bool)],[(a,b)],[]⟩)
def jr(r:List (Nat×JI)):An:=⟨[],[],[],r,[]⟩
def jl(b l:List (Nat×JI)):An:=⟨[],b,l,[],[]⟩
def jc(c:List (Nat×JI)):An:=⟨c,[],[],[],[]⟩
def jm(b l r:List (Nat×JI)):An:=⟨[],b,l,r,[]⟩
def jn(c r:List (Nat×JI)):An:=⟨c,[],[],r,[]⟩
def IA{g0:Nat}{k0:bB}(h0:yB prog g0 k0):Ph [(g0,k0)]:=⟨h0,trivial⟩
def rB{g0:Nat}{k0:bB}{g1:Nat}{k1:bB}(h0:yB prog g0 k0)(h1:yB prog g1 k1):Ph [(g0,k0),(g1,k1)]:=⟨h0,h1,trivial⟩
def xB{g0:Nat}{k0:bB}{g1:Nat}{k1:bB}{g2:Nat}{k2:bB}(h0:yB prog g0 k0)(h1:yB prog g1 k1)(h2:yB prog g2 k2):Ph [(g0,k0),(g1,k1),(g2,k2)]:=⟨h0,h1,h2,trivial⟩
def cC{g0:Nat}{k0:bB}{g1:Nat}{k1:bB}{g2:Nat}{k2:bB}{g3:Nat}{k3:bB}(h0:yB prog g0 k0)(h1:yB prog g1 k1)(h2:yB prog g2 k2)(h3:yB prog g3 k3):Ph [(g0,k0),(g1,k1),(g2,k2),(g3,k3)]:=⟨h0,h1,h2,h3,trivial⟩
def bD{g0:Nat}{k0:bB}{g1:Nat}{k1:bB}{g2:Nat}{k2:bB}{g3:Nat}{k3:bB}{g4:Nat}{k4:bB}(h0:yB prog g0 k0)(h1:yB prog g1 k1)(h2:yB prog g2 k2)(h3:yB prog g3 k3)(h4:yB prog g4 k4):Ph [(g0,k0),(g1,k1),(g2,k2),(g3,k3),(g4,k4)]:=⟨h0,h1,h2,h3,h4,trivial⟩
def HE{g0:Nat}{k0:bB}{g1:Nat}{k1:bB}{g2:Nat}{k2:bB}{g3:Nat}{k3:bB}{g4:Nat}{k4:bB}{g5:Nat}{k5:bB}(h0:yB prog g0 k0)(h1:yB prog g1 k1)(h2:yB prog g2 k2)(h3:yB prog g3 k3)(h4:yB prog g4 k4)(h5:yB prog g5 k5):Ph [(g0,k0),(g1,k1),(g2,k2),(g3,k3),(g4,k4),(g5,k5)]:=⟨h0,h1,h2,h3,h4,h5,trivial⟩
def YE{g0:Nat}{k0:bB}{g1:Nat}{k1:bB}{g2:Nat}{k2:bB}{g3:Nat}{k3:bB}{g4:Nat}{k4:bB}{g5:Nat}{k5:bB}{g6:Nat}{k6:bB}(h0:yB prog g0 k0)(h1:yB prog g1 k1)(h2:yB prog g2 k2)(h3:yB prog g3 k3)(h4:yB prog g4 k4)(h5:yB prog g5 k5)(h6:yB prog g6 k6):Ph [(g0,k0),(g1,k1),(g2,k2),(g3,k3),(g4,k4),(g5,k5),(g6,k6)]:=⟨h0,h1,h2,h3,h4,h5,h6,trivial⟩
def BK{g0:Nat}{k0:bB}{g1:Nat}{k1:bB}{g2:Nat}{k2:bB}{g3:Nat}{k3:bB}{g4:Nat}{k4:bB}{g5:Nat}{k5:bB}{g6:Nat}{k6:bB}{g7:Nat}{k7:bB}(h0:yB prog g0 k0)(h1:yB prog g1 k1)(h2:yB prog g2 k2)(h3:yB prog g3 k3)(h4:yB prog g4 k4)(h5:yB prog g5 k5)(h6:yB prog g6 k6)(h7:yB prog g7 k7):Ph [(g0,k0),(g1,k1),(g2,k2),(g3,k3),(g4,k4),(g5,k5),(g6,k6),(g7,k7)]:=⟨h0,h1,h2,h3,h4,h5,h6,h7,trivial⟩
def GE{g0:Nat}{k0:bB}{g1:Nat}{k1:bB}{g2:Nat}{k2:bB}{g3:Nat}{k3:bB}{g4:Nat}{k4:bB}{g5:Nat}{k5:bB}{g6:Nat}{k6:bB}{g7:Nat}{k7:bB}{l:List (Nat×bB)}(h0:yB prog g0 k0)(h1:yB prog g1 k1)(h2:yB prog g2 k2)(h3:yB prog g3 k3)(h4:yB prog g4 k4)(h5:yB prog g5 k5)(h6:yB prog g6 k6)(h7:yB prog g7 k7)(h:Ph l):Ph ((g0,k0) :: (g1,k1) :: (g2,k2) :: (g3,k3) :: (g4,k4) :: (g5,k5) :: (g6,k6) :: (g7,k7) :: l):=⟨h0,h1,h2,h3,h4,h5,h6,h7,h⟩
theorem c6:CT 6 (cA [kA] [yA] (λx=>some (BT x))):=eD 6 pn func6 a0 Sl (by kernel_rfl) zdh.ok
theorem c27:CT 27 (eB (gE 1) [kA] [OA] Ki [(false,1)] [] true):=eQ 32 pn func27 (jm [jk 0 [qA 3 gA] [(4,4),(8,27)]] [jk 3 [qA 3 gA,qA 4 gA] [(8,27)]] [jq 3 15 8 14]) (by kernel_rfl)
theorem c29:CT 29 (cA [kA,gA] [gA] (u2 Jh)):=eR 15 pn func29 a0 (by kernel_rfl)
theorem c84:CT 84 (eB [.ptr []] [OA] [gA,OA] Co [(false,1)] [] false):=eR 58 pn func84 (jc [jk 2228229 [qA 3 gA,fA 0 .Cur []] [(35,56)]]) (by kernel_rfl)
theorem yC:CT 35 (eB [.ptr [], .plain] [OA,gA] [gA,OA] (u2 Ar) [(false,1)] [] false):=eR 31 (IA c84) func35 a0 (by kernel_rfl)
theorem XG:CT 32 (eB [.ptr [], .plain] [OA,gA] [yA,OA] (u2 Bb) [(false,1)] [] false):=eR 9 (IA yC) func32 a0 (by kernel_rfl)
theorem MD:CT 34 (eB [.ptr [], .plain] [OA,gA] [kA,OA] (u2 Ay) [(false,1)] [0] false):=eR 20 (IA c84) func34 (jl [jk 0 [rA 5 .byte,fA 0 .Cur []] [(6,6),(8,18)]] [jk 3 [rA 5 .byte,qA 6 gA,fA 0 .Cur []] [(8,18)]]) (by kernel_rfl)
theorem zeu:CT 145 (cA [dH] [dH] (λx=>aK x)):=eC 10 pn func145 a0 Py (by kernel_rfl) vU.ok
theorem BB:CT 53 (cA [gA,gA,gA] [yA] (λx=>some (eA x.1 x.2.1 x.2.2))):=eD 15 pn func53 (jr [jq 1 6 7 14]) (u3 Qr) (by kernel_rfl) zcQ.ok
theorem c55:CT 55 (cA [dH] [yA] (λx=>some (gC x))):=eD 12 (IA BB) func55 (jr [jq 1 2 3 11]) Rr (by kernel_rfl) zbG.ok
theorem BJ:CT 345 (cA [kA,gA,gA] [kA] (λx=>XB x.1 x.2.1 x.2.2)):=eC 35 pn func345 (jm [jk 0 [rA 7 .byte] [(8,8),(21,33)]] [jk 5 [rA 7 .byte,qA 8 gA] [(21,33)]] [jq 2 17 12 16]) (u3 Si) (by kernel_rfl) zcK.ok
theorem zz3:CT 408 (cA [gA] [kA] (λx=>eN x)):=eC 27 (IA BJ) func408 (jm [jk 0 [rA 3 .byte] [(12,21)]] [jk 4 [rA 3 .byte] [(12,21)]] [jq 1 9 4 8]) Nl (by kernel_rfl) KS.ok
theorem zAq:CT 409 (cA [] [tE] (λ_=>some (EE))):=eD 2 pn func409 a0 (λ_=>Sj) (by kernel_rfl) zcs.ok
theorem zyp:CT 439 (cA [tE] [yA] (λx=>some (zd2 x))):=eD 19 (IA BB) func439 (jl [jk 0 [] [(2,15)]] [jk 2 [qA 3 gA] [(2,2),(4,15)]]) Nm (by kernel_rfl) WQ.ok
theorem zzw:CT 440 (cA [] [tE] (λ_=>some (AI))):=eD 2 pn func440 a0 (λ_=>Sk) (by kernel_rfl) zcZ.ok
theorem znU:CT 407 (cA [kA,gA,gA] [gA,gA,yA] (λx=>kH x.1 x.2.1 x.2.2)):=eC 48 pn func407 (jm [jk 0 [qA 9 gA] [(10,10),(29,43)]] [jk 5 [qA 9 gA,qA 10 gA] [(29,43)]] [jq 1 28 11 27]) (u3 Nn) (by kernel_rfl) xS.ok
theorem zn6:CT 442 (cA [gA,gA] [gA] (λx=>pE x.1 x.2)):=eC 24 pn func442 (jr [jq 2 13 8 12]) (u2 No) (by kernel_rfl) NS.ok
theorem zy7:CT 441 (cA [kA] [tE] (λx=>tM x)):=eC 84 (rB znU zn6) func441 (jl [jk 0 [rA 3 .int] [(4,7),(18,33)],jk 2 [rA 3 .int] [(8,12),(34,82)]] [jk 5 [rA 3 .int,qA 4 gA] [(5,7),(18,33)],jk 10 [rA 3 .int,qA 8 gA] [(9,12),(34,82)]]) Np (by kernel_rfl) XP.ok
theorem zzB:CT 410 (cA [tE,kA] [tE] (λx=>XK x.1 x.2)):=eC 156 (cC zyp zzw zy7 zn6) func410 (jm [jk 0 [qA 8 gA,qA 9 gA,qA 10 gA,qA 11 gA,qA 12 gA,qA 13 gA,qA 14 gA,qA 15 gA] [(16,18),(60,128)],jk 2 [rA 5 .int] [(20,20),(138,154)]] [jk 8 [qA 8 gA,qA 9 gA,qA 10 gA,qA 11 gA,qA 12 gA,qA 13 gA,qA 14 gA,qA 15 gA,qA 16 gA] [(17,18),(60,128)],jk 22 [qA 20 gA,rA 5 .int] [(138,154)]] [jq 2 31 24 30]) (u2 Nq) (by kernel_rfl) pQ.ok
theorem zAr:CT 411 (cA [tE] [kA] (λx=>RK x)):=eC 17 (IA BJ) func411 (jl [jk 0 [rA 3 .byte] [(4,4),(6,15)]] [jk 3 [rA 3 .byte,qA 4 gA] [(6,15)]]) Nr (by kernel_rfl) QR.ok
theorem znL:CT 357 (cA [kA] [kA] (λx=>some (JE x))):=eD 33 (cC zz3 zAq zzB zAr) func357 (jl [(0,⟨[rA 4 .int],[(5,5),(18,30)],[3]⟩)] [jk 6 [rA 4 .int,qA 5 gA] [(18,30)]]) Ns (by kernel_rfl) BS.ok
theorem zzf:CT 356 (cA [kA] [kA] (λx=>some (kE x))):=eD 23 (IA znL) func356 ⟨[jk 851974 [rA 3 .byte] [(14,15)]],[jk 0 [rA 3 .byte] [(16,21)]],[jk 6 [rA 3 .byte] [(16,21)]],[],[]⟩ Nt (by kernel_rfl) dQ.ok
theorem xT:CT 271 (cA [kA,kA] [kA] (λx=>some (ZC x.1 x.2))):=eD 49 (rB zzf znL) func271 (jm [jk 0 [rA 6 .byte,rA 7 .byte] [(8,8),(22,41)]] [jk 7 [rA 6 .byte,rA 7 .byte,qA 8 gA] [(22,41)]] [jq 1 16 9 15]) (u2 Nu) (by kernel_rfl) lS.ok
theorem zny:CT 255 (cA [kA,gA] [kA] (λx=>some (AD x.1 x.2))):=eD 24 (xB BB xT BJ) func255 (jr [jq 1 13 5 12]) (u2 Nv) (by kernel_rfl) oR.ok
theorem zez:CT 149 (cA [dH] [dH,kA] (λx=>jE x)):=eC 27 (xB c55 zeu zny) func149 (jr [jq 2 14 7 13]) Pz (by kernel_rfl) jV.ok
theorem zzm:CT 358 (cA [kA,kA,gA] [kA,yA] (λx=>some (iH x.1 x.2.1 x.2.2))):=eD 52 (rB BB xT) func358 (jm [jk 0 [rA 8 .byte,rA 9 .byte] [(10,10),(27,46)]] [jk 6 [rA 8 .byte,rA 9 .byte,qA 10 gA] [(27,46)]] [jq 1 23 11 22]) (u3 Nx) (by kernel_rfl) wR.ok
theorem dN:CT 273 (cA [kA, .v .str] [kA] (λx=>uE x.1 x.2)):=eC 15 (IA zzm) func273 a0 (u2 Qa) (by kernel_rfl) VU.ok
theorem zhF:CT 275 (cA [kA] [kL] (λx=>some (jF x))):=eD 10 (IA dN) func275 a0 Qb (by kernel_rfl) KU.ok
theorem zhv:CT 276 (cA [gA] [PD] (λx=>some (XD x))):=eD 9 (IA BB) func276 a0 Qc (by kernel_rfl) EU.ok
theorem zhm:CT 126 (cA [kL] [yA] (λx=>some (QE x))):=eD 7 pn func126 a0 Rs (by kernel_rfl) zci.ok
theorem znc:CT 238 (cA [PD] [gA] (λx=>rJ x)):=eC 22 pn func238 ⟨[jk 1179655 [qA 3 gA] [(19,20)]],[jk 0 [qA 3 gA] [(4,20)]],[jk 3 [qA 3 gA,qA 4 gA] [(5,20)]],[],[]⟩ Rt (by kernel_rfl) zcD.ok
theorem znC:CT 241 (cA [nE] [yA] (λx=>some (aG x))):=eD 30 pn func241 (jr [jq 1 2 3 29]) Lj (by kernel_rfl) aR.ok
theorem znB:CT 134 (cA [VB] [yA] (λx=>some (tC x))):=eD 38 (IA znC) func134 (jr [jq 1 2 3 37]) Me (by kernel_rfl) FP.ok
theorem vJ:CT 159 (cA [gA] [LB] (λx=>some (zB x))):=eD 12 (IA BB) func159 a0 Rf (by kernel_rfl) zcG.ok
theorem znQ:CT 395 (cA [RE,gA] [yA] (λx=>ZF x.1 x.2)):=eC 19 pn func395 a0 (u2 Qx) (by kernel_rfl) zco.ok
theorem znH:CT 340 (cA [RE] [yA] (λx=>some (gD x))):=eD 46 (rB BB znQ) func340 (jm [jk 0 [] [(2,3),(15,25)],jk 2 [] [(2,2),(4,4),(39,45)]] [jk 4 [qA 3 gA] [(2,2),(15,25)],jk 11 [qA 4 gA] [(2,2),(39,45)]] [jq 1 14 5 13,jq 8 35 26 34]) Li (by kernel_rfl) UR.ok
theorem zhN:CT 242 (cA [nE] [yA] (λx=>some (aD x))):=eD 22 (rB BB znH) func242 (jr [jq 1 2 3 21]) Qy (by kernel_rfl) zcF.ok
theorem uI:CT 135 (cA [VB] [yA] (λx=>uC x)):=eC 74 (xB BB znC zhN) func135 (jn [jk 1376261 [] [(2,3),(22,54)],jk 1572871 [qA 3 gA] []] [jq 1 19 4 18,jq 7 45 25 44,jq 9 54 46 53,jq 13 2 59 73]) Lk (by kernel_rfl) zR.ok
theorem HL:CT 58 (cA [kA,kA] [yA] (λx=>DB x.1 x.2)):=eC 10 pn func58 a0 (u2 Qv) (by kernel_rfl) zbX.ok
theorem VG:CT 131 (cA [LB] [yA] (λx=>some (GA x))):=eD 11 (IA BB) func131 (jr [jq 1 2 3 10]) Rd (by kernel_rfl) zbR.ok
theorem zer:CT 339 (cA [ND] [yA] (λx=>some (sC x))):=eD 65 (rB BB VG) func339 (jm [jk 0 [] [(2,5),(16,64)],jk 2 [] [(2,2),(5,5),(51,64)]] [jk 4 [qA 3 gA] [(2,2),(4,5),(16,64)],jk 10 [qA 5 gA] [(2,2),(51,64)]] [jq 1 15 6 14,jq 7 50 28 49]) Mf (by kernel_rfl) yQ.ok
theorem ZO:CT 239 (cA [LC] [yA] (λx=>ID x)):=eC 77 (HE BB HL znB uI vJ zer) func239 (jr [jq 1 30 3 29,jq 4 2 33 54,jq 5 2 55 76]) Mg (by kernel_rfl) xR.ok
theorem zeE:CT 240 (cA [PD,kA] [gA] (λx=>KD x.1 x.2)):=eC 22 (IA HL) func240 (jl [jk 0 [] [(4,21)]] [jk 2 [qA 5 gA] [(4,4),(6,21)]]) (u2 Ru) (by kernel_rfl) zbD.ok
theorem zhD:CT 127 (cA [PD] [yA] (λx=>uG x)):=eC 47 (cC BB znc ZO zeE) func127 (jm [jk 0 [] [(2,3),(21,46)]] [jk 4 [qA 3 gA] [(2,2),(21,46)]] [jq 1 20 4 19,jq 6 46 28 45]) Mh (by kernel_rfl) TR.ok
theorem zeq:CT 128 (cA [ZE] [yA] (λx=>some (kD x))):=eD 61 (rB BB VG) func128 (jm [jk 0 [] [(2,4),(8,60)],jk 2 [] [(2,2),(4,4),(45,60)]] [jk 4 [qA 3 gA] [(2,2),(4,4),(8,60)],jk 9 [qA 4 gA] [(2,2),(45,60)]] [jq 6 44 14 43]) Mi (by kernel_rfl) SP.ok
theorem qT:CT 129 (cA [kA] [yA] (λx=>some (GC x))):=eD 6 (IA BB) func129 a0 Rv (by kernel_rfl) zce.ok
theorem iN:CT 54 (cA [IC] [yA] (λx=>JC x)):=eC 67 (HE BB c55 zhm zhD zeq qT) func54 (jm [jk 0 [] [(2,3),(34,47)],jk 2 [] [(2,2),(4,4),(48,66)]] [jk 4 [qA 3 gA] [(2,2),(34,47)],jk 9 [qA 4 gA] [(2,2),(48,66)]] [jq 1 33 5 32]) Rw (by kernel_rfl) za5.ok
theorem zoe:CT 299 (cA [eH,kA,gA] [IC] (λx=>NR x.1 x.2.1 x.2.2)):=eC 45 (cC iN zez zhF zhv) func299 (jl [jk 0 [fA 9 .Server [0,1,2,5,6]] [(10,10),(23,39)]] [jk 4 [qA 10 gA,fA 9 .Server [0,1,2,5,6]] [(23,39)]]) (u3 Qd) (by kernel_rfl) aU.ok
theorem zAl:CT 343 (cA [kA] [kA] (λx=>zdI x)):=eC 15 pn func343 (jc [jk 589828 [rA 3 .byte] [(10,11)]]) Qe (by kernel_rfl) tU.ok
theorem zhx:CT 289 (cA [gA,kA,LB] [QB] (λx=>QI x.1 x.2.1 x.2.2)):=eC 27 (xB BB qT VG) func289 (jr [jq 1 19 7 18]) (u3 Qf) (by kernel_rfl) cU.ok
theorem zeG:CT 151 (cA [kA] [bF] (λx=>aE x)):=eC 7 pn func151 a0 Qg (by kernel_rfl) WT.ok
theorem zAg:CT 247 (cA [kA,kA,kA,gA] [QC] (λx=>zcv x.1 x.2.1 x.2.2.1 x.2.2.2)):=eC 46 (YE iN zeG vJ zny zhx zoe zAl) func247 a0 (u4 Qh) (by kernel_rfl) oU.ok
theorem zyK:CT 142 (eB [.ptr []] [OA] [QC,OA] Ix [(true,14)] [1,2,3,4,7,8,9,11,12,13] false):=eR 13 (xB MD yC zAg) func142 a0 (by kernel_rfl)
theorem znR:CT 397 (cA [RE] [RE] (λx=>(λ(a0:Aq)=>oA a0) x)):=eC 10 pn func397 a0 Or (by kernel_rfl) AR.ok
theorem zeo:CT 347 (cA [nE] [nE] (λx=>(λ(a0:Ax)=>oA a0) x)):=eC 15 (IA znR) func347 a0 Ot (by kernel_rfl) GR.ok
theorem zxU:CT 348 (cA [nE,yA] [nE] (λx=>zdD x.1 x.2)):=eC 27 (IA zeo) func348 a0 (u2 Ou) (by kernel_rfl) LR.ok
theorem wK:CT 254 (cA [VB] [VB] (λx=>(λ(a0:Ak)=>oA a0) x)):=eC 26 (rB zeo zxU) func254 a0 Ov (by kernel_rfl) RQ.ok
theorem zeM:CT 427 (cA [.v .Cand] [.v .Cand] (λx=>BH x)):=eC 12 pn func427 a0 Sb (by kernel_rfl) za8.ok
theorem zew:CT 379 (cA [ND] [ND] (λx=>(λ(a0:Aj)=>oA a0) x)):=eC 27 (IA zeM) func379 (jl [jk 0 [fA 3 .Paths [2]] [(4,4),(8,25)]] [jk 3 [qA 4 gA,fA 3 .Paths [2]] [(8,25)]]) Ow (by kernel_rfl) AQ.ok
theorem SO:CT 305 (cA [LC] [LC] (λx=>(λ(a0:Ah)=>oA a0) x)):=eC 24 (rB wK zew) func305 a0 Ox (by kernel_rfl) fR.ok
theorem zhH:CT 251 (cA [PD] [PD] (λx=>(λ(a0:Ao)=>oA a0) x)):=eC 27 (IA SO) func251 (jl [jk 0 [fA 3 .Tab [1]] [(4,4),(8,25)]] [jk 3 [qA 4 gA,fA 3 .Tab [1]] [(8,25)]]) Oy (by kernel_rfl) JQ.ok
theorem vT:CT 144 (cA [IC] [IC] (λx=>(λ(a0:Ac)=>oA a0) x)):=eC 42 (rB zeu zhH) func144 (jl [jk 0 [fA 3 .Server [0,1,2,5,6]] [(4,4),(22,40)]] [jk 3 [qA 4 gA,fA 3 .Server [0,1,2,5,6]] [(22,40)]]) Oz (by kernel_rfl) xQ.ok
theorem zxX:CT 146 (cA [eE] [eE] (λx=>(λ(a0:List Ap)=>oA a0) x)):=eC 34 pn func146 (jl [jk 0 [rA 3 .Wire] [(4,4),(6,32)]] [jk 3 [rA 3 .Wire,qA 4 gA] [(6,32)]]) Pa (by kernel_rfl) HQ.ok
theorem zzX:CT 252 (cA [bF] [bF] (λx=>(λ(a0:Ad)=>oA a0) x)):=eC 24 pn func252 a0 Pb (by kernel_rfl) NQ.ok
theorem zyb:CT 147 (cA [wC] [wC] (λx=>(λ(a0:List Ad)=>oA a0) x)):=eC 21 (IA zzX) func147 (jl [jk 0 [rA 3 .Note] [(4,4),(6,19)]] [jk 3 [rA 3 .Note,qA 4 gA] [(6,19)]]) Pd (by kernel_rfl) iR.ok
theorem zeH:CT 253 (cA [vB] [vB] (λx=>(λ(a0:Aa)=>oA a0) x)):=eC 34 pn func253 a0 Pe (by kernel_rfl) FR.ok
theorem YM:CT 148 (cA [QB] [QB] (λx=>(λ(a0:Ae)=>oA a0) x)):=eC 24 (rB zeH wK) func148 a0 Pf (by kernel_rfl) LQ.ok
theorem c66:CT 66 (cA [QC] [QC] (λx=>(λ(a0:Ab)=>oA a0) x)):=eC 59 (bD vT zeu zxX zyb YM) func66 (jl [jk 0 [fA 3 .World [1,2,3,4,7,8,9,11,12,13]] [(4,4),(21,38)],jk 2 [fA 3 .World [1,2,3,4,7,8,9,11,12,13]] [(5,5),(39,57)]] [jk 3 [qA 4 gA,fA 3 .World [1,2,3,4,7,8,9,11,12,13]] [(21,38)],jk 7 [qA 5 gA,fA 3 .World [1,2,3,4,7,8,9,11,12,13]] [(39,57)]]) Pg (by kernel_rfl) QQ.ok
theorem ED:CT 31 (eB [.ptr [], .plain] [OA,tE] [gA,OA] (u2 As) [(false,1)] [] false):=eR 12 (IA yC) func31 a0 (by kernel_rfl)
theorem zx6:CT 344 (eB [.ptr []] [OA] [zd1,OA] Kj [(true,4)] [3] false):=eR 25 (xB ED MD yC) func344 (jc [jk 655364 [fA 0 .Cur [],fA 3 .Op [3]] [(11,16)]]) (by kernel_rfl)
theorem zm7:CT 269 (cA [gA] [gA] Dk):=eR 9 pn func269 a0 (by kernel_rfl)
theorem zAh:CT 248 (eB [.ptr [], .plain] [OA,gA] [zdm,OA] (u2 Iy) [(false,1)] [0] false):=eR 53 (xB yC zm7 zx6) func248 (jm [jk 0 [rA 5 .Op,qA 6 gA,fA 0 .Cur []] [(7,9),(15,43)],jk 2 [fA 0 .Cur [],fA 8 .Op [3]] [(9,9),(21,33)],jk 4 [rA 5 .Op] [(6,6),(44,51)]] [jk 4 [rA 5 .Op,qA 6 gA,qA 7 gA,fA 0 .Cur []] [(8,9),(15,43)],jk 8 [qA 9 gA,fA 0 .Cur [],fA 8 .Op [3]] [(21,33)],jk 13 [rA 5 .Op,qA 6 gA] [(44,51)]] [jq 8 29 21 28]) (by kernel_rfl)
theorem zyw:CT 249 (eB [.ptr []] [OA] [gA,kA,OA] Iz [(false,1),(false,1)] [1] false):=eR 25 (xB ED MD yC) func249 a0 (by kernel_rfl)
theorem zeK:CT 371 (cA [gA,kA,gA,gA] [kA] (u4 Cb)):=eR 37 (rB BB BJ) func371 (jr [jq 1 26 9 25]) (by kernel_rfl)
theorem TO:CT 243 (cA [gA] [yA] (λx=>some (jC x))):=eD 5 (IA BB) func243 a0 Rz (by kernel_rfl) zbP.ok
theorem zhU:CT 244 (cA [gA,gA] [yA] (λx=>some (gG x.1 x.2))):=eD 19 pn func244 (jr [jq 3 14 9 13]) (u2 Pr) (by kernel_rfl) JU.ok
theorem zAf:CT 412 (cA [kA,kA,gA] [kA] (u3 Gp)):=eR 23 (xB BB xT BJ) func412 (jr [jq 1 14 7 13]) (by kernel_rfl)
theorem zzO:CT 359 (cA [kA,kA,gA] [kA] (u3 Fb)):=eR 41 (rB BB zAf) func359 (jm [jk 0 [rA 7 .byte] [(8,8),(24,35)]] [jk 5 [rA 7 .byte,qA 8 gA] [(24,35)]] [jq 1 21 9 20]) (by kernel_rfl)
theorem zhp:CT 274 (cA [kA,kA,kA] [kA] (u3 Ea)):=eR 49 (IA zzO) func274 (jm [jk 0 [rA 7 .byte] [(9,9),(30,47)]] [jk 6 [rA 7 .byte,qA 9 gA] [(30,47)]] [jq 2 23 11 22]) (by kernel_rfl)
theorem CL:CT 136 (cA [vB] [yA] (λx=>some (wB x))):=eD 174 (xB BB TO zhU) func136 (jr [jq 2 2 6 61,jq 3 87 62 86,jq 7 2 92 117,jq 9 2 120 145,jq 11 2 148 173]) Ml (by kernel_rfl) gR.ok
theorem QO:CT 346 (cA [gA,vB] [kA] (u2 Bt)):=eR 40 (cC BB CL TO zeK) func346 (jr [jq 1 19 6 18]) (by kernel_rfl)
theorem zaI:CT 272 (cA [kA,kA] [kA] (u2 Cp)):=eR 17 (IA xT) func272 a0 (by kernel_rfl)
theorem zho:CT 293 (cA [kA,gA,kA,gA,gA,gA,kA] [vB,yA] (u7 Eb)):=eR 72 (HE TO zhU zaI zhp QO zeK) func293 (jm [jk 0 [fA 17 .Frame [2,3,5,6,9,10]] [(18,18),(56,64)]] [jk 6 [qA 18 gA,fA 17 .Frame [2,3,5,6,9,10]] [(56,64)]] [jq 2 43 24 42]) (by kernel_rfl)
theorem zzM:CT 250 (cA [kA,gA,gA,kA,gA,gA,gA,kA] [zdm] (u8 Ja)):=eR 65 (cC BB zho BJ QO) func250 (jr [jq 2 37 31 36]) (by kernel_rfl)
theorem znI:CT 143 (eB [.ptr [], .plain, .ptr [], .plain] [OA,QC, .cells .int,yA] [fI,OA, .cells .int] (u4 Kk) [(true,6)] [4] false):=eR 239 (YE ED XG MD yC zAh zyw zzM) func143 (jn [jk 5111823 [fA 0 .Cur [],fA 9 .Event [4,5]] [(79,86)],jq 6225941 95 97 97,jk 6225942 [fA 9 .Event [4],fA 0 .Cur []] [(10,15),(98,204)],jk 6881305 [fA 0 .Cur [],fA 9 .Event [4]] [(10,14),(106,155)],jk 8060956 [qA 11 kA] [(124,129)],(10027040,⟨[fA 9 .Event [4]],[(154,155)],[14]⟩),jk 10223650 [fA 9 .Event [4,5],fA 0 .Cur []] [(15,15),(158,204)],jk 10420260 [fA 9 .Event [4,5],fA 0 .Cur []] [(15,15),(161,204)],jk 10616870 [fA 9 .Event [4,5],fA 0 .Cur []] [(15,15),(164,204)],jk 11010089 [fA 9 .Event [4,5],fA 0 .Cur []] [(15,15),(170,204)],jk 11206699 [fA 9 .Event [4,5],fA 0 .Cur []] [(15,15),(173,204)],jk 11599918 [fA 0 .Cur [],fA 9 .Event [4,5]] [(15,15),(179,204)],jk 11796527 [fA 9 .Event [4,5],fA 0 .Cur []] [(181,184)],jk 12124210 [fA 9 .Event [4,5],fA 0 .Cur []] [(15,15),(187,204)],jq 13434934 205 207 208,jq 13434935 205 208 208,jk 13434936 [fA 9 .Event [4],fA 0 .Cur [],fA 8 .Event [4,5]] [(10,15),(64,204),(209,237)],jq 14090299 215 217 217,jk 14090300 [fA 9 .Event [4],fA 0 .Cur [],fA 8 .Event [4,5]] [(10,15),(64,204),(218,237)],jq 14876736 227 229 229,jk 14876737 [fA 9 .Event [4],fA 0 .Cur [],fA 8 .Event [4,5]] [(10,15),(64,204),(230,237)],jk 15138883 [fA 9 .Event [4],fA 0 .Cur [],fA 8 .Event [4,5]] [(10,15),(64,204),(233,237)],jq 15335493 234 236 236,jk 15335494 [fA 9 .Event [4],fA 0 .Cur [],fA 8 .Event [4,5]] [(10,15),(64,204),(237,237)]] [jk 2 [qA 34 yA,fA 0 .Cur []] [(23,33)],jk 7 [qA 59 yA,fA 0 .Cur []] [(47,58)],jk 13 [qA 78 yA,fA 0 .Cur []] [(71,77)],jk 26 [qA 123 yA,fA 0 .Cur []] [(117,122)]]) (by kernel_rfl)
theorem c67:CT 67 (cA [fI] [yA] (λx=>some (eF x))):=eD 33 (IA BB) func67 (jr [jq 1 2 3 32]) Qs (by kernel_rfl) zbj.ok
theorem zn8:CT 132 (cA [hI] [yA] (λx=>some (uD x))):=eD 37 (IA BB) func132 (jr [jq 3 2 9 36]) Mj (by kernel_rfl) VQ.ok
theorem zxP:CT 133 (cA [vB] [yA] (λx=>some (LF x))):=eD 62 pn func133 (jr [jq 1 2 3 61]) Mk (by kernel_rfl) zP.ok
theorem fN:CT 57 (cA [QB] [yA] (λx=>OD x)):=eC 204 (GE BB HL qT VG zn8 zxP znB uI (IA CL)) func57 (jr [jq 1 36 3 35,jq 4 2 40 70,jq 8 2 78 108,jq 9 122 109 121,jq 12 2 126 133,jq 13 2 134 203]) Mm (by kernel_rfl) cQ.ok
theorem tT:CT 256 (cA [gA] [hI] Bf):=eR 10 (IA BB) func256 a0 (by kernel_rfl)
theorem znV:CT 257 (cA [QB] [vB] Fc):=eR 10 pn func257 a0 (by kernel_rfl)
theorem zm3:CT 150 (cA [QB,gA,kA] [QB,pG,wC,gA] (u3 Fd)):=eR 57 (bD BB fN YM tT znV) func150 (jr [jq 2 26 14 25]) (by kernel_rfl)
theorem c85:CT 85 (cA [] [LB] (λ_=>some (AE))):=eD 2 (IA vJ) func85 a0 (λ_=>Rg) (by kernel_rfl) zc8.ok
theorem zhM:CT 351 (cA [vB] [kA] Bj):=eR 91 (rB CL BJ) func351 ⟨[jk 2097161 [rA 3 .byte] [(4,4),(15,31),(34,89)],jk 3276815 [rA 3 .byte] [(15,31),(52,89)],jk 4325394 [rA 3 .byte] [(15,31),(68,89)]],[jk 1 [rA 3 .byte] [(4,4),(43,49)]],[jk 10 [rA 3 .byte,qA 4 gA] [(43,49)]],[],[]⟩ (by kernel_rfl)
theorem zhJ:CT 262 (cA [LB,LB,vB] [oO] (u3 Ec)):=eR 12 (IA zhM) func262 a0 (by kernel_rfl)
theorem zhT:CT 258 (cA [QB,pG] [eE] (u2 Ed)):=eR 26 (rB c85 zhJ) func258 (jl [jk 0 [rA 5 .Wire] [(6,6),(8,24)]] [jk 3 [rA 5 .Wire,qA 6 gA] [(8,24)]]) (by kernel_rfl)
theorem zhr:CT 155 (eB [.ptr [1,11,12,13], .plain, .plain] [ZG,eE,wC] [ZG] (u3 Cc) [] [1,11,12,13] false):=eR 41 pn func155 ⟨[jk 1179653 [fA 0 .World [1,11,12,13]] [(19,31)]],[jk 0 [fA 0 .World [1,11,12,13]] [(6,31)]],[jk 1 [qA 6 gA,fA 0 .World [1,11,12,13]] [(7,31)]],[],[]⟩ (by kernel_rfl)
theorem zzj:CT 152 (eB [.ptr [1,11,12,13], .plain, .plain, .plain, .plain] [ZG,gA,QB,pG,wC] [ZG] (u5 Dl) [] [1,11,12,13] false):=eR 23 (rB zhr zhT) func152 a0 (by kernel_rfl)
theorem zyO:CT 349 (cA [nE,gA,kA,gA,kA] [nE,vB,gA] (u5 Gq)):=eR 78 (HE zhN TO zhU zho zeo zeK) func349 (jr [jq 2 41 18 40,jq 4 50 44 49]) (by kernel_rfl)
theorem wT:CT 259 (cE [VB,gA,kA] [VB,vB,gA] (u3 Cd) [1,8,11,14,17,18,20,21,24,25]):=eR 40 (xB uI wK zyO) func259 (jc [(2228231,⟨[fA 9 .Chan [1,8,11,14]],[(35,36)],[1000010]⟩)]) (by kernel_rfl)
theorem zh1:CT 350 (cA [kA,kA] [bF] (u2 Ee)):=eR 12 pn func350 a0 (by kernel_rfl)
theorem UO:CT 260 (cA [VB,vB] [bF] (u2 Bn)):=eR 13 (rB QO zh1) func260 a0 (by kernel_rfl)
theorem zxF:CT 153 (cE [QB,gA,kA] [QB,pG,wC,gA] (u3 Gr) [1,5,8,9,11,12,15,16,18,25,28,31,41,42]):=eR 75 (bD BB fN YM wT UO) func153 ⟨[],[],[],[jq 2 29 17 28],[(11,[1000012])]⟩ (by kernel_rfl)
theorem zyx:CT 261 (cE [LC,kA] [LC,GF,wC,gA] (u2 Gs) [1,2,4,11,14,17,20,24,25]):=eR 71 (cC ZO wT UO SO) func261 ⟨[],[],[],[jq 2 22 15 21],[(11,[1000010])]⟩ (by kernel_rfl)
theorem zyW:CT 154 (cA [IC,gA,gA,kA] [IC,GF,wC,gA] (u4 Gt)):=eR 66 (cC BB iN vT zyx) func154 (jn [(3604489,⟨[fA 12 .Server [0,1,2,5,6]],[(56,61)],[1000013]⟩)] [jq 2 26 19 25]) (by kernel_rfl)
theorem znl:CT 156 (cA [GF] [eE] Fe):=eR 28 (rB c85 zhJ) func156 (jl [jk 0 [rA 3 .Wire] [(4,4),(6,26)]] [jk 3 [rA 3 .Wire,qA 4 gA] [(6,26)]]) (by kernel_rfl)
theorem zxS:CT 363 (cA [hI,gA] [yA] (u2 Cq)):=eR 21 (rB BB zn8) func363 (jr [jq 1 4 5 20]) (by kernel_rfl)
theorem zh0:CT 290 (cA [hI,gA] [hI,gA] (u2 Cs)):=eR 29 (IA zxS) func290 (jc [jk 1310728 [qA 6 gA] []]) (by kernel_rfl)
theorem zmR:CT 277 (cA [QB] [QB] Dm):=eR 10 (IA zhx) func277 a0 (by kernel_rfl)
theorem znZ:CT 352 (cA [VB,gA] [VB] (u2 Bu)):=eR 34 (xB BB uI wK) func352 (jn [jk 1835012 [fA 5 .Chan [1,3,6,8,11,14]] [(29,32)]] [jq 2 28 8 27]) (by kernel_rfl)
theorem zex:CT 294 (cA [gA] [kA] Bk):=eR 10 (rB BB BJ) func294 a0 (by kernel_rfl)
theorem zno:CT 266 (cE [VB] [VB,vB,gA] Ff [1,8,11,14,17,18,20,21,24,25]):=eR 27 (cC uI wK wT zex) func266 (jr [jq 1 13 5 12]) (by kernel_rfl)
theorem zxO:CT 263 (cE [QB,gA] [QB,pG,wC] (u2 Gu) [1,5,8,9,11,12,15,16,41,42]):=eR 159 (GE BB fN YM zeH tT znV UO zno (xB zmR zh0 znZ)) func263 (jn [jk 4587533 [rA 8 .Frame] [(71,75)],jk 5373967 [rA 8 .Frame] [(83,88)],jk 8585241 [fA 7 .Client [1,5,8,9,11,12,15,16,18,20,23,25,28,31]] [(132,134)],(9371676,⟨[rA 8 .Frame,rA 9 .Note,fA 7 .Client [1,5,8,9,11,12,15,16]],[(144,155)],[1000015,1000014]⟩)] [jq 4 33 21 32,jq 11 70 64 69,jq 13 82 76 81]) (by kernel_rfl)
theorem sT:CT 190 (cA [LC] [LC] Ce):=eR 21 (rB ZO SO) func190 a0 (by kernel_rfl)
theorem zn2:CT 428 (cA [ND,gA] [ND] (u2 Bv)):=eR 47 (cC BB zer zew zeM) func428 ⟨[jk 2228233 [fA 5 .Paths [2]] [(35,45)]],[jk 0 [fA 5 .Paths [2]] [(6,6),(20,45)]],[jk 5 [qA 6 gA,fA 5 .Paths [2]] [(20,45)]],[jq 1 14 7 13],[]⟩ (by kernel_rfl)
theorem zz5:CT 398 (cA [LC,gA] [LC] (u2 Gv)):=eR 39 (HE BB sT ZO SO znZ zn2) func398 (jr [jq 2 19 8 18]) (by kernel_rfl)
theorem zzZ:CT 353 (cA [PD,gA] [PD] (u2 Gw)):=eR 52 (cC BB zhD zhH zz5) func353 ⟨[(2883594,⟨[fA 5 .Tab [1]],[(45,50)],[1000007]⟩)],[jk 0 [fA 5 .Tab [1]] [(6,7),(21,50)]],[jk 5 [qA 6 gA,fA 5 .Tab [1]] [(7,7),(21,50)]],[jq 1 15 8 14,jq 8 44 35 43],[]⟩ (by kernel_rfl)
theorem znb:CT 278 (cA [LC] [bF] Fg):=eR 10 pn func278 a0 (by kernel_rfl)
theorem zx8:CT 264 (cE [IC,gA] [IC,wC] (u2 Gx) [7]):=eR 79 (HE BB iN vT zeE znb zzZ) func264 ⟨[jk 4325388 [rA 7 .Note] [(67,76)]],[(0,⟨[rA 7 .Note],[(8,9),(28,76)],[1000006]⟩)],[jk 7 [rA 7 .Note,qA 8 gA] [(9,9),(28,76)]],[jq 3 20 13 19,jq 10 66 46 65],[]⟩ (by kernel_rfl)
theorem zyC:CT 157 (eB [.ptr [1,11,12,13]] [ZG] [eE,ZG] Gy [(false,1)] [0,2,12,13,14] false):=eR 86 (xB zhT zxO zx8) func157 (jl [jk 0 [rA 3 .Wire,fA 0 .World [1,11,12,13]] [(4,7),(19,59)]] [jk 4 [rA 3 .Wire,qA 4 gA,fA 0 .World [1,11,12,13]] [(5,7),(19,59)]]) (by kernel_rfl)
theorem zye:CT 158 (cA [QB,LB] [QB] (u2 Ct)):=eR 17 (xB fN VG YM) func158 (jn [jk 851972 [fA 5 .Client [1,5,8,9,11,12,15,16,18,20,23,25,28,31]] [(14,15)]] [jq 2 13 8 12]) (by kernel_rfl)
theorem zzN:CT 265 (cA [VB] [VB,yA] Cu):=eR 34 (xB uI wK dN) func265 (jr [jq 2 26 7 25]) (by kernel_rfl)
theorem zAw:CT 160 (cE [QB,gA] [QB,pG,wC,gA] (u2 Gz) [1,5,8,9,11,12,15,16,18,25,28,31,41,42]):=eR 73 (YE BB fN YM tT UO zzN zno) func160 ⟨[],[],[],[jq 2 23 16 22,jq 4 36 27 35,jq 8 57 52 56],[(12,[1000012])]⟩ (by kernel_rfl)
theorem c36:CT 36 (cA [QC,LB] [gA] (λx=>bL x.1 x.2)):=eC 30 (IA c85) func36 (jl [jk 0 [] [(4,5),(9,29)]] [jk 4 [qA 5 gA] [(4,4),(9,29)]]) (u2 Lr) (by kernel_rfl) sQ.ok
theorem zhR:CT 425 (cA [ZE,LB] [gA] (λx=>some (nB x.1 x.2))):=eD 20 pn func425 (jl [jk 0 [] [(4,19)]] [jk 2 [qA 5 gA] [(4,4),(6,19)]]) (u2 Sd) (by kernel_rfl) zcb.ok
theorem zm2:CT 376 (cA [ZE,LB,gA] [ZE] (u3 Fh)):=eR 63 (cC BB zeq VG zhR) func376 (jn [jk 3735564 [rA 7 .Credit] [(58,61)]] [jq 2 24 12 23]) (by kernel_rfl)
theorem zmV:CT 355 (cA [kA] [vB,yA] Ef):=eR 140 (rB zhM znU) func355 (jc [jk 3276815 [fA 2 .Frame [2,3,5,6,9,10],fA 4 .Frame [2,3,5,6,9,10]] [(3,3),(17,49),(52,131)],jk 4325396 [fA 2 .Frame [2,3,5,6,9,10],fA 4 .Frame [2,3,5,6,9,10]] [(3,3),(17,49),(68,131)],jk 6160411 [fA 2 .Frame [2,3,5,6,9,10],fA 4 .Frame [2,3,5,6,9,10]] [(3,3),(17,49),(96,131)]]) (by kernel_rfl)
theorem znz:CT 431 (cA [PD,LB] [yA] (u2 Dn)):=eR 31 pn func431 (jm [jk 0 [] [(4,30)]] [jk 2 [qA 5 gA] [(4,4),(6,30)]] [jq 4 30 13 29]) (by kernel_rfl)
theorem znm:CT 426 (cA [ZE,LB] [gA] (u2 Bw)):=eR 28 (rB zeq zhR) func426 (jr [jq 2 15 9 14]) (by kernel_rfl)
theorem zx3:CT 399 (cA [IC,LB,gA] [yA] (u3 Fi)):=eR 19 (rB znm znz) func399 (jr [jq 1 6 7 18]) (by kernel_rfl)
theorem zzd:CT 432 (cA [kA,LB] [kA] (u2 Ha)):=eR 18 (rB VG BJ) func432 a0 (by kernel_rfl)
theorem zn7:CT 401 (cA [LB,gA,kA,kA,gA] [kA] (u5 Eg)):=eR 50 (cC BB VG BJ zzd) func401 (jr [jq 1 34 12 33]) (by kernel_rfl)
theorem zm8:CT 400 (cA [kL,LB,gA,kA,kA,gA] [kA] (u6 Fj)):=eR 33 (xB zhm zaI zn7) func400 (jr [jq 2 27 20 26]) (by kernel_rfl)
theorem zzL:CT 433 (cA [gA,gA] [yA] (u2 Cv)):=eR 17 (IA BB) func433 (jr [jq 1 4 5 16]) (by kernel_rfl)
theorem zzA:CT 450 (cA [kA,kA] [gA] (u2 Bo)):=eR 31 pn func450 (jl [jk 0 [qA 5 gA] [(6,6),(12,29)]] [jk 5 [qA 5 gA,qA 6 gA] [(12,29)]]) (by kernel_rfl)
theorem zhY:CT 434 (cA [kA,kA] [yA] (u2 Bm)):=eR 14 (IA zzA) func434 (jr [jq 1 4 5 13]) (by kernel_rfl)
theorem zzE:CT 402 (cA [kL,gA,LB,vB] [gA] (u4 Hb)):=eR 52 (YE BB zhm VG CL zm8 zzL zhY) func402 (jr [jq 1 31 9 30]) (by kernel_rfl)
theorem zoc:CT 420 (cA [kA,kA] [kA] (u2 Bx)):=eR 8 (IA xT) func420 a0 (by kernel_rfl)
theorem zhC:CT 366 (cA [kA] [kA] Bh):=eR 12 (xB qT dN zoc) func366 a0 (by kernel_rfl)
theorem zhl:CT 367 (cA [gA,kA,kA,gA,kA] [kA] (u5 Eh)):=eR 48 (rB BB BJ) func367 (jr [jq 1 34 12 33]) (by kernel_rfl)
theorem znA:CT 380 (cA [kA,gA,kA,kA,gA,kA] [kA] (u6 Fk)):=eR 35 (xB zaI zhC zhl) func380 (jr [jq 3 30 23 29]) (by kernel_rfl)
theorem zxz:CT 403 (cA [kA,vB] [yA] (u2 Hc)):=eR 29 (xB CL znA zhY) func403 (jr [jq 1 4 5 28]) (by kernel_rfl)
theorem zzC:CT 418 (cA [kA,kA,kA] [kA] (u3 Hd)):=eR 28 (rB qT zoc) func418 (jr [jq 1 19 7 18]) (by kernel_rfl)
theorem zAu:CT 417 (cA [kA] [kA] Cw):=eR 9 (IA dN) func417 a0 (by kernel_rfl)
theorem zzc:CT 419 (cA [kA,gA] [kA] (u2 He)):=eR 22 (rB BB dN) func419 (jl [jk 0 [rA 5 .byte] [(6,6),(14,20)]] [jk 5 [rA 5 .byte,qA 6 gA] [(14,20)]]) (by kernel_rfl)
theorem znK:CT 365 (cA [kA,kA,kA,gA] [kA] (u4 Fl)):=eR 22 (xB zAu zzC zzc) func365 a0 (by kernel_rfl)
theorem zod:CT 424 (cA [] [RE] (λ_=>Fm)):=eR 14 pn func424 (jl [jk 0 [fA 1 .Win [1]] [(2,2),(4,12)]] [jk 3 [qA 2 gA,fA 1 .Win [1]] [(4,12)]]) (by kernel_rfl)
theorem zaD:CT 373 (cA [gA,kA] [nE] (u2 By)):=eR 20 (rB BB zod) func373 (jr [jq 1 12 5 11]) (by kernel_rfl)
theorem zhO:CT 364 (cA [gA,kA,kA] [VB] (u3 Ei)):=eR 28 (rB BB zaD) func364 (jr [jq 1 19 7 18]) (by kernel_rfl)
theorem zmU:CT 381 (cA [LB] [ND] Cf):=eR 5 pn func381 a0 (by kernel_rfl)
theorem zn4:CT 307 (cA [kA,gA,LB,vB] [LC] (u4 Fn)):=eR 58 (YE BB qT VG CL zhO znK zmU) func307 (jr [jq 1 31 9 30]) (by kernel_rfl)
theorem zhW:CT 302 (cA [PD,LC] [PD,gA] (u2 Bi)):=eR 48 (HE zhD znc ZO zeE zhH SO) func302 (jr [jq 2 20 9 19,jq 6 38 28 37]) (by kernel_rfl)
theorem zh5:CT 370 (cA [kA,kA,kA] [bF] (u3 Do)):=eR 17 pn func370 a0 (by kernel_rfl)
theorem zm5:CT 435 (cE [VB] [VB,vB,gA] Fo [1,8,11,14,17,18,20,21,24,25]):=eR 25 (cC uI wK wT zex) func435 (jr [jq 1 12 5 11]) (by kernel_rfl)
theorem zyq:CT 404 (cE [LC] [LC,GF,wC] Hf [1,2,4,11,14,17,20,24,25]):=eR 53 (cC ZO UO SO zm5) func404 ⟨[],[],[],[jq 2 24 11 23],[(8,[1000007])]⟩ (by kernel_rfl)
theorem zzR:CT 458 (cA [gA] [gA] Hg):=eR 8 pn func458 a0 (by kernel_rfl)
theorem znq:CT 447 (cA [RE,gA] [yA] (u2 Bp)):=eR 30 (cC BB znH znQ zzR) func447 (jr [jq 1 12 5 11,jq 3 4 13 29]) (by kernel_rfl)
theorem zzT:CT 448 (cA [kA,gA,vB] [kA,yA] (u3 Hh)):=eR 42 (bD zaI zhp QO zeK zhY) func448 (jr [(2,⟨[qA 28 yA],[(12,27)],[8]⟩)]) (by kernel_rfl)
theorem zm0:CT 449 (cA [RE,gA] [RE,yA] (u2 Cg)):=eR 73 (rB znR znq) func449 ⟨[jk 4521999 [fA 6 .Win [1]] [(70,71)]],[jk 0 [fA 6 .Win [1]] [(7,9),(21,48)]],[jk 6 [qA 7 gA,qA 8 gA,fA 6 .Win [1]] [(9,9),(21,48)]],[jq 6 27 21 26],[]⟩ (by kernel_rfl)
theorem zxI:CT 421 (cA [nE,gA,vB] [nE,kA,gA] (u3 Cy)):=eR 64 (HE zhN QO zeo znq zzT zm0) func421 (jr [jq 2 30 14 29]) (by kernel_rfl)
theorem zmY:CT 368 (cA [VB,gA,vB] [VB,kA,gA] (u3 Ej)):=eR 174 (BK BB HL uI CL TO wK zaD zxI) func368 (jn [jk 5373966 [fA 9 .Chan [1,3,6,8,11,14]] [(83,85)]] [jq 2 40 22 39,jq 12 82 76 81,jq 15 97 88 96,jq 16 106 98 105,jq 23 139 127 138]) (by kernel_rfl)
theorem zne:CT 369 (cA [VB,gA] [kA,yA] (u2 Fp)):=eR 51 (IA uI) func369 (jr [jq 3 18 10 17,jq 7 45 34 44]) (by kernel_rfl)
theorem zyB:CT 451 (cA [ND,LB] [.v .Cand,yA] (λx=>IM x.1 x.2)):=eC 33 (rB zer zeM) func451 (jl [jk 0 [fA 4 .Cand [2]] [(5,6),(11,31)]] [jk 4 [qA 6 gA,fA 4 .Cand [2]] [(5,5),(11,31)]]) (u2 Mq) (by kernel_rfl) uR.ok
theorem zxQ:CT 436 (cA [ND,gA,LB,kA] [ND,yA] (u4 Fq)):=eR 71 (bD BB HL zew zeM zyB) func436 ⟨[jk 3801098 [fA 12 .Paths [2]] [(59,69)]],[jk 0 [fA 12 .Paths [2]] [(13,13),(44,69)]],[jk 6 [qA 13 gA,fA 12 .Paths [2]] [(44,69)]],[(2,⟨[qA 39 yA],[(20,38)],[1000010]⟩)],[]⟩ (by kernel_rfl)
theorem zAn:CT 452 (cA [VB] [VB,yA] Hi):=eR 38 (cC uI wK dN zaD) func452 (jr [jq 2 20 7 19]) (by kernel_rfl)
theorem zy8:CT 437 (cA [VB,gA,kA] [VB,gA] (u3 Hj)):=eR 57 (HE BB HL uI wK zex zAn) func437 (jr [jq 2 33 13 32]) (by kernel_rfl)
theorem zoj:CT 382 (cA [ND,gA,LB,kA] [ND,yA] (u4 Ek)):=eR 77 (bD BB VG zer zew zn2) func382 (jm [jk 0 [fA 8 .Paths [2]] [(9,9),(11,11),(41,57)]] [jk 5 [qA 11 gA,fA 8 .Paths [2]] [(9,9),(41,57)]] [jq 1 35 12 34]) (by kernel_rfl)
theorem zAi:CT 405 (cE [LC,gA,LB,vB,kA] [LC,GF,wC,yA] (u5 Hk) [1,2,24,25]):=eR 241 (GE VG ZO wT UO SO QO zmY zne (bD zh5 zoj zm5 zxQ zy8)) func405 (jn [(5898256,⟨[rA 15 .Out,rA 16 .Note,fA 14 .Sess [1,2]],[(22,28),(92,197)],[18]⟩),jk 7077906 [rA 15 .Out,rA 16 .Note,fA 14 .Sess [1,2]] [(22,28),(110,197)],(7798804,⟨[rA 16 .Note,fA 14 .Sess [1,2,4,6,9,11,14,17]],[(120,134)],[1000022]⟩),jk 8847383 [rA 15 .Out,rA 16 .Note,fA 14 .Sess [1,2,20]] [(24,28),(137,197)],(9633817,⟨[rA 15 .Out,rA 16 .Note,fA 14 .Sess [1,2,20]],[(26,28),(148,197)],[1000024]⟩),jk 10158106 [rA 16 .Note] [(156,171)],(11862046,⟨[rA 15 .Out,rA 16 .Note,fA 14 .Sess [1,2,20]],[(182,197)],[1000027,1000026]⟩)] [jq 4 49 38 48,jq 34 220 215 219]) (by kernel_rfl)
theorem zzG:CT 438 (cA [vB] [gA] Em):=eR 6 (IA zhM) func438 a0 (by kernel_rfl)
theorem zmS:CT 377 (cA [ZE,LB,gA] [ZE,yA] (u3 Dp)):=eR 44 (cC BB zeq zhR znm) func377 (jr [jq 3 30 16 29]) (by kernel_rfl)
theorem zyZ:CT 406 (eB [.ptr [], .plain] [.cells .Server,GF] [GF, .cells .Server] (u2 Hl) [(false,1)] [0] false):=eR 60 (xB zmS znz zzG) func406 ⟨[jk 1703943 [fA 0 .Server []] [(7,8),(27,51)]],[jk 0 [rA 5 .Out,fA 0 .Server []] [(6,8),(10,58)],jk 1 [rA 5 .Out,fA 0 .Server []] [(7,8),(16,58)]],[jk 3 [rA 5 .Out,qA 6 gA,fA 0 .Server []] [(7,8),(10,58)]],[],[]⟩ (by kernel_rfl)
theorem zz6:CT 354 (cE [IC,gA,LB,kA] [IC,GF,wC] (u4 Hm) [7,8]):=eR 410 (GE BB iN HL VG vT zez zeG zeE (GE TO zhW zn4 zh1 zmV zhC zhl zh5 (GE zm2 zx3 zm8 zn7 zzE zxz zyq zAi (IA zyZ)))) func354 (jn [(4653068,⟨[rA 12 .Out,rA 13 .Note,fA 11 .Server [],fA 8 .Server [0,1,2,5,6]],[(9,10),(16,33),(75,404)],[1000014]⟩),jk 9437204 [rA 12 .Out,rA 13 .Note,fA 8 .Server [0,1,2,5,6],fA 11 .Server [0,1,5,6]] [(9,10),(19,33),(148,404)],jk 12058648 [rA 13 .Note,qA 19 gA,fA 8 .Server [0,1,2,5,6],fA 11 .Server [0,1,2,5,6]] [(9,10),(20,22),(185,279)],jk 19791907 [rA 12 .Out,rA 13 .Note,fA 11 .Server [0,1,2,5,6]] [(24,26),(303,320)],jk 21037096 [rA 12 .Out,rA 13 .Note,fA 8 .Server [0,1,2,5,6],fA 11 .Server [0,1,5,6]] [(9,10),(27,33),(325,404)],jk 23134253 [rA 29 .byte] [(354,354)],(24903730,⟨[rA 13 .Note,fA 11 .Server [0,1,5,6]],[(381,387)],[1000028]⟩),jk 25624630 [rA 13 .Note] [(392,404)]] [jq 4 50 38 49,(11,⟨[qA 92 yA],[(75,91)],[1000011]⟩),jq 19 174 148 173,jq 33 302 286 301,jq 40 340 330 339]) (by kernel_rfl)
theorem zni:CT 306 (cA [kA,gA,vB] [vB,yA] (u3 Fr)):=eR 42 (xB CL zeH znA) func306 (jr [jq 1 17 10 16]) (by kernel_rfl)
theorem zn3:CT 292 (cE [QB,gA,vB] [QB,pG,wC] (u3 En) [1,5,8,9,11,12,15,16,41,42]):=eR 283 (GE BB fN HL CL YM TO zeH tT (GE wT UO zni QO zh1 zhO znK zhC (cC zhl zmY zne zh5))) func292 (jn [(11272218,⟨[rA 11 .Note,fA 9 .Client [1,5,8,9,11,12,15,16]],[(173,197)],[1000014]⟩),jk 13434911 [rA 11 .Note,fA 9 .Client [1,5,8,9,11,12,15,16]] [(206,223)],jk 14811170 [rA 11 .Note] [(227,242)],(16056356,⟨[rA 10 .Frame,rA 11 .Note,fA 9 .Client [1,5,8,9,11,12,15,16]],[(19,21),(246,279)],[15]⟩),(16646182,⟨[rA 10 .Frame,rA 11 .Note,fA 9 .Client [1,5,8,9,11,12,15,16]],[(255,279)],[1000020,1000019]⟩)] [jq 4 38 26 37,jq 6 56 42 55,jq 15 131 123 130]) (by kernel_rfl)
theorem zz0:CT 267 (eB [.ptr [1,11,12,13], .plain, .plain, .plain] [ZG,gA,LB,kA] [eE,ZG] (u4 Hn) [(false,1)] [0,2,12,13,14] false):=eR 95 (bD znl zhT zn3 zz6 zmV) func267 a0 (by kernel_rfl)
theorem zzq:CT 161 (eB [.ptr [1,11,12,13], .plain, .plain, .plain] [ZG,gA,LB,kA] [ZG] (u4 Cz) [] [1,11,12,13] false):=eR 18 (rB zhr zz0) func161 a0 (by kernel_rfl)
theorem zy0:CT 268 (cA [zd1] [yA] Da):=eR 22 (IA BB) func268 (jr [jq 1 2 3 21]) (by kernel_rfl)
theorem zyd:CT 270 (cA [kA,gA,gA] [kA,yA] (λx=>yJ x.1 x.2.1 x.2.2)):=eC 37 pn func270 (jr [jq 1 27 8 26]) (u3 Pi) (by kernel_rfl) GS.ok
theorem zyM:CT 162 (cA [zdm,eE,eH] [kA,yA] (u3 Fs)):=eR 235 (YE zy0 zm7 zyd xT zaI dN zhp) func162 ⟨[jk 3407887 [rA 12 .byte] [(6,7),(13,15),(54,211)],jk 3801105 [rA 12 .byte] [(6,7),(13,15),(60,211)],jk 4849685 [rA 12 .byte] [(6,7),(13,15),(76,211)],jk 5832729 [rA 12 .byte] [(6,7),(13,15),(91,211)],jk 7012382 [rA 12 .byte] [(6,7),(15,15),(109,211)],jk 7929888 [rA 12 .byte] [(6,7),(15,15),(123,211)],jk 10747943 [rA 12 .byte] [(166,211)],jk 11534377 [rA 12 .byte] [(178,211)],jk 12320811 [rA 12 .byte] [(190,211)],jk 12779565 [rA 12 .byte] [(197,211)]],[jk 0 [rA 8 .bs] [(6,7),(9,15),(21,225)],jk 3 [rA 12 .byte] [(15,15),(136,163)]],[jk 5 [rA 8 .bs,qA 9 gA] [(6,7),(10,15),(21,225)],jk 34 [rA 12 .byte,qA 15 gA] [(136,163)]],[jq 8 41 31 40,jq 45 218 212 217],[]⟩ (by kernel_rfl)
theorem zzV:CT 163 (cA [IC] [IC,wC] Ho):=eR 48 (HE iN vT zez zeG zhF zhv) func163 (jr [jq 2 17 9 16]) (by kernel_rfl)
theorem zxZ:CT 164 (cA [QB] [QB,wC] Hp):=eR 27 (xB fN YM zmR) func164 a0 (by kernel_rfl)
theorem zza:CT 165 (cA [IC,gA] [IC,wC,gA] (u2 Hq)):=eR 55 (bD BB iN vT sT znb) func165 (jr [jq 4 31 15 30]) (by kernel_rfl)
theorem zAe:CT 279 (cA [VB] [eH] Hr):=eR 39 (IA uI) func279 (jc [jk 655366 [rA 3 .bs] [(11,18)],jk 1966089 [rA 3 .bs] [(31,37)]]) (by kernel_rfl)
theorem zxM:CT 166 (eB [.ptr [1,11,12,13], .plain] [ZG,VB] [yA,ZG] (u2 Ft) [(false,1)] [2,12,13,14] false):=eR 40 (IA zAe) func166 a0 (by kernel_rfl)
theorem zzD:CT 167 (cA [dH,gA] [dH] (u2 Fu)):=eR 17 (xB BB c55 zeu) func167 (jn [jk 851972 [fA 5 .Dice [0]] [(14,15)]] [jq 2 13 8 12]) (by kernel_rfl)
theorem c68:CT 68 (eB [.ptr [1,11,12,13], .plain] [ZG,fI] [yA,ZG] (u2 Fv) [(false,1)] [2,12,13,14] false):=eR 519 (GE c36 zez zm3 zeG zzj zxF zyW zhr (GE znl zyC zye vJ zAw zzq zyM zzV (cC zxZ zza zxM zzD))) func68 (jn [jk 3276805 [fA 6 .Wire []] [(4,4),(51,70)],jk 4784138 [fA 0 .World [1,11,12,13]] [(4,4),(7,38),(75,518)],jk 8126482 [fA 0 .World [1,11,12,13]] [(4,4),(13,38),(126,518)],jk 10027031 [fA 0 .World [1,11,12,13]] [(4,4),(17,38),(155,518)],jk 12058653 [fA 0 .World [1,11,12,13]] [(4,4),(21,38),(186,518)],jk 12910626 [fA 0 .World [1,11,12,13]] [(4,4),(22,38),(199,518)],jk 14286884 [fA 0 .World [1,11,12,13]] [(4,4),(22,38),(220,518)],jk 16056361 [fA 0 .World [1,11,12,13]] [(4,4),(26,38),(247,518)],jk 17170478 [fA 0 .World [1,11,12,13]] [(4,4),(27,38),(264,518)],jk 17825840 [fA 0 .World [1,11,12,13]] [(4,4),(27,38),(274,518)],jk 18546738 [fA 0 .World [1,11,12,13]] [(4,4),(27,38),(285,518)],jk 21430330 [fA 0 .World [1,11,12,13]] [(4,4),(30,38),(329,518)],jk 23265343 [fA 0 .World [1,11,12,13]] [(4,4),(32,38),(357,518)],jk 24641605 [fA 0 .World [1,11,12,13]] [(4,4),(34,38),(378,518)],jk 26476618 [fA 0 .World [1,11,12,13]] [(4,4),(36,38),(406,518)],jk 32178260 [fA 0 .World [1,11,12,13]] [(493,518)],jk 32505941 [fA 0 .World [1,11,12,13]] [(497,518)]] [jq 3 50 43 49,jq 50 298 291 297,jk 79 [qA 4 yA,fA 0 .World [1,11,12,13]] [(429,449)],jk 81 [qA 4 yA,fA 0 .World [1,11,12,13]] [(452,490)]]) (by kernel_rfl)
theorem c65:CT 65 (eB [.ptr [], .plain, .plain] [OA,gA,yA] [QC, .sl .Event,QC,OA] (u3 Jb) [(true,14),(false,1),(true,14)] [1,2,7,8,11,12,13,14,16,26,27,28] false):=eR 55 (HE yC c66 c67 c68 zyK znI) func65 ⟨[jk 3276813 [fA 10 .World [1,11,12,13], .drop 15] [(51,51)]],[jk 0 [rA 11 .Event,fA 0 .Cur [],fA 12 .int [],fA 10 .World [1,11,12,13]] [(13,15),(25,51)]],[jk 6 [rA 11 .Event,qA 13 gA,fA 0 .Cur [],fA 12 .int [],fA 10 .World [1,11,12,13]] [(14,15),(25,51)]],[jk 11 [qA 50 yA,fA 15 .World [1,11,12,13]] [(39,49)]],[]⟩ (by kernel_rfl)
theorem c28:CT 28 (eB [.ptr [], .plain] [OA,gA] [QC,OA] (u2 Jc) [(true,14)] [1,11,12,13] false):=eR 19 (rB XG c65) func28 a0 (by kernel_rfl)
theorem zns:CT 291 (eB [.ptr []] [OA] [vB,OA] Kn [(true,11)] [2,3,5,6,9,10] false):=eR 12 (rB MD yC) func291 a0 (by kernel_rfl)
theorem zAv:CT 423 (eB [.ptr [], .plain] [OA,gA] [tE,OA] (u2 Ji) [(false,1)] [0] false):=eR 47 (xB ED XG yC) func423 ⟨[jk 1376264 [qA 6 gA,fA 0 .Cur []] [(22,26)],jk 2555915 [rA 5 .int,fA 0 .Cur []] [(40,45)]],[jk 0 [rA 5 .int,fA 0 .Cur []] [(6,7),(16,37)]],[jk 4 [rA 5 .int,qA 6 gA,qA 7 gA,fA 0 .Cur []] [(16,37)]],[],[]⟩ (by kernel_rfl)
theorem zx7:CT 422 (cA [tE] [RE] Jj):=eR 22 (rB zod zm0) func422 (jl [jk 0 [fA 3 .Win [1]] [(4,4),(6,20)]] [jk 3 [qA 4 gA,fA 3 .Win [1]] [(6,20)]]) (by kernel_rfl)
theorem zhE:CT 372 (eB [.ptr []] [OA] [RE,OA] Ht [(true,2)] [1] false):=eR 6 (rB zx7 zAv) func372 a0 (by kernel_rfl)
theorem zhy:CT 295 (eB [.ptr [], .plain] [OA,gA] [VB,OA] (u2 Hu) [(true,15)] [1,3,6,8,11,14] false):=eR 74 (YE ED XG MD dN zhO zhE zaD) func295 (jn [jk 1179653 [fA 0 .Cur [],fA 5 .Chan [1,3,6,8,11,14]] [(19,22)],jk 1572871 [fA 5 .Chan [1,3,6,8,11,14],fA 0 .Cur []] [(25,55)],jk 3538957 [fA 5 .Chan [1,3,6,8,11,14]] [(55,55)],jk 4390927 [fA 5 .Chan [1,3,6,8,11,14]] [(68,72)]] [jq 11 54 48 53,jk 13 [qA 67 yA,fA 0 .Cur []] [(56,66)]]) (by kernel_rfl)
theorem zm1:CT 296 (eB [.ptr [], .plain] [OA,gA] [hI,OA] (u2 Ko) [(true,4)] [] false):=eR 23 (xB yC tT zh0) func296 (jl [jk 0 [fA 5 .Timer []] [(6,6),(11,21)]] [jk 3 [qA 6 gA,fA 5 .Timer []] [(11,21)]]) (by kernel_rfl)
theorem zyt:CT 181 (eB [.ptr []] [OA] [QB,OA] Jm [(true,41)] [1,5,8,9,11,12,15,16] false):=eR 137 (GE ED XG MD yC zm3 vJ tT zhx (YE zh0 zns zn3 zho zex zhy zm1)) func181 ⟨[jk 5898260 [fA 3 .Client [1,5,8,9,11,12,15,16]] [(91,93)],jk 7602201 [fA 0 .Cur [],fA 3 .Client [1,5,8,9,11,12,15,16]] [(117,135)],jk 8126491 [fA 0 .Cur [],fA 3 .Client [1,5,8,9,11,12,15,16,18,20,23,25,28,31]] [(125,135)],jk 8650781 [fA 3 .Client [1,5,8,9,11,12,15,16,18,20,23,25,28,31]] [(133,135)]],[jk 0 [fA 3 .Client [1,5,8,9,11,12,15,16]] [(7,7),(73,86)]],[jk 15 [qA 7 gA,fA 3 .Client [1,5,8,9,11,12,15,16]] [(73,86)]],[],[]⟩ (by kernel_rfl)
theorem c82:CT 82 (eB [.ptr []] [OA] [LB,OA] Jf [(true,2)] [] false):=eR 17 (cC XG yC c84 vJ) func82 a0 (by kernel_rfl)
theorem c83:CT 83 (eB [.ptr []] [OA] [gA,OA] Iw [(false,1)] [] false):=eR 6 (IA ED) func83 a0 (by kernel_rfl)
theorem DT:CT 33 (eB [.ptr []] [OA] [LB,OA] Db [(true,2)] [] false):=eR 20 (cC ED yC c82 c83) func33 (jc [jk 524293 [fA 0 .Cur [],fA 3 .Addr []] [(10,18)],jk 851975 [fA 0 .Cur [],fA 3 .Addr []] [(15,18)]]) (by kernel_rfl)
theorem znE:CT 297 (eB [.ptr []] [OA] [vB,OA] Kp [(true,11)] [2,3,5,6,9,10] false):=eR 79 (xB ED MD yC) func297 (jn [jk 2293770 [qA 4 gA] [],jk 2490380 [qA 4 gA] [],jk 2818063 [fA 0 .Cur [],fA 3 .Frame [2,3,5,6,9,10]] [(4,4),(11,42),(45,77)],jq 3407890 52 54 54,jk 3407891 [fA 0 .Cur [],fA 3 .Frame [2,3,5,6,9,10]] [(4,4),(11,42),(55,77)],jk 4587544 [fA 0 .Cur [],fA 3 .Frame [2,3,5,6,9,10]] [(71,77)]] [jq 8 35 28 34]) (by kernel_rfl)
theorem zyg:CT 182 (eB [.ptr []] [OA] [vB,OA] Jn [(true,11)] [2,3,5,6,9,10] false):=eR 87 (cC ED MD yC znE) func182 (jc [jk 524293 [fA 0 .Cur [],fA 3 .Frame [2,3,5,6,9,10]] [(10,85)],jk 917511 [fA 0 .Cur [],fA 3 .Frame [2,3,5,6,9,10]] [(16,85)],jk 1310729 [fA 0 .Cur [],fA 3 .Frame [2,3,5,6,9,10]] [(22,85)],jk 1835019 [fA 0 .Cur [],fA 3 .Frame [2,3,5,6,9,10]] [(30,85)],jk 2359309 [fA 0 .Cur [],fA 3 .Frame [2,3,5,6,9,10]] [(38,85)],jk 2752527 [fA 0 .Cur [],fA 3 .Frame [2,3,5,6,9,10]] [(44,85)],jk 3276817 [fA 0 .Cur [],fA 3 .Frame [2,3,5,6,9,10]] [(52,85)],jk 3801107 [fA 0 .Cur [],fA 3 .Frame [2,3,5,6,9,10]] [(60,85)],jk 4194325 [fA 0 .Cur [],fA 3 .Frame [2,3,5,6,9,10]] [(66,85)],jk 4587543 [fA 0 .Cur [],fA 3 .Frame [2,3,5,6,9,10]] [(72,85)],jk 5111833 [fA 0 .Cur [],fA 3 .Frame [2,3,5,6,9,10]] [(80,85)]]) (by kernel_rfl)
theorem zyL:CT 374 (eB [.ptr []] [OA] [nE,OA] Jk [(true,5)] [1,4] false):=eR 20 (bD ED XG MD zhE zaD) func374 (jc [jk 983045 [fA 0 .Cur [],fA 3 .Ep [1,4]] [(16,18)]]) (by kernel_rfl)
theorem zyy:CT 375 (eB [.ptr []] [OA] [RE,OA] Jl [(true,2)] [1] false):=eR 33 (xB ED yC zhE) func375 (jc [jk 524293 [fA 0 .Cur [],fA 3 .Win [1]] [(10,31)],jk 917511 [fA 0 .Cur [],fA 3 .Win [1]] [(16,31)],jk 1572873 [fA 0 .Cur [],fA 3 .Win [1]] [(26,31)]]) (by kernel_rfl)
theorem zyN:CT 298 (eB [.ptr []] [OA] [nE,OA] Kl [(true,5)] [1,4] false):=eR 34 (bD ED MD yC zyL zyy) func298 (jc [jk 524293 [fA 0 .Cur [],fA 3 .Ep [1,4]] [(10,32)],jk 917511 [fA 0 .Cur [],fA 3 .Ep [1,4]] [(16,32)],jk 1441801 [fA 0 .Cur [],fA 3 .Ep [1,4]] [(24,32)],jk 1835019 [fA 0 .Cur [],fA 3 .Ep [1,4]] [(30,32)]]) (by kernel_rfl)
theorem zof:CT 183 (eB [.ptr []] [OA] [VB,OA] Km [(true,15)] [1,3,6,8,11,14] false):=eR 52 (bD ED MD yC zhy zyN) func183 (jc [jk 655365 [fA 0 .Cur [],fA 3 .Chan [1,3,6,8,11,14]] [(12,50)],jk 1048583 [fA 0 .Cur [],fA 3 .Chan [1,3,6,8,11,14]] [(18,50)],jk 1376265 [fA 0 .Cur [],fA 3 .Chan [1,3,6,8,11,14]] [(23,50)],jk 1703947 [fA 0 .Cur [],fA 3 .Chan [1,3,6,8,11,14]] [(28,50)],jk 2031629 [fA 3 .Chan [1,3,6,8,11,14],fA 0 .Cur []] [(33,50)],jk 2424847 [fA 0 .Cur [],fA 3 .Chan [1,3,6,8,11,14]] [(39,50)],jk 2818065 [fA 0 .Cur [],fA 3 .Chan [1,3,6,8,11,14]] [(45,50)]]) (by kernel_rfl)
theorem zzW:CT 184 (eB [.ptr []] [OA] [hI,OA] Kq [(true,4)] [] false):=eR 36 (xB ED yC zm1) func184 (jc [jk 720901 [fA 0 .Cur [],fA 3 .Timer []] [(13,34)],jk 1114119 [fA 0 .Cur [],fA 3 .Timer []] [(19,34)],jk 1507337 [fA 0 .Cur [],fA 3 .Timer []] [(25,34)],jk 1900555 [fA 3 .Timer []] [(31,34)]]) (by kernel_rfl)
theorem c77:CT 77 (eB [.ptr []] [OA] [QB,OA] Jo [(true,41)] [1,5,8,9,11,12,15,16] false):=eR 72 (BK ED DT MD yC zyt zyg zof zzW) func77 (jc [jk 524293 [fA 0 .Cur [],fA 3 .Client [1,5,8,9,11,12,15,16]] [(10,70)],jk 917511 [fA 0 .Cur [],fA 3 .Client [1,5,8,9,11,12,15,16]] [(16,70)],jk 1441801 [fA 0 .Cur [],fA 3 .Client [1,5,8,9,11,12,15,16]] [(24,70)],jk 1769483 [fA 0 .Cur [],fA 3 .Client [1,5,8,9,11,12,15,16]] [(29,70)],jk 2162701 [fA 0 .Cur [],fA 3 .Client [1,5,8,9,11,12,15,16]] [(35,70)],jk 2686991 [fA 0 .Cur [],fA 3 .Client [1,5,8,9,11,12,15,16]] [(43,70)],jk 3014673 [fA 0 .Cur [],fA 3 .Client [1,5,8,9,11,12,15,16]] [(48,70)],jk 3342355 [fA 0 .Cur [],fA 3 .Client [1,5,8,9,11,12,15,16]] [(53,70)],jk 3670037 [fA 0 .Cur [],fA 3 .Client [1,5,8,9,11,12,15,16]] [(58,70)],jk 3997719 [fA 0 .Cur [],fA 3 .Client [1,5,8,9,11,12,15,16]] [(63,70)],jk 4390937 [fA 3 .Client [1,5,8,9,11,12,15,16]] [(69,70)]]) (by kernel_rfl)
theorem zyY:CT 300 (eB [.ptr []] [OA] [eH,OA] Jp [(false,1)] [0] false):=eR 22 (rB MD yC) func300 (jl [jk 0 [rA 3 .bs,fA 0 .Cur []] [(4,4),(9,20)]] [jk 3 [rA 3 .bs,qA 4 gA,fA 0 .Cur []] [(9,20)]]) (by kernel_rfl)
theorem zmT:CT 308 (eB [.ptr []] [OA] [ND,OA] Kr [(true,3)] [2] false):=eR 34 (bD MD yC vJ zmU zoj) func308 (jl [jk 0 [fA 0 .Cur [],fA 3 .Paths [2]] [(4,5),(14,32)]] [jk 4 [qA 4 gA,qA 5 gA,fA 0 .Cur [],fA 3 .Paths [2]] [(14,32)]]) (by kernel_rfl)
theorem zev:CT 191 (eB [.ptr []] [OA] [LC,OA] Fw [(true,24)] [1,6,9,11,14,17,20] false):=eR 43 (GE ED XG MD yC vJ zns zhy zni (rB zn4 zmT)) func191 (jc [jk 1900549 [fA 0 .Cur [],fA 5 .Sess [1,6,9,11,14,17,20]] [(30,36)],jk 2490376 [fA 0 .Cur [],fA 5 .Sess [1,6,9,11,14,17,20]] [(39,41)]]) (by kernel_rfl)
theorem znh:CT 301 (eB [.ptr []] [OA] [PD,OA] Ks [(true,2)] [1] false):=eR 47 (HE XG yC sT zev zhv zhW) func301 ⟨[jk 1966088 [fA 0 .Cur [],fA 3 .Tab [1]] [(5,5),(31,45)]],[jk 0 [fA 0 .Cur [],fA 3 .Tab [1]] [(4,5),(12,45)]],[jk 3 [qA 4 gA,fA 0 .Cur [],fA 3 .Tab [1]] [(5,5),(12,45)]],[jk 6 [qA 30 yA,fA 0 .Cur []] [(23,29)]],[]⟩ (by kernel_rfl)
theorem zmX:CT 303 (eB [.ptr [], .plain] [OA,gA] [ZE,OA] (u2 Kt) [(false,1)] [0] false):=eR 36 (bD ED yC vJ zm2 zmS) func303 (jl [jk 0 [rA 5 .Credit,fA 0 .Cur []] [(6,7),(13,34)]] [jk 3 [rA 5 .Credit,qA 6 gA,fA 0 .Cur []] [(7,7),(13,34)]]) (by kernel_rfl)
theorem zz2:CT 185 (eB [.ptr []] [OA] [IC,OA] Jq [(true,7)] [0,1,2,5,6] false):=eR 54 (YE MD yC zoe zyY znh zhW zmX) func185 ⟨[jk 2097160 [fA 3 .Server [0,1,2,5,6]] [(33,44)]],[jk 0 [fA 3 .Server [0,1,2,5,6]] [(5,5),(16,44)]],[jk 4 [qA 5 gA,fA 3 .Server [0,1,2,5,6]] [(16,44)]],[],[]⟩ (by kernel_rfl)
theorem zzY:CT 186 (eB [.ptr [], .plain, .plain] [OA,eH,eH] [eH,OA] (u3 Jr) [(false,1)] [] false):=eR 11 (IA XG) func186 a0 (by kernel_rfl)
theorem zzn:CT 187 (eB [.ptr []] [OA] [kL,OA] Js [(true,1)] [0] false):=eR 16 (cC ED XG MD zhF) func187 (jc [jk 524292 [fA 0 .Cur [],fA 3 .Jar [0]] [(9,14)]]) (by kernel_rfl)
theorem zyi:CT 378 (eB [.ptr []] [OA] [ND,OA] Jt [(true,3)] [2] false):=eR 66 (HE ED XG DT MD yC zmT) func378 (jn [jk 1507336 [fA 0 .Cur [],fA 3 .Paths [2]] [(25,64)],jk 1835018 [fA 0 .Cur [],fA 3 .Paths [2]] [(30,64)],jk 2424844 [fA 0 .Cur [],fA 3 .Paths [2]] [(39,64)],jk 3014670 [fA 0 .Cur [],fA 3 .Paths [2]] [(48,64)],jk 3670032 [fA 3 .Paths [2]] [(58,64)]] [jk 2 [qA 14 yA,fA 0 .Cur []] [(7,13)]]) (by kernel_rfl)
theorem zy2:CT 304 (eB [.ptr []] [OA] [LC,OA] Ju [(true,24)] [1,6,9,11,14,17,20] false):=eR 58 (YE ED MD yC zof sT zev zyi) func304 (jc [jk 524293 [fA 0 .Cur [],fA 3 .Sess [1,6,9,11,14,17,20],fA 2 .Sess [1,2,4,6,9,11,14,17,20]] [(10,56)],jk 917511 [fA 0 .Cur [],fA 3 .Sess [1,6,9,11,14,17,20],fA 2 .Sess [1,2,4,6,9,11,14,17,20]] [(16,56)],jk 1245193 [fA 0 .Cur [],fA 3 .Sess [1,6,9,11,14,17,20],fA 2 .Sess [1,2,4,6,9,11,14,17,20]] [(21,56)],jk 1769483 [fA 0 .Cur [],fA 3 .Sess [1,6,9,11,14,17,20],fA 2 .Sess [1,2,4,6,9,11,14,17,20]] [(29,56)],jk 2097165 [fA 0 .Cur [],fA 3 .Sess [1,6,9,11,14,17,20],fA 2 .Sess [1,2,4,6,9,11,14,17,20]] [(34,56)],jk 2424847 [fA 0 .Cur [],fA 3 .Sess [1,6,9,11,14,17,20],fA 2 .Sess [1,2,4,6,9,11,14,17,20]] [(39,56)],jk 2818065 [fA 0 .Cur [],fA 3 .Sess [1,6,9,11,14,17,20],fA 2 .Sess [1,2,4,6,9,11,14,17,20]] [(45,56)],jk 3211283 [fA 3 .Sess [1,6,9,11,14,17,20],fA 2 .Sess [1,2,4,6,9,11,14,17,20]] [(51,56)],jq 3407893 52 54 54]) (by kernel_rfl)
theorem zze:CT 188 (eB [.ptr []] [OA] [PD,OA] Jv [(true,2)] [1] false):=eR 65 (YE ED MD yC sT zev znh zy2) func188 ⟨[jk 655365 [fA 0 .Cur [],fA 3 .Tab [1]] [(4,5),(12,63)],jk 1048583 [fA 0 .Cur [],fA 3 .Tab [1]] [(4,5),(18,63)],jk 1638409 [fA 3 .Tab [1],fA 0 .Cur []] [(4,5),(27,63)],jk 1966090 [fA 3 .Tab [1]] [(31,39)],jk 2621452 [fA 0 .Cur [],fA 3 .Tab [1]] [(4,5),(42,63)]],[jk 1 [fA 0 .Cur [],fA 4 .Sess [],fA 3 .Tab [1]] [(5,5),(48,63)]],[jk 13 [qA 5 gA,fA 0 .Cur [],fA 4 .Sess [],fA 3 .Tab [1]] [(48,63)]],[],[]⟩ (by kernel_rfl)
theorem zyI:CT 189 (eB [.ptr []] [OA] [ZE,OA] Jw [(false,1)] [0] false):=eR 60 (cC ED DT yC zmX) func189 (jc [jk 1114120 [rA 3 .Credit,fA 0 .Cur []] [(19,58)],jk 1638410 [rA 3 .Credit,fA 0 .Cur []] [(27,58)],jk 2228236 [rA 3 .Credit,fA 0 .Cur []] [(36,58)],jk 3276814 [rA 3 .Credit] [(52,58)]]) (by kernel_rfl)
theorem c78:CT 78 (eB [.ptr []] [OA] [IC,OA] Jx [(true,7)] [1,2,5,6] false):=eR 61 (GE ED yC zz2 zzY zzn zze zyI sT (IA zev)) func78 (jc [jk 524293 [fA 0 .Cur [],fA 3 .Server [1,2,5,6]] [(10,59)],jk 1179655 [fA 0 .Cur [],fA 3 .Server [0,1,2,5,6]] [(20,59)],jk 1507337 [fA 0 .Cur [],fA 3 .Server [0,1,2,5,6]] [(25,59)],jk 1966091 [fA 0 .Cur [],fA 3 .Server [0,1,2,5,6]] [(32,59)],jk 2293773 [fA 0 .Cur [],fA 3 .Server [0,1,2,5,6]] [(37,59)],jk 2621455 [fA 3 .Server [0,1,2,5,6],fA 0 .Cur []] [(42,59)],jk 3145745 [fA 0 .Cur [],fA 3 .Server [0,1,2,5,6]] [(50,59)]]) (by kernel_rfl)
theorem zx5:CT 192 (eB [.ptr []] [OA] [dH,OA] Jy [(true,2)] [0] false):=eR 11 (rB MD yC) func192 a0 (by kernel_rfl)
theorem c79:CT 79 (eB [.ptr []] [OA] [dH,OA] Jz [(true,2)] [0] false):=eR 23 (cC ED MD yC zx5) func79 (jc [jk 524293 [fA 0 .Cur [],fA 3 .Dice [0]] [(10,21)],jk 917511 [fA 0 .Cur [],fA 3 .Dice [0]] [(16,21)]]) (by kernel_rfl)
theorem zzi:CT 193 (eB [.ptr []] [OA] [oO,OA] Ka [(true,5)] [4] false):=eR 26 (YE ED XG MD yC vJ zhJ znE) func193 a0 (by kernel_rfl)
theorem c80:CT 80 (eB [.ptr []] [OA] [oO,OA] Kb [(true,5)] [4] false):=eR 24 (cC DT MD yC zzi) func80 (jc [jk 524293 [fA 0 .Cur [],fA 3 .Wire [4]] [(10,22)],jk 851975 [fA 0 .Cur [],fA 3 .Wire [4]] [(15,22)],jk 1179657 [fA 0 .Cur [],fA 3 .Wire [4]] [(20,22)]]) (by kernel_rfl)
theorem zyP:CT 309 (eB [.ptr []] [OA] [kA,OA] Hs [(false,1)] [0] false):=eR 19 (IA yC) func309 (jl [jk 0 [rA 3 .byte] [(5,5),(10,17)]] [jk 4 [rA 3 .byte,qA 5 gA] [(10,17)]]) (by kernel_rfl)
theorem zy5:CT 310 (eB [.ptr []] [OA] [kA,OA] Jd [(false,1)] [0] false):=eR 19 (IA yC) func310 (jl [jk 0 [rA 3 .byte] [(5,5),(10,17)]] [jk 4 [rA 3 .byte,qA 5 gA] [(10,17)]]) (by kernel_rfl)
theorem zyT:CT 194 (eB [.ptr []] [OA] [bF,OA] Je [(true,12)] [3,4,7,8] false):=eR 36 (cC yC vJ zyP zy5) func194 a0 (by kernel_rfl)
theorem c81:CT 81 (eB [.ptr []] [OA] [bF,OA] Jg [(true,12)] [3,4,7,8] false):=eR 82 (bD ED DT MD yC zyT) func81 (jc [jk 524293 [fA 0 .Cur [],fA 3 .Note [3,4,7,8]] [(10,80)],jk 917511 [fA 0 .Cur [],fA 3 .Note [3,4,7,8]] [(16,80)],jk 1310729 [fA 0 .Cur [],fA 3 .Note [3,4,7,8]] [(22,80)],jk 1703947 [fA 0 .Cur [],fA 3 .Note [3,4,7,8]] [(28,80)],jk 2228237 [fA 0 .Cur [],fA 3 .Note [3,4,7,8]] [(36,80)],jk 2752527 [fA 0 .Cur [],fA 3 .Note [3,4,7,8]] [(44,80)],jk 3145745 [fA 0 .Cur [],fA 3 .Note [3,4,7,8]] [(50,80)],jk 3538963 [fA 0 .Cur [],fA 3 .Note [3,4,7,8]] [(56,80)],jk 4063253 [fA 0 .Cur [],fA 3 .Note [3,4,7,8]] [(64,80)],jk 4587543 [fA 0 .Cur [],fA 3 .Note [3,4,7,8]] [(72,80)],jk 4915225 [fA 0 .Cur [],fA 3 .Note [3,4,7,8]] [(77,80)]]) (by kernel_rfl)
theorem c30:CT 30 (eB [.ptr [], .plain] [OA,gA] [QC,OA] (u2 Kc) [(true,14)] [1,11,12,13] false):=eR 88 (GE c28 ED MD yC c77 c78 c79 c80 (IA c81)) func30 (jc [jk 720901 [fA 0 .Cur [],fA 5 .World [1,11,12,13]] [(13,86)],jk 1114119 [fA 0 .Cur [],fA 5 .World [1,11,12,13]] [(19,86)],jk 1703945 [fA 0 .Cur [],fA 5 .World [1,11,12,13]] [(28,86)],jk 2228235 [fA 0 .Cur [],fA 5 .World [1,11,12,13]] [(36,86)],jk 2555917 [fA 0 .Cur [],fA 5 .World [1,11,12,13]] [(41,86)],jk 2883599 [fA 0 .Cur [],fA 5 .World [1,11,12,13]] [(46,86)],jk 3473425 [fA 0 .Cur [],fA 5 .World [1,11,12,13]] [(55,86)],jk 4259859 [fA 0 .Cur [],fA 5 .World [1,11,12,13]] [(67,86)],jk 4849685 [fA 5 .World [1,11,12,13]] [(76,86)],jk 5242903 [fA 5 .World [1,11,12,13]] [(82,86)]]) (by kernel_rfl)
theorem c69:CT 69 (eB [.ptr [], .plain] [OA,QC] [fI,OA] (u2 Kd) [(true,6)] [4] false):=eR 58 (bD ED XG MD yC znI) func69 (jc [jk 1179655 [fA 0 .Cur [],fA 6 .Event [4]] [(19,22)],jk 1638410 [fA 0 .Cur [],fA 6 .Event [4]] [(27,56)],jk 2031628 [fA 0 .Cur [],fA 6 .Event [4]] [(33,56)],jk 2424846 [fA 0 .Cur [],fA 6 .Event [4]] [(39,56)],jk 2818064 [fA 0 .Cur [],fA 6 .Event [4]] [(45,56)],jk 3211282 [fA 0 .Cur [],fA 6 .Event [4]] [(51,56)]]) (by kernel_rfl)
theorem c23:CT 23 (cE [kA] [QC,fI] Ke [1,11,12,13,18]):=eR 16 (cC c27 c29 c30 c69) func23 a0 (by kernel_rfl)
theorem EB:CT 39 (cA [gA,gA,gA] [yA] (λx=>some (eA x.1 x.2.1 x.2.2))):=eD 15 pn func39 (jr [jq 1 6 7 14]) (u3 Qt) (by kernel_rfl) zby.ok
theorem zhs:CT 115 (cA [kL] [yA] (λx=>some (QE x))):=eD 7 pn func115 a0 Rl (by kernel_rfl) zcg.ok
theorem c48:CT 48 (cA [dH] [yA] (λx=>some (gC x))):=eD 12 (IA EB) func48 (jr [jq 1 2 3 11]) Rj (by kernel_rfl) zbB.ok
theorem zn0:CT 232 (cA [PD] [gA] (λx=>rJ x)):=eC 20 pn func232 ⟨[jk 983047 [qA 3 gA] [(16,17)]],[jk 0 [qA 3 gA] [(5,5),(9,18)]],[jk 3 [qA 3 gA,qA 9 gA] [(5,5),(10,18)]],[],[]⟩ Rm (by kernel_rfl) zcR.ok
theorem mH:CT 121 (cA [kA] [yA] (λx=>some (nA x))):=eD 6 pn func121 a0 Qz (by kernel_rfl) zbf.ok
theorem BI:CT 51 (cA [kA,kA] [yA] (λx=>DB x.1 x.2)):=eC 10 pn func51 a0 (u2 Qw) (by kernel_rfl) zb0.ok
theorem zzP:CT 337 (cA [tE,tE] [yA] (λx=>some (zem x.1 x.2))):=eD 26 pn func337 (jl [jk 0 [] [(4,6),(14,25)]] [jk 4 [qA 14 gA] [(4,6),(15,25)]]) (u2 Rc) (by kernel_rfl) zaX.ok
theorem znT:CT 234 (cA [nE,nE] [yA] (λx=>DO x.1 x.2)):=eC 42 (rB BI zzP) func234 (jr [jq 1 4 5 41]) (u2 Lm) (by kernel_rfl) rR.ok
theorem znM:CT 120 (cA [VB] [yA] (λx=>CO x)):=eC 40 (IA znT) func120 (jr [jq 1 2 3 39]) Lt (by kernel_rfl) AP.ok
theorem zaJ:CT 235 (cA [gA] [yA] (λx=>some (PA x))):=eD 9 pn func235 (jr [jq 1 2 3 8]) Pm (by kernel_rfl) SU.ok
theorem zhP:CT 393 (cA [tE,gA] [yA] (λx=>some (FC x.1 x.2))):=eD 21 (IA EB) func393 (jl [jk 0 [] [(4,4),(6,6),(9,16)]] [jk 2 [qA 9 gA] [(4,4),(6,6),(10,16)]]) (u2 Pn) (by kernel_rfl) mU.ok
theorem znN:CT 394 (cA [RE,gA] [yA] (λx=>ZF x.1 x.2)):=eC 17 pn func394 a0 (u2 Ra) (by kernel_rfl) zbS.ok
theorem znF:CT 338 (cA [RE] [yA] (λx=>some (gD x))):=eD 33 (xB EB zhP znN) func338 (jm [jk 0 [] [(2,3),(17,23)]] [jk 4 [qA 3 gA] [(2,2),(17,23)]] [jq 1 13 4 12,jq 8 2 24 32]) Ll (by kernel_rfl) OR.ok
theorem zep:CT 236 (cA [nE] [yA] (λx=>some (aD x))):=eD 22 (rB EB znF) func236 (jr [jq 1 2 3 21]) Rb (by kernel_rfl) zcH.ok
theorem zx2:CT 237 (cA [VB] [yA] (λx=>zdW x)):=eC 42 (xB EB znT zep) func237 (jr [jq 2 2 6 14,jq 3 28 15 27,jq 5 2 29 41]) Ln (by kernel_rfl) YR.ok
theorem PH:CT 124 (cA [VB] [yA] (λx=>uC x)):=eC 45 (cC mH zaJ zep zx2) func124 (jr [jq 1 23 3 22,jq 3 2 24 44]) Lo (by kernel_rfl) vR.ok
theorem mG:CT 16 (cA [LB] [yA] (λx=>some (GA x))):=eD 11 (IA EB) func16 (jr [jq 1 2 3 10]) Re (by kernel_rfl) zbu.ok
theorem zeA:CT 336 (cA [ND] [yA] (λx=>some (sC x))):=eD 64 (xB mG EB mH) func336 (jm [jk 0 [] [(2,4),(6,6),(20,63)],jk 2 [] [(2,2),(6,6),(53,62)]] [jk 4 [qA 20 gA] [(2,4),(6,6),(21,63)],jk 9 [qA 53 gA] [(2,2),(6,6),(54,62)]] [jq 1 16 7 15,jq 6 47 25 46]) Lu (by kernel_rfl) MQ.ok
theorem WO:CT 233 (cA [LC] [yA] (λx=>ID x)):=eC 76 (HE EB BI znM mH PH zeA) func233 (jr [jq 1 24 3 23,jq 4 2 27 48,jq 5 2 49 75]) Lv (by kernel_rfl) IR.ok
theorem zaA:CT 113 (cA [PD,kA] [gA] (λx=>KD x.1 x.2)):=eC 21 (IA BI) func113 (jl [jk 0 [] [(4,6),(10,20)]] [jk 2 [qA 10 gA] [(4,6),(11,20)]]) (u2 Rn) (by kernel_rfl) zbU.ok
theorem zeB:CT 116 (cA [PD] [yA] (λx=>uG x)):=eC 42 (cC EB zaA zn0 WO) func116 (jm [jk 0 [] [(2,4),(25,41)]] [jk 4 [qA 25 gA] [(2,4),(26,41)]] [jq 1 21 5 20,jq 6 40 30 39]) Lw (by kernel_rfl) SR.ok
theorem zeI:CT 199 (cA [ZE,LB] [gA] (λx=>some (nB x.1 x.2))):=eD 20 pn func199 (jl [jk 0 [] [(4,6),(9,19)]] [jk 2 [qA 9 gA] [(4,6),(10,19)]]) (u2 Ro) (by kernel_rfl) za4.ok
theorem zeL:CT 117 (cA [ZE] [yA] (λx=>some (kD x))):=eD 43 (xB mG EB zeI) func117 (jm [jk 0 [] [(2,4),(10,42)]] [jk 4 [qA 10 gA] [(2,4),(11,42)]] [jq 6 41 15 40]) Lx (by kernel_rfl) JP.ok
theorem zaG:CT 118 (cA [kA] [yA] (λx=>some (GC x))):=eD 6 (IA EB) func118 a0 Rp (by kernel_rfl) zcq.ok
theorem FT:CT 47 (cA [IC] [yA] (λx=>JC x)):=eC 62 (HE EB c48 zhs zeB zeL zaG) func47 (jm [jk 0 [] [(2,2),(4,4),(39,46)],jk 2 [] [(2,2),(6,6),(51,61)]] [jk 4 [qA 39 gA] [(2,2),(4,4),(40,46)],jk 10 [qA 51 gA] [(2,2),(6,6),(52,61)]] [jq 1 35 7 34]) Ly (by kernel_rfl) UP.ok
theorem c15:CT 15 (cA [oO] [yA] (λx=>some (OE x))):=eD 17 (IA mG) func15 (jr [jq 1 2 3 16]) Sa (by kernel_rfl) zbO.ok
theorem c49:CT 49 (cA [eE] [yA] (λx=>some (RD x))):=eD 18 (IA c15) func49 (jl [jk 0 [] [(2,2),(4,4),(7,14)]] [jk 2 [qA 7 gA] [(2,2),(4,4),(8,14)]]) Mo (by kernel_rfl) wQ.ok
theorem znJ:CT 119 (cA [vB,vB] [yA] (λx=>RN x.1 x.2)):=eC 80 (IA BI) func119 (jr [jq 1 4 5 79]) (u2 Lz) (by kernel_rfl) HP.ok
theorem zog:CT 122 (cA [hI] [yA] (λx=>some (uD x))):=eD 39 (IA EB) func122 (jr [jq 3 3 10 27,jq 4 2 28 38]) Ma (by kernel_rfl) rQ.ok
theorem cP:CT 95 (cA [gA] [yA] (λx=>some (jC x))):=eD 5 (IA EB) func95 a0 Rq (by kernel_rfl) zbT.ok
theorem zzQ:CT 216 (cA [gA,gA] [yA] (λx=>some (gG x.1 x.2))):=eD 17 pn func216 (jc [jq 655366 10 12 12]) (u2 Pq) (by kernel_rfl) DU.ok
theorem AJ:CT 103 (cA [vB] [yA] (λx=>VC x)):=eC 165 (bD EB cP znJ mH zzQ) func103 (jn [jk 524293 [qA 4 yA,fA 3 .Frame []] [(12,158)],jk 1703944 [qA 4 yA,fA 3 .Frame []] [(30,158)],jk 3997707 [qA 4 yA,fA 3 .Frame []] [(65,158)],jk 7405582 [qA 4 yA,fA 3 .Frame [2,5,6]] [(117,158)]] [jq 5 4 18 25,jq 8 4 42 60,jq 11 4 83 112,jq 14 4 132 158,jq 15 2 159 164]) Mb (by kernel_rfl) IQ.ok
theorem zxJ:CT 123 (cA [QB] [yA] (λx=>zcu x)):=eC 74 (cC BI AJ mH PH) func123 (jr [jq 1 35 3 34,jq 3 2 36 73]) Mc (by kernel_rfl) bQ.ok
theorem gN:CT 50 (cA [QB] [yA] (λx=>OD x)):=eC 161 (GE mG EB zaG znJ znM mH zog zxJ (IA PH)) func50 (jr [jq 1 20 5 19,jq 7 2 33 58,jq 9 2 61 92,jq 11 2 95 117,jq 13 2 120 160]) Md (by kernel_rfl) WP.ok
theorem zzr:CT 125 (cA [kA,gA] [yA] (λx=>some (WC x.1 x.2))):=eD 14 pn func125 (jr [jq 1 4 5 13]) (u2 Pp) (by kernel_rfl) xU.ok
theorem c52:CT 52 (cA [bF] [yA] (λx=>some (nC x))):=eD 57 (xB mG EB zzr) func52 (jr [jq 1 2 3 56]) Lq (by kernel_rfl) HR.ok
theorem cG:CT 11 (cA [QC] [yA] (λx=>dG x)):=eC 101 (YE EB FT c48 c49 gN BI c52) func11 (jm [jk 0 [] [(2,4),(51,78)],jk 2 [] [(2,2),(6,6),(82,89)],jk 4 [] [(2,2),(8,8),(93,100)]] [jk 6 [qA 51 gA] [(2,4),(52,78)],jk 12 [qA 82 gA] [(2,2),(6,6),(83,89)],jk 18 [qA 93 gA] [(2,2),(8,8),(94,100)]] [jq 1 31 9 30,jq 3 47 32 46,jq 8 77 56 76]) Mp (by kernel_rfl) zQ.ok
theorem c70:CT 70 (cA [fI] [yA] (λx=>some (eF x))):=eD 33 (IA EB) func70 (jr [jq 1 2 3 32]) Qu (by kernel_rfl) zbr.ok
theorem bC:CT 87 (cA [kA] [kA] (λx=>BA x)):=eC 6 pn func87 a0 Se (by kernel_rfl) zcj.ok
theorem c90:CT 90 (cA [eH] [eH] (λx=>dS x)):=eC 20 (IA bC) func90 (jl [jk 0 [rA 3 .bs] [(5,5),(9,18)]] [jk 3 [rA 3 .bs,qA 9 gA] [(5,5),(10,18)]]) Pt (by kernel_rfl) kU.ok
theorem znx:CT 384 (cA [RE] [RE] (λx=>(λ(a0:Aq)=>oA a0) x)):=eC 10 pn func384 a0 Sm (by kernel_rfl) za9.ok
theorem zht:CT 312 (cA [nE] [nE] (λx=>(λ(a0:Ax)=>oA a0) x)):=eC 14 (rB bC znx) func312 a0 Qi (by kernel_rfl) YU.ok
theorem xK:CT 197 (cA [VB] [VB] (λx=>(λ(a0:Ak)=>oA a0) x)):=eC 20 (rB bC zht) func197 a0 Qj (by kernel_rfl) hU.ok
theorem zaC:CT 383 (cA [ND] [ND] (λx=>(λ(a0:Aj)=>oA a0) x)):=eC 31 (IA bC) func383 (jl [jk 0 [fA 3 .Paths [2]] [(5,5),(12,29)]] [jk 3 [qA 12 gA,fA 3 .Paths [2]] [(5,5),(13,29)]]) Pj (by kernel_rfl) IP.ok
theorem ZM:CT 311 (cA [LC] [LC] (λx=>(λ(a0:Ah)=>oA a0) x)):=eC 20 (xB bC xK zaC) func311 a0 Qk (by kernel_rfl) nU.ok
theorem zes:CT 195 (cA [PD] [PD] (λx=>(λ(a0:Ao)=>oA a0) x)):=eC 25 (IA ZM) func195 (jl [jk 0 [fA 3 .Tab [1]] [(5,5),(12,23)]] [jk 3 [qA 12 gA,fA 3 .Tab [1]] [(5,5),(13,23)]]) So (by kernel_rfl) zbg.ok
theorem zhA:CT 196 (cA [ZE] [ZE] (λx=>(λ(a0:List Al)=>oA a0) x)):=eC 6 pn func196 a0 Ql (by kernel_rfl) LT.ok
theorem AT:CT 86 (cA [IC] [IC] (λx=>(λ(a0:Ac)=>oA a0) x)):=eC 26 (cC bC c90 zes zhA) func86 a0 Qm (by kernel_rfl) PT.ok
theorem zhZ:CT 111 (cA [vB] [vB] (λx=>(λ(a0:Aa)=>oA a0) x)):=eC 28 (IA bC) func111 a0 Qn (by kernel_rfl) bU.ok
theorem CJ:CT 88 (cA [QB] [QB] (λx=>(λ(a0:Ae)=>oA a0) x)):=eC 20 (xB bC zhZ xK) func88 a0 Qo (by kernel_rfl) TT.ok
theorem c89:CT 89 (cA [eE] [eE] (λx=>(λ(a0:List Ap)=>oA a0) x)):=eC 26 (IA bC) func89 (jl [jk 0 [rA 3 .Wire] [(5,5),(9,24)]] [jk 3 [rA 3 .Wire,qA 9 gA] [(5,5),(10,24)]]) Pk (by kernel_rfl) EP.ok
theorem zyj:CT 198 (cA [bF] [bF] (λx=>(λ(a0:Ad)=>oA a0) x)):=eC 20 (IA bC) func198 a0 Qp (by kernel_rfl) lU.ok
theorem c91:CT 91 (cA [wC] [wC] (λx=>(λ(a0:List Ad)=>oA a0) x)):=eC 20 (IA zyj) func91 (jl [jk 0 [rA 3 .Note] [(5,5),(9,18)]] [jk 3 [rA 3 .Note,qA 9 gA] [(5,5),(10,18)]]) Sp (by kernel_rfl) zaT.ok
theorem c38:CT 38 (cA [QC] [QC] (λx=>(λ(a0:Ab)=>oA a0) x)):=eC 48 (HE AT bC CJ c89 c90 c91) func38 (jl [jk 0 [fA 3 .World [1,2,3,4,7,8,9,11,12,13]] [(5,5),(23,34)]] [jk 3 [qA 23 gA,fA 3 .World [1,2,3,4,7,8,9,11,12,13]] [(5,5),(24,34)]]) Qq (by kernel_rfl) UT.ok
theorem uK:CT 218 (cA [kA,gA,gA] [kA] (λx=>XB x.1 x.2.1 x.2.2)):=eC 35 pn func218 (jm [jk 0 [rA 7 .byte] [(8,8),(21,33)]] [jk 5 [rA 7 .byte,qA 8 gA] [(21,33)]] [jq 2 17 12 16]) (u3 Ms) (by kernel_rfl) vS.ok
theorem zy6:CT 457 (cA [] [tE] (λ_=>some (EE))):=eD 2 pn func457 a0 (λ_=>Sf) (by kernel_rfl) zb6.ok
theorem zxR:CT 445 (cA [] [BV] (λ_=>some (BO))):=eD 3 (IA zy6) func445 a0 (λ_=>Sg) (by kernel_rfl) zbb.ok
theorem znf:CT 453 (cA [BV] [yA] (λx=>some (MG x))):=eD 20 (rB EB zhP) func453 (jr [jq 1 2 3 19]) Mt (by kernel_rfl) mR.ok
theorem wI:CT 217 (cA [eH] [kA] (λx=>lD x)):=eC 18 pn func217 (jl [jk 0 [rA 3 .byte] [(5,5),(9,16)]] [jk 3 [rA 3 .byte,qA 9 gA] [(5,5),(10,16)]]) Mu (by kernel_rfl) nR.ok
theorem zm9:CT 325 (cA [kA,gA,gA] [kA,yA] (λx=>yJ x.1 x.2.1 x.2.2)):=eC 36 pn func325 (jr [jq 1 27 8 26]) (u3 Mv) (by kernel_rfl) DS.ok
theorem znk:CT 215 (cA [kA,gA,gA] [gA,gA,yA] (λx=>kH x.1 x.2.1 x.2.2)):=eC 45 (IA zm9) func215 (jm [jk 0 [qA 11 gA] [(13,13),(31,40)]] [jk 8 [qA 11 gA,qA 31 gA] [(13,13),(32,40)]] [jq 1 19 14 18]) (u3 Mw) (by kernel_rfl) bS.ok
theorem znw:CT 461 (cA [gA,gA] [gA] (λx=>pE x.1 x.2)):=eC 23 pn func461 (jr [jq 2 12 7 11]) (u2 Mx) (by kernel_rfl) PS.ok
theorem zzs:CT 460 (cA [kA] [tE] (λx=>tM x)):=eC 79 (rB znk znw) func460 (jl [jk 0 [rA 3 .int] [(4,4),(14,28)],jk 2 [rA 3 .int] [(5,9),(29,77)]] [jk 5 [qA 4 gA,rA 3 .int] [(14,28)],jk 9 [qA 5 gA,rA 3 .int] [(6,9),(29,77)]]) My (by kernel_rfl) nQ.ok
theorem zzU:CT 462 (cA [gA] [gA] (λx=>some (pM x))):=eD 14 pn func462 (jr [jq 1 9 4 8]) Kh (by kernel_rfl) mN.ok
theorem zzk:CT 463 (cA [gA,gA] [gA] (λx=>some (TF x.1 x.2))):=eD 9 pn func463 a0 (u2 Sh) (by kernel_rfl) zb5.ok
theorem zz1:CT 459 (cA [tE,kA] [tE] (λx=>XK x.1 x.2)):=eC 151 (bD zhP zzs znw zzU zzk) func459 (jm [jk 0 [qA 7 gA,qA 8 gA,qA 9 gA,qA 10 gA,qA 11 gA,qA 12 gA,qA 13 gA,qA 14 gA] [(15,19),(60,124)],jk 2 [rA 5 .int] [(20,21),(135,149)]] [jk 7 [qA 7 gA,qA 8 gA,qA 9 gA,qA 10 gA,qA 11 gA,qA 12 gA,qA 13 gA,qA 14 gA,qA 15 gA] [(16,19),(60,124)],jk 16 [qA 135 gA,rA 5 .int] [(20,21),(136,149)]] [jq 2 32 25 31]) (u2 Mz) (by kernel_rfl) kQ.ok
theorem znW:CT 454 (cN [tE,kA] [tE,kA] (λx=>yT x.1 x.2)):=eC 17 (IA zz1) func454 (jl [jk 0 [qA 0 tE,qA 1 kA] [(6,14)]] [jk 1 [qA 0 tE,qA 1 kA] [(6,14)]]) (u2 Na) (by kernel_rfl) kP.ok
theorem zAj:CT 444 (cA [BV,kA] [BV] (λx=>zcW x.1 x.2)):=eC 50 (cC bC wI znf znW) func444 (jr [jq 1 17 7 16]) (u2 Nb) (by kernel_rfl) dR.ok
theorem zxD:CT 455 (cA [gA] [kA] (λx=>eN x)):=eC 25 (rB EB uK) func455 (jl [jk 0 [rA 3 .byte] [(8,17)]] [jk 4 [rA 3 .byte] [(8,17)]]) Nc (by kernel_rfl) MS.ok
theorem zzx:CT 456 (cA [tE] [kA] (λx=>RK x)):=eC 18 (IA uK) func456 (jl [jk 0 [rA 3 .byte] [(5,5),(9,16)]] [jk 3 [rA 3 .byte,qA 9 gA] [(5,5),(10,16)]]) Nd (by kernel_rfl) RP.ok
theorem zxE:CT 443 (cA [BV] [kA] (λx=>zc4 x)):=eC 23 (bD wI znf znW zxD zzx) func443 a0 Nf (by kernel_rfl) BQ.ok
theorem znO:CT 414 (cA [kA] [kA] (λx=>some (JE x))):=eD 10 (xB zxE zAj zxR) func414 a0 Ng (by kernel_rfl) OS.ok
theorem zy3:CT 413 (cA [kA] [kA] (λx=>some (kE x))):=eD 21 (rB bC znO) func413 ⟨[jk 720902 [rA 3 .byte] [(12,13)]],[jk 0 [rA 3 .byte] [(14,19)]],[jk 6 [rA 3 .byte] [(14,19)]],[],[]⟩ Nh (by kernel_rfl) YP.ok
theorem zxW:CT 415 (cA [kA, .v .byte] [kA] (λx=>FV x.1 x.2)):=eC 23 pn func415 (jl [jk 0 [rA 5 .byte] [(7,7),(11,21)]] [jk 3 [rA 5 .byte,qA 11 gA] [(7,7),(12,21)]]) (u2 Ni) (by kernel_rfl) ER.ok
theorem mT:CT 360 (cA [kA,kA] [kA] (λx=>some (ZC x.1 x.2))):=eD 27 (cC wI zy3 znO zxW) func360 (jr [jq 1 13 6 12]) (u2 Nj) (by kernel_rfl) eS.ok
theorem zxV:CT 280 (cA [kA,gA] [kA] (λx=>some (AD x.1 x.2))):=eD 22 (cC EB bC uK mT) func280 (jr [jq 1 13 5 12]) (u2 Nk) (by kernel_rfl) CR.ok
theorem zeD:CT 168 (cA [dH] [dH,kA] (λx=>jE x)):=eC 30 (xB c48 bC zxV) func168 (jr [jq 2 18 11 17]) Ps (by kernel_rfl) mV.ok
theorem zey:CT 169 (cA [kA] [bF] (λx=>aE x)):=eC 6 (IA bC) func169 a0 Px (by kernel_rfl) jU.ok
theorem zeF:CT 220 (cA [gA] [hI] Bf):=eR 10 (IA EB) func220 a0 (by kernel_rfl)
theorem zm4:CT 110 (cA [QB] [vB] Fx):=eR 9 (IA bC) func110 a0 (by kernel_rfl)
theorem zAa:CT 170 (cA [QB,gA,kA] [QB,pG,wC,gA] (u3 Hv)):=eR 51 (YE EB gN bC CJ zm4 mH zeF) func170 (jr [jq 2 26 14 25]) (by kernel_rfl)
theorem zhS:CT 332 (cA [gA,kA,gA,gA] [kA] (u4 Eo)):=eR 37 (bD EB mH wI uK zaJ) func332 (jr [jq 1 26 9 25]) (by kernel_rfl)
theorem zzh:CT 446 (cA [kA,kA,gA] [kA] (u3 Hw)):=eR 23 (cC EB wI uK mT) func446 (jr [jq 1 14 7 13]) (by kernel_rfl)
theorem zyr:CT 416 (cA [kA,kA,gA] [kA] (u3 Hx)):=eR 39 (xB EB bC zzh) func416 (jm [jk 0 [rA 7 .byte] [(8,8),(23,34)]] [jk 5 [rA 7 .byte,qA 8 gA] [(23,34)]] [jq 1 21 9 20]) (by kernel_rfl)
theorem zhG:CT 362 (cA [kA,kA,kA] [kA] (u3 Eq)):=eR 46 (IA zyr) func362 (jm [jk 0 [rA 7 .byte] [(8,9),(30,44)]] [jk 5 [rA 7 .byte,qA 30 gA] [(8,9),(31,44)]] [jq 1 22 10 21]) (by kernel_rfl)
theorem uT:CT 225 (cA [gA,vB] [kA] (u2 Ch)):=eR 36 (bD cP AJ wI zaJ zhS) func225 (jr [jq 1 18 5 17]) (by kernel_rfl)
theorem zaE:CT 313 (cA [kA,kA] [kA] (u2 Bz)):=eR 15 (rB bC mT) func313 a0 (by kernel_rfl)
theorem zya:CT 392 (cE [kA,gA,kA,gA,gA,gA,kA] [vB,yA] (u7 Dq) [2,5,6,9,10]):=eR 61 (BK bC cP AJ uT zaJ zaE zhS zhG) func392 (jr [(2,⟨[qA 43 yA],[(26,42)],[19,23,24]⟩)]) (by kernel_rfl)
theorem zAm:CT 333 (cE [nE,gA,kA,gA,kA] [nE,vB,gA] (u5 Er) [1,4,7,10,11,14,15]):=eR 75 (xB zep zht zya) func333 (jr [jq 7 47 41 46]) (by kernel_rfl)
theorem oT:CT 226 (cE [VB,gA,kA] [VB,vB,gA] (u3 Bq) [1,3,6,8,11,14,17,20,21,24,25]):=eR 38 (xB PH xK zAm) func226 a0 (by kernel_rfl)
theorem zh3:CT 202 (cA [kA,kA] [bF] (u2 Es)):=eR 10 (IA bC) func202 a0 (by kernel_rfl)
theorem bN:CT 227 (cA [VB,vB] [bF] (u2 Br)):=eR 13 (rB zh3 uT) func227 a0 (by kernel_rfl)
theorem zx4:CT 171 (cA [QB,gA,kA] [QB,pG,wC,gA] (u3 Hy)):=eR 67 (HE EB gN bC CJ oT bN) func171 ⟨[],[],[],[jq 2 29 17 28],[(11,[1000012])]⟩ (by kernel_rfl)
theorem zAp:CT 385 (cA [kA,kA,gA] [kA,yA] (λx=>some (iH x.1 x.2.1 x.2.2))):=eD 48 (cC EB bC wI mT) func385 (jm [jk 0 [rA 8 .byte,rA 9 .byte] [(10,10),(26,43)]] [jk 6 [rA 8 .byte,rA 9 .byte,qA 10 gA] [(26,43)]] [jq 1 23 11 22]) (u3 Nw) (by kernel_rfl) pR.ok
theorem RO:CT 319 (cA [kA, .v .str] [kA] (λx=>uE x.1 x.2)):=eC 15 (IA zAp) func319 a0 (u2 Pu) (by kernel_rfl) MU.ok
theorem zys:CT 281 (cA [VB] [VB,yA] Cu):=eR 34 (xB PH xK RO) func281 (jr [jq 2 26 7 25]) (by kernel_rfl)
theorem zhw:CT 334 (cA [gA] [kA] Bk):=eR 8 (rB EB uK) func334 a0 (by kernel_rfl)
theorem znt:CT 229 (cE [VB] [VB,vB,gA] Fy [1,3,6,8,11,14,17,20,21,24,25]):=eR 27 (cC PH xK oT zhw) func229 (jr [jq 1 13 5 12]) (by kernel_rfl)
theorem zz7:CT 172 (cA [QB,gA] [QB,pG,wC,gA] (u2 Hz)):=eR 67 (YE EB gN CJ zeF bN znt zys) func172 ⟨[],[],[],[jq 2 23 16 22,jq 4 34 25 33,jq 8 53 48 52],[(11,[1000012])]⟩ (by kernel_rfl)
theorem c60:CT 60 (cA [gA] [LB] (λx=>some (zB x))):=eD 12 (IA EB) func60 a0 Rh (by kernel_rfl) zcM.ok
theorem zyo:CT 173 (cA [QB,LB] [QB] (u2 Ct)):=eR 17 (xB mG gN CJ) func173 (jn [jk 851972 [fA 5 .Client [1,5,8,9,11,12,15,16,18,20,23,25,28,31]] [(14,15)]] [jq 2 13 8 12]) (by kernel_rfl)
theorem zhQ:CT 109 (cA [QB] [QB] Dr):=eR 11 (IA bC) func109 a0 (by kernel_rfl)
theorem zet:CT 114 (cA [gA,gA,kA] [bF] (u3 Ci)):=eR 12 (IA bC) func114 a0 (by kernel_rfl)
theorem zy4:CT 174 (cA [QB] [QB,wC] Ia):=eR 23 (cC gN CJ zhQ zet) func174 a0 (by kernel_rfl)
theorem IT:CT 14 (cA [] [LB] (λ_=>some (AE))):=eD 2 (IA c60) func14 a0 (λ_=>Ri) (by kernel_rfl) zdj.ok
theorem zhK:CT 104 (cA [vB] [kA] Bg):=eR 73 (xB AJ wI uK) func104 a0 (by kernel_rfl)
theorem zoh:CT 100 (cA [LB,LB,vB] [oO] (u3 Fz)):=eR 12 (IA zhK) func100 a0 (by kernel_rfl)
theorem c44:CT 44 (cA [QB,pG] [eE] (u2 Cj)):=eR 25 (rB IT zoh) func44 (jl [jk 0 [rA 5 .Wire] [(7,7),(11,23)]] [jk 3 [rA 5 .Wire,qA 11 gA] [(7,7),(12,23)]]) (by kernel_rfl)
theorem c71:CT 71 (eB [.mv [1,2,3,4,7,8,9,11,12,13], .plain] [QC,fI] [QC,eE,yA] (u2 Ku) [(true,14),(false,1),(false,1)] [1,2,3,4,7,8,9,11,12,13,14] false):=eR 110 (GE c44 c60 zeD zey zAa zx4 zz7 zyo (IA zy4)) func71 (jc [jk 1572873 [rA 9 .Frame,rA 10 .Note,qA 11 gA,fA 2 .World [1,2,3,4,7,8,9,11,12,13],fA 8 .Client []] [(12,13),(26,93)],jk 3342350 [rA 9 .Frame,rA 10 .Note,qA 11 gA,fA 8 .Client []] [(53,93)],jk 4194320 [rA 9 .Frame,rA 10 .Note,qA 11 gA,fA 8 .Client []] [(66,93)],jk 4915218 [rA 10 .Note,qA 11 gA,fA 8 .Client []] [(77,93)],jk 5505044 [rA 10 .Note,qA 11 gA,fA 8 .Client []] [(86,93)],jk 5767189 [qA 11 gA] []]) (by kernel_rfl)
theorem zxK:CT 282 (cA [gA] [gA] Ib):=eR 14 pn func282 (jc [jq 262148 4 6 6,jq 458759 7 9 11,jq 458760 7 10 11,jq 458761 7 11 11]) (by kernel_rfl)
theorem zyH:CT 283 (cA [zd1] [yA] Da):=eR 22 (IA EB) func283 (jr [jq 1 2 3 21]) (by kernel_rfl)
theorem zzg:CT 361 (cA [kA,kA] [kA] (u2 Kv)):=eR 27 pn func361 (jl [jk 0 [rA 5 .byte] [(6,7),(11,25)]] [jk 3 [rA 5 .byte,qA 11 gA] [(6,7),(12,25)]]) (by kernel_rfl)
theorem zz9:CT 284 (cN [zd1,eH,eE,eH] [kA,yA] (u4 Kw)):=eR 117 (YE wI zaE RO zm9 mT zzg zhG) func284 (jc [jk 1048582 [] [(8,9),(18,116)],jk 1900553 [] [(8,9),(31,116)],jk 4128784 [] [(8,9),(65,116)]]) (by kernel_rfl)
theorem zy1:CT 175 (cA [zdm,eE,eH] [kA,yA] (u3 Ga)):=eR 75 (cC bC zxK zyH zz9) func175 (jm [jk 0 [rA 8 .bs] [(6,7),(10,13),(20,67)]] [jk 5 [rA 8 .bs,qA 20 gA] [(6,7),(10,13),(21,67)]] [jq 8 36 30 35,jq 11 58 47 57]) (by kernel_rfl)
theorem c92:CT 92 (cA [ZE,LB,gA] [ZE] (u3 Ic)):=eR 52 (bD mG EB zeL zhA zeI) func92 (jn [jk 1900551 [rA 7 .Credit] [(30,50)],jk 2883593 [rA 7 .Credit] [(45,50)]] [jq 2 23 11 22]) (by kernel_rfl)
theorem znr:CT 102 (eB [.ptr [], .plain] [zb7,gA] [kA,zb7] (u2 Bl) [(false,1)] [0] false):=eR 26 (IA bC) func102 a0 (by kernel_rfl)
theorem zAs:CT 101 (eB [.ptr [], .plain] [zb7,gA] [gA,zb7] (u2 Ck) [(false,1)] [] false):=eR 18 (rB znr znk) func101 a0 (by kernel_rfl)
theorem c42:CT 42 (cN [kA] [vB,yA] Dc):=eR 70 (HE BI cP zAs znr AJ zhK) func42 (jn [jk 589829 [fA 4 .bs [],fA 5 .Frame [2,3,5,6,9,10]] [(13,57)],jk 1114120 [fA 4 .bs [],fA 5 .Frame [2,3,5,6,9,10]] [(26,57)],jk 1835017 [fA 4 .bs [],fA 5 .Frame [2,3,5,6,9,10]] [(29,30)],jk 2686991 [fA 4 .bs [],fA 5 .Frame [2,3,5,6,9,10]] [(42,43)],jk 2883601 [fA 4 .bs [],fA 5 .Frame [2,3,5,6,9,10]] [(48,57)]] [jq 6 17 18 25,(21,⟨[qA 67 yA],[(58,66)],[1000005]⟩)]) (by kernel_rfl)
theorem c97:CT 97 (cA [PD,LB] [yA] (u2 Dd)):=eR 25 pn func97 (jm [jk 0 [] [(4,4),(6,6),(10,24)]] [jk 2 [qA 10 gA] [(4,4),(6,6),(11,24)]] [jq 4 23 14 22]) (by kernel_rfl)
theorem zng:CT 214 (cA [ZE,LB] [gA] (u2 Bw)):=eR 28 (rB zeL zeI) func214 (jr [jq 2 15 9 14]) (by kernel_rfl)
theorem zmQ:CT 200 (cA [IC,LB,gA] [yA] (u3 Gb)):=eR 19 (rB c97 zng) func200 (jr [jq 1 6 7 18]) (by kernel_rfl)
theorem zyl:CT 314 (cA [kA,LB] [kA] (u2 Ie)):=eR 17 (xB mG bC uK) func314 a0 (by kernel_rfl)
theorem zh2:CT 203 (cA [LB,gA,kA,kA,gA] [kA] (u5 Et)):=eR 46 (HE mG EB mH wI uK zyl) func203 (jr [jq 1 33 11 32]) (by kernel_rfl)
theorem zoa:CT 201 (cA [kL,LB,gA,kA,kA,gA] [kA] (u6 Gc)):=eR 32 (xB zhs zh2 zaE) func201 (jr [jq 2 27 20 26]) (by kernel_rfl)
theorem c93:CT 93 (cE [IC,gA,LB,vB] [IC,GF,wC] (u4 Kx) [7,8]):=eR 82 (YE bC zeD zey zmQ zoa zh3 zh2) func93 (jr [jq 1 33 16 32]) (by kernel_rfl)
theorem zAd:CT 315 (cA [gA,gA] [yA] (u2 Cv)):=eR 17 (IA EB) func315 (jr [jq 1 4 5 16]) (by kernel_rfl)
theorem znn:CT 330 (cA [kA,kA] [gA] (u2 Bo)):=eR 31 pn func330 (jl [jk 0 [qA 5 gA] [(6,6),(14,29)]] [jk 5 [qA 5 gA,qA 14 gA] [(6,6),(15,29)]]) (by kernel_rfl)
theorem zhI:CT 316 (cA [kA,kA] [yA] (u2 Bm)):=eR 14 (IA znn) func316 (jr [jq 1 4 5 13]) (by kernel_rfl)
theorem zzF:CT 204 (cA [kL,gA,LB,vB] [gA] (u4 If)):=eR 52 (YE mG EB AJ zhs zoa zAd zhI) func204 (jr [jq 1 31 9 30]) (by kernel_rfl)
theorem znP:CT 320 (cA [kA,kA] [kA] (u2 Bx)):=eR 8 (IA mT) func320 a0 (by kernel_rfl)
theorem zhn:CT 209 (cA [kA] [kA] Bh):=eR 11 (xB zaG RO znP) func209 a0 (by kernel_rfl)
theorem zh4:CT 210 (cA [gA,kA,kA,gA,kA] [kA] (u5 De)):=eR 44 (cC EB mH wI uK) func210 (jr [jq 1 33 11 32]) (by kernel_rfl)
theorem zm6:CT 317 (cA [kA,gA,kA,kA,gA,kA] [kA] (u6 Ds)):=eR 34 (xB zhn zh4 zaE) func317 (jr [jq 3 30 23 29]) (by kernel_rfl)
theorem zzb:CT 205 (cA [kA,vB] [yA] (u2 Ig)):=eR 29 (xB AJ zhI zm6) func205 (jr [jq 1 4 5 28]) (by kernel_rfl)
theorem zyz:CT 318 (cA [LB] [ND] Cf):=eR 5 pn func318 a0 (by kernel_rfl)
theorem zAk:CT 328 (cA [kA,kA,kA] [kA] (u3 Ih)):=eR 26 (cC zaG mH wI znP) func328 (jr [jq 1 19 7 18]) (by kernel_rfl)
theorem zAo:CT 327 (cA [kA] [kA] Cw):=eR 8 (IA RO) func327 a0 (by kernel_rfl)
theorem zyV:CT 329 (cA [kA,gA] [kA] (u2 Ii)):=eR 20 (xB EB bC RO) func329 (jl [jk 0 [rA 5 .byte] [(6,6),(12,18)]] [jk 5 [rA 5 .byte,qA 6 gA] [(12,18)]]) (by kernel_rfl)
theorem zob:CT 222 (cA [kA,kA,kA,gA] [kA] (u4 Gd)):=eR 21 (xB zAo zAk zyV) func222 a0 (by kernel_rfl)
theorem zx0:CT 389 (cA [] [RE] (λ_=>Ky)):=eR 3 pn func389 a0 (by kernel_rfl)
theorem zhk:CT 326 (cA [gA,kA] [nE] (u2 Df)):=eR 19 (xB EB bC zx0) func326 (jr [jq 1 12 5 11]) (by kernel_rfl)
theorem zna:CT 221 (cA [gA,kA,kA] [VB] (u3 Ge)):=eR 27 (cC bC mH zaJ zhk) func221 (jr [jq 1 19 7 18]) (by kernel_rfl)
theorem zyh:CT 206 (cA [kA,gA,LB,vB] [LC] (u4 Eu)):=eR 59 (BK mG EB bC AJ zaG zna zob zyz) func206 (jr [jq 1 32 10 31]) (by kernel_rfl)
theorem zzI:CT 207 (cA [PD,LC] [PD,gA] (u2 Bi)):=eR 51 (HE zaA zeB zes zn0 WO ZM) func207 (jr [jq 2 9 10 21,jq 6 30 31 41]) (by kernel_rfl)
theorem zhX:CT 208 (cA [kA,kA,kA] [bF] (u3 Dt)):=eR 14 (IA bC) func208 a0 (by kernel_rfl)
theorem znG:CT 321 (cE [VB] [VB,vB,gA] Gf [1,3,6,8,11,14,17,20,21,24,25]):=eR 25 (cC PH xK oT zhw) func321 (jr [jq 1 12 5 11]) (by kernel_rfl)
theorem zyS:CT 211 (cA [LC] [LC,GF,wC] Ev):=eR 49 (cC bN WO ZM znG) func211 ⟨[],[],[],[jq 2 24 11 23],[(8,[1000007])]⟩ (by kernel_rfl)
theorem zeJ:CT 212 (cA [PD,gA,LC] [PD,yA] (u3 Bs)):=eR 38 (xB zeB zes ZM) func212 (jr [jq 2 24 11 23]) (by kernel_rfl)
theorem c94:CT 94 (cE [IC,gA,LB,vB] [IC,GF,wC] (u4 Kz) [7,8]):=eR 181 (GE BI bC zaA zh2 zzF zzb zyh zzI (bD zhX zhn zh4 zyS zeJ)) func94 (jn [jk 3604486 [rA 11 .Note,fA 8 .Server [0,1,2,5,6],fA 4 .Server []] [(9,10),(12,15),(56,130)]] [jq 1 47 21 46,jq 14 158 142 157]) (by kernel_rfl)
theorem zzp:CT 430 (cA [RE,gA] [yA] (u2 Cl)):=eR 31 (xB EB znF znN) func430 (jr [jq 1 12 5 11,jq 3 4 13 30]) (by kernel_rfl)
theorem zy9:CT 390 (cA [RE,gA] [RE,yA] (u2 Dg)):=eR 57 (rB znx zzp) func390 (jl [jk 0 [fA 6 .Win [1]] [(7,7),(22,38)]] [jk 5 [qA 7 gA,fA 6 .Win [1]] [(22,38)]]) (by kernel_rfl)
theorem zxG:CT 391 (cA [kA,gA,vB] [kA,yA] (u3 Ij)):=eR 41 (bD uT zaE zhI zhS zhG) func391 (jr [(2,⟨[qA 28 yA],[(12,27)],[8]⟩)]) (by kernel_rfl)
theorem zyQ:CT 331 (cA [nE,gA,vB] [nE,kA,gA] (u3 Ew)):=eR 59 (bD uT zep zht zy9 zxG) func331 (jr [jq 2 31 15 30]) (by kernel_rfl)
theorem znj:CT 223 (cE [VB,gA,vB] [VB,kA,gA] (u3 Dh) [1,14,15]):=eR 157 (BK EB cP AJ PH xK zhk znn zyQ) func223 (jn [jk 6684686 [fA 13 .Ep []] [(103,104)],jk 6881296 [fA 13 .Ep []] [(106,112)],(8978455,⟨[fA 9 .Chan [1,14]],[(127,136),(139,154)],[1000014]⟩),jk 9633817 [fA 9 .Chan [1,8,11,14]] [(148,150)],jk 9895963 [fA 9 .Chan [1,14]] [(127,136),(153,154)]] [jq 2 37 19 36,jq 5 11 45 54,jq 6 12 55 67,jq 7 85 68 84,jq 9 98 87 97,jq 23 147 141 146]) (by kernel_rfl)
theorem znv:CT 224 (cA [VB,gA] [kA,yA] (u2 Gg)):=eR 50 (rB bC PH) func224 (jr [jq 3 10 11 19,jq 7 34 35 46]) (by kernel_rfl)
theorem zmW:CT 386 (cA [ND,LB] [gA] (λx=>eJ x.1 x.2)):=eC 21 pn func386 (jl [jk 0 [] [(4,6),(10,20)]] [jk 2 [qA 10 gA] [(4,6),(11,20)]]) (u2 Mr) (by kernel_rfl) kR.ok
theorem zyv:CT 322 (cA [ND,gA,LB,kA] [ND,yA] (u4 Gh)):=eR 65 (bD EB BI zeA zaC zmW) func322 (jr [jq 3 49 17 48]) (by kernel_rfl)
theorem zxY:CT 429 (cA [VB] [VB,yA] Ik):=eR 38 (cC PH xK RO zhk) func429 (jr [jq 2 20 7 19]) (by kernel_rfl)
theorem zzu:CT 387 (cA [VB,gA,kA] [VB,gA] (u3 Il)):=eR 58 (HE EB BI PH xK zhw zxY) func387 (jr [jq 2 33 13 32,jq 7 55 47 54]) (by kernel_rfl)
theorem zxN:CT 323 (cE [LC,gA,kA] [LC,GF,wC] (u3 La) [24,25]):=eR 75 (cC bC bN znG zzu) func323 ⟨[(2162695,⟨[rA 11 .Note],[(34,47)],[1000009]⟩)],[],[],[],[(12,[1000013])]⟩ (by kernel_rfl)
theorem znu:CT 388 (cA [ND,gA] [ND] (u2 Du)):=eR 31 (IA zaC) func388 ⟨[jk 1441799 [fA 5 .Paths [2]] [(23,28)]],[jk 0 [fA 5 .Paths [2]] [(7,7),(15,29)]],[jk 3 [qA 15 gA,fA 5 .Paths [2]] [(7,7),(16,29)]],[],[]⟩ (by kernel_rfl)
theorem zyD:CT 324 (cA [ND,gA,LB,kA] [ND,yA] (u4 Gi)):=eR 64 (BK mG EB bC mH zeA zaC zmW znu) func324 (jr [jq 1 34 11 33,jq 4 49 40 48]) (by kernel_rfl)
theorem zyF:CT 213 (cE [LC,gA,LB,vB,kA] [LC,GF,wC,yA] (u5 Gj) [24,25]):=eR 180 (GE mG bC zhX znj znv uT oT bN (bD WO ZM zyv zxN zyD)) func213 (jn [(5242894,⟨[rA 20 .Note,rA 21 .Out,fA 14 .Sess []],[(22,26),(82,136)],[16]⟩),jk 6225936 [rA 20 .Note,rA 21 .Out,fA 14 .Sess []] [(22,26),(97,136)],(6946834,⟨[rA 20 .Note,fA 14 .Sess [1,2,4,17]],[(107,118)],[1000022]⟩),jk 7798805 [rA 20 .Note,rA 21 .Out,fA 14 .Sess []] [(24,26),(121,136)]] [jq 2 44 33 43,jq 26 159 154 158]) (by kernel_rfl)
theorem c96:CT 96 (cE [IC,gA,LB,vB] [IC,GF,wC] (u4 Lb) [7,8]):=eR 93 (YE bC zaA zeD zey zmQ zeJ zyF) func96 (jn [jk 2949127 [rA 13 .byte] [],(4653067,⟨[rA 16 .Note,fA 4 .Server [5]],[(18,18),(72,89)],[1000012]⟩)] [jq 2 34 24 33]) (by kernel_rfl)
theorem c99:CT 99 (cA [vB] [gA] Dv):=eR 6 (IA zhK) func99 a0 (by kernel_rfl)
theorem c98:CT 98 (cA [ZE,LB,gA] [ZE,yA] (u3 Dw)):=eR 41 (bD EB zeL zhA zeI zng) func98 (jr [jq 3 29 15 28]) (by kernel_rfl)
theorem c40:CT 40 (cE [IC,gA,LB,kA] [IC,GF,wC] (u4 Im) [7,8]):=eR 129 (GE mG EB c42 FT AT c92 c93 c94 (bD cP c96 c97 c98 c99)) func40 ⟨[jk 3342346 [rA 14 .Out,rA 15 .Note,fA 11 .Server []] [(54,92)],jk 3538955 [rA 14 .Out,rA 15 .Note,fA 11 .Server []] [(58,92)],jk 4390925 [rA 14 .Out,rA 15 .Note,fA 11 .Server []] [(71,92)],jk 5242895 [rA 14 .Out,rA 15 .Note,fA 11 .Server []] [(84,92)],jk 6881301 [fA 11 .Server []] [(19,20),(106,120)]],[jk 1 [rA 16 .Out,fA 11 .Server []] [(18,20),(96,125)],jk 2 [rA 16 .Out,fA 11 .Server []] [(18,20),(98,124)]],[jk 17 [rA 16 .Out,qA 96 gA,fA 11 .Server []] [(18,20),(97,125)]],[jq 2 35 23 34],[]⟩ (by kernel_rfl)
theorem c41:CT 41 (cA [GF] [eE] Dx):=eR 24 (rB IT zoh) func41 (jl [jk 0 [rA 3 .Wire] [(5,5),(9,22)]] [jk 3 [rA 3 .Wire,qA 9 gA] [(5,5),(10,22)]]) (by kernel_rfl)
theorem zyk:CT 219 (cA [kA,gA,vB] [vB,yA] (u3 Ey)):=eR 47 (xB bC AJ zm6) func219 (jr [jq 1 16 9 15]) (by kernel_rfl)
theorem zym:CT 105 (cA [QB,gA,vB] [QB,pG,wC] (u3 Lc)):=eR 77 (GE bC CJ zhZ zh3 zhn zh4 zyk zeF (rB zna zob)) func105 a0 (by kernel_rfl)
theorem zyf:CT 106 (cE [QB,gA,vB] [QB,pG,wC] (u3 Ld) [1,5,8,9,11,12,15,16,41,42]):=eR 152 (BK bC CJ zhX znj znv uT oT bN) func106 ⟨[(3538954,⟨[rA 15 .Note,fA 9 .Client [1,5,8,9,11,12,15,16]],[(55,76)],[1000010]⟩),jk 5505037 [rA 15 .Note,fA 9 .Client [1,5,8,9,11,12,15,16]] [(85,100)],(6750224,⟨[rA 15 .Note],[(104,116)],[11]⟩)],[],[],[],[(23,[1000017])]⟩ (by kernel_rfl)
theorem c43:CT 43 (cE [QB,gA,vB] [QB,pG,wC] (u3 In) [1,5,8,9,11,12,15,16,41,42]):=eR 68 (BK EB gN BI CJ cP AJ zym zyf) func43 (jr [jq 1 21 9 20,jq 3 38 24 37,jq 5 58 46 57]) (by kernel_rfl)
theorem c9:CT 9 (cE [QC,gA,LB,kA] [QC,eE] (u4 Cm) [1,9,11,12,13,14]):=eR 95 (GE cG mG c38 EB c40 c41 c42 c43 (IA c44)) func9 (jr [jq 2 33 21 32]) (by kernel_rfl)
theorem c13:CT 13 (cA [QC,LB] [gA] (λx=>bL x.1 x.2)):=eC 24 (IA IT) func13 (jl [jk 0 [] [(4,4),(6,6),(13,23)]] [jk 4 [qA 13 gA] [(4,4),(6,6),(14,23)]]) (u2 Ls) (by kernel_rfl) OQ.ok
theorem c72:CT 72 (cE [QC,fI] [QC,eE,yA] (u2 Le) [14]):=eR 117 (bD c9 c13 c60 bC zy1) func72 (jc [jk 4718605 [qA 13 gA,fA 12 .Addr [],fA 4 .World [1,2,3,4,7,8,9,11,12,13],rA 14 .byte] [(5,6),(74,103)],jk 5111823 [qA 13 gA,fA 4 .World [1,2,3,4,7,8,9,11,12,13],rA 14 .byte] [(5,6),(80,103)],jk 5439505 [fA 4 .World [1,2,3,4,7,8,9,11,12,13],rA 14 .byte] [(5,6),(85,103)]]) (by kernel_rfl)
theorem zzS:CT 285 (cA [LC,kA] [LC,GF,wC,gA] (u2 Di)):=eR 63 (bD bC oT bN WO ZM) func285 ⟨[],[],[],[jq 2 22 15 21],[(11,[1000010])]⟩ (by kernel_rfl)
theorem zyX:CT 176 (cA [IC,gA,gA,kA] [IC,GF,wC,gA] (u4 Io)):=eR 68 (bD EB FT AT zeJ zzS) func176 (jr [jq 2 26 19 25,jq 4 37 28 36]) (by kernel_rfl)
theorem zAb:CT 286 (cA [kA] [kL] (λx=>some (jF x))):=eD 10 (rB mH RO) func286 a0 Pv (by kernel_rfl) XU.ok
theorem zxA:CT 287 (cA [gA] [PD] (λx=>some (XD x))):=eD 9 (IA EB) func287 a0 Pw (by kernel_rfl) UU.ok
theorem zzH:CT 177 (cA [IC] [IC,wC] Ez):=eR 45 (YE FT AT bC zeD zey zAb zxA) func177 (jr [jq 2 17 9 16]) (by kernel_rfl)
theorem zmP:CT 288 (cA [LC] [LC] Fa):=eR 19 (xB bC WO ZM) func288 a0 (by kernel_rfl)
theorem zzz:CT 178 (cA [IC,gA] [IC,wC,gA] (u2 Ip)):=eR 58 (bD FT AT zet zeJ zmP) func178 (jr [jq 4 33 15 32]) (by kernel_rfl)
theorem c73:CT 73 (eB [.mv [1,2,3,4,7,8,9,11,12,13], .plain] [QC,fI] [QC,eE,yA] (u2 Lf) [(true,14),(false,1),(false,1)] [1,2,3,4,7,8,9,11,12,13,14] false):=eR 80 (cC c41 zyX zzH zzz) func73 (jc [jk 1245191 [rA 7 .Out,rA 8 .Note,qA 9 yA,fA 2 .World [1,2,3,4,7,8,9,11,12,13]] [(10,16),(21,70)],jk 2686986 [rA 8 .Note,qA 9 yA,fA 2 .World [1,2,3,4,7,8,9,11,12,13]] [(14,16),(43,70)],jk 3604493 [rA 8 .Note,qA 9 yA,fA 2 .World [1,2,3,4,7,8,9,11,12,13]] [(14,16),(57,70)]]) (by kernel_rfl)
theorem zxL:CT 179 (cA [VB] [eH] Gk):=eR 36 (rB bC PH) func179 (jc [jk 655366 [rA 3 .bs] [(11,17)],jk 1835017 [rA 3 .bs] [(29,34)]]) (by kernel_rfl)
theorem c74:CT 74 (eB [.mv [1,2,3,4,7,8,9,11,12,13], .plain] [QC,fI] [QC,yA] (u2 Lg) [(true,14),(false,1)] [1,2,3,4,7,8,9,11,12,13] false):=eR 73 (rB bC zxL) func74 (jn [jk 655364 [fA 4 .World [1,2,3,4,7,8,9,11,12,13],fA 6 .Chan []] [(5,5),(7,7),(11,52)]] [jq 7 42 24 41]) (by kernel_rfl)
theorem znD:CT 228 (cA [VB,gA] [VB] (u2 Bu)):=eR 34 (xB EB PH xK) func228 (jn [jk 1835012 [fA 5 .Chan [1,3,6,8,11,14]] [(29,32)]] [jq 2 28 8 27]) (by kernel_rfl)
theorem zyU:CT 230 (cA [hI,gA] [yA] (u2 Cq)):=eR 21 (rB EB zog) func230 (jr [jq 1 4 5 20]) (by kernel_rfl)
theorem zmZ:CT 108 (cA [hI,gA] [hI,gA] (u2 Dy)):=eR 28 (IA zyU) func108 a0 (by kernel_rfl)
theorem zxB:CT 107 (cE [QB,gA] [QB,pG,wC] (u2 Lh) [1,5,8,9,11,12,15,16,41,42]):=eR 70 (BK CJ zmZ zhQ zet zeF bN znD znt) func107 ⟨[jk 3080203 [fA 7 .Client [1,5,8,9,11,12,15,16,18,20,23,25,28,31]] [(48,50)]],[],[],[],[(15,[1000011])]⟩ (by kernel_rfl)
theorem c45:CT 45 (cE [QB,gA] [QB,pG,wC] (u2 Iq) [1,5,8,9,11,12,15,16,41,42]):=eR 77 (GE EB gN bC CJ zxB zmZ zhQ zm4 (IA zhZ)) func45 (jr [jq 2 24 12 23,jq 10 56 57 63]) (by kernel_rfl)
theorem zyJ:CT 335 (cA [ND,gA] [ND] (u2 Dj)):=eR 18 (cC EB zeA zaC znu) func335 (jr [jq 1 12 5 11]) (by kernel_rfl)
theorem zz8:CT 231 (cA [LC,gA] [LC] (u2 Ir)):=eR 39 (HE EB znD WO zmP ZM zyJ) func231 (jr [jq 2 19 8 18]) (by kernel_rfl)
theorem zzK:CT 112 (cA [PD,gA] [PD] (u2 Is)):=eR 49 (cC EB zeB zes zz8) func112 ⟨[(2621450,⟨[fA 5 .Tab [1]],[(41,46)],[1000007]⟩)],[jk 0 [fA 5 .Tab [1]] [(7,7),(24,47)]],[jk 5 [qA 24 gA,fA 5 .Tab [1]] [(7,7),(25,47)]],[jq 1 15 8 14,jq 8 40 31 39],[]⟩ (by kernel_rfl)
theorem c46:CT 46 (cE [IC,gA] [IC,wC] (u2 Iu) [7]):=eR 68 (HE EB FT AT zzK zaA zet) func46 ⟨[jk 3670028 [rA 7 .Note] [(57,64)]],[(0,⟨[rA 7 .Note],[(9,10),(32,65)],[1000006]⟩)],[jk 7 [rA 7 .Note,qA 32 gA] [(9,10),(33,65)]],[jq 2 20 13 19,jq 10 56 41 55],[]⟩ (by kernel_rfl)
theorem BG:CT 10 (cE [QC] [QC,eE] Dz [1,9,11,12,13,14]):=eR 79 (bD cG c38 c44 c45 c46) func10 (jm [jk 0 [rA 5 .Wire,fA 4 .World [1,2,3,4,7,8,9,11,12,13]] [(6,9),(31,61)]] [jk 7 [rA 5 .Wire,qA 31 gA,fA 4 .World [1,2,3,4,7,8,9,11,12,13]] [(6,9),(32,61)]] [jq 2 21 14 20]) (by kernel_rfl)
theorem c75:CT 75 (cA [dH,gA] [dH] (u2 Gm)):=eR 21 (xB EB c48 bC) func75 (jn [jk 1114116 [fA 5 .Dice [0]] [(18,19)]] [jq 2 17 12 16]) (by kernel_rfl)
theorem zyc:CT 180 (cA [eE,oO] [eE] (u2 Iv)):=eR 19 (rB c49 c89) func180 a0 (by kernel_rfl)
theorem c76:CT 76 (cA [QC,eE] [QC] (u2 Ca)):=eR 23 (rB c38 zyc) func76 (jl [jk 0 [fA 5 .World [1,2,3,4,7,8,9,11,12,13]] [(7,7),(12,21)]] [jk 3 [qA 12 gA,fA 5 .World [1,2,3,4,7,8,9,11,12,13]] [(7,7),(13,21)]]) (by kernel_rfl)
theorem c24:CT 24 (cA [QC,fI] [QC,yA] (u2 Gn)):=eR 115 (GE BG cG c38 c70 c71 c72 c73 c74 (rB c75 c76)) func24 (jn [jq 1769481 27 29 32,jq 1769482 27 30 32,jq 1769483 27 31 32,jq 1769484 27 32 32,jk 1769485 [rA 7 .Wire,qA 8 yA,fA 6 .World []] [(33,107)],jq 2686991 41 43 46,jq 2686992 41 44 46,jq 2686993 41 45 46,jq 2686994 41 46 46,jk 2686995 [rA 7 .Wire,qA 8 yA,fA 6 .World []] [(47,107)],jq 3538965 54 56 57,jq 3538966 54 57 57,jk 3538967 [rA 7 .Wire,qA 8 yA,fA 6 .World [1,9,11,12,13]] [(58,107)],jq 4325401 66 68 68,jk 4325402 [rA 7 .Wire,qA 8 yA,fA 6 .World [1,9,11,12,13]] [(69,107)],jk 4980764 [rA 7 .Wire,qA 8 yA,fA 6 .World [1,9,11,12,13]] [(78,107)],jk 5636127 [qA 8 yA,fA 6 .World [1,2,3,4,7,8,9,11,12,13]] [(88,107)],jk 6094881 [fA 6 .World [1,2,3,4,7,8,9,11,12,13]] [(94,107)]] [jq 1 22 9 21]) (by kernel_rfl)
theorem zzt:CT 130 (cA [oO] [yA] (λx=>some (OE x))):=eD 17 (IA VG) func130 (jr [jq 1 2 3 16]) Rx (by kernel_rfl) zbK.ok
theorem c56:CT 56 (cA [eE] [yA] (λx=>some (RD x))):=eD 19 (IA zzt) func56 (jl [jk 0 [] [(2,15)]] [jk 2 [qA 3 gA] [(2,2),(4,15)]]) Ry (by kernel_rfl) zbd.ok
theorem zzy:CT 137 (cA [gA,gA] [yA] (λx=>some (SD x.1 x.2))):=eD 12 pn func137 (jr [jq 1 4 5 11]) (u2 Po) (by kernel_rfl) TU.ok
theorem c59:CT 59 (cA [bF] [yA] (λx=>some (nC x))):=eD 60 (xB BB VG zzy) func59 (jr [jq 1 2 3 59]) Lp (by kernel_rfl) DR.ok
theorem GT:CT 12 (cA [QC] [yA] (λx=>dG x)):=eC 113 (YE BB iN c55 c56 fN HL c59) func12 (jm [jk 0 [] [(2,3),(47,84)],jk 2 [] [(2,2),(4,4),(85,98)],jk 4 [] [(2,2),(5,5),(99,112)]] [jk 4 [qA 3 gA] [(2,2),(47,84)],jk 9 [qA 4 gA] [(2,2),(85,98)],jk 14 [qA 5 gA] [(2,2),(99,112)]] [jq 1 46 6 45,jq 6 84 51 83]) Mn (by kernel_rfl) vQ.ok
theorem c25:CT 25 (cE [QC,fI] [QC,yA] (u2 Kf) [1,11,12,13]):=eR 30 (cC GT c66 c67 c68) func25 (jr [jq 2 22 9 21]) (by kernel_rfl)
theorem GL:CT 62 (cA [kA,kA] [yA] (λx=>(λ(a0:List UInt8) (a1:List UInt8)=>jB a0 a1) x.1 x.2)):=eC 10 pn func62 a0 (u2 Ny) (by kernel_rfl) oS.ok
theorem zyA:CT 396 (cA [tE,tE] [yA] (λx=>(λ(a0:List Int) (a1:List Int)=>jB a0 a1) x.1 x.2)):=eC 26 pn func396 (jl [jk 0 [] [(4,5),(11,25)]] [jk 4 [qA 5 gA] [(4,4),(11,25)]]) (u2 Nz) (by kernel_rfl) fQ.ok
theorem zAt:CT 342 (cA [RE,RE] [yA] (λx=>(λ(a0:Aq) (a1:Aq)=>jB a0 a1) x.1 x.2)):=eC 17 (IA zyA) func342 (jr [jq 1 4 5 16]) (u2 Oa) (by kernel_rfl) TQ.ok
theorem zx9:CT 246 (cA [nE,nE] [yA] (λx=>(λ(a0:Ax) (a1:Ax)=>jB a0 a1) x.1 x.2)):=eC 31 (rB GL zAt) func246 (jr [jq 1 4 5 30]) (u2 Ob) (by kernel_rfl) BR.ok
theorem znS:CT 141 (cA [VB,VB] [yA] (λx=>(λ(a0:Ak) (a1:Ak)=>jB a0 a1) x.1 x.2)):=eC 52 (rB GL zx9) func141 (jr [jq 1 4 5 51]) (u2 Oc) (by kernel_rfl) TP.ok
theorem zyu:CT 341 (cA [ND,ND] [yA] (λx=>(λ(a0:Aj) (a1:Aj)=>jB a0 a1) x.1 x.2)):=eC 71 (IA GL) func341 (jm [jk 0 [] [(4,5),(20,70)]] [jk 4 [qA 5 gA] [(4,4),(20,70)]] [jq 1 19 6 18,jq 6 70 27 69]) (u2 Od) (by kernel_rfl) LP.ok
theorem zyR:CT 245 (cA [LC,LC] [yA] (λx=>(λ(a0:Ah) (a1:Ah)=>jB a0 a1) x.1 x.2)):=eC 59 (xB GL znS zyu) func245 (jr [jq 1 4 5 58]) (u2 Oe) (by kernel_rfl) VP.ok
theorem zzo:CT 138 (cA [PD,PD] [yA] (λx=>(λ(a0:Ao) (a1:Ao)=>jB a0 a1) x.1 x.2)):=eC 39 (IA zyR) func138 (jm [jk 0 [] [(4,5),(20,38)]] [jk 4 [qA 5 gA] [(4,4),(20,38)]] [jq 1 19 6 18]) (u2 Of) (by kernel_rfl) qQ.ok
theorem zx1:CT 139 (cA [ZE,ZE] [yA] (λx=>(λ(a0:List Al) (a1:List Al)=>jB a0 a1) x.1 x.2)):=eC 26 pn func139 (jl [jk 0 [] [(4,5),(11,25)]] [jk 4 [qA 5 gA] [(4,4),(11,25)]]) (u2 Og) (by kernel_rfl) fP.ok
theorem c61:CT 61 (cA [IC,IC] [yA] (λx=>(λ(a0:Ac) (a1:Ac)=>jB a0 a1) x.1 x.2)):=eC 77 (xB GL zzo zx1) func61 (jm [jk 0 [] [(4,5),(58,76)]] [jk 4 [qA 5 gA] [(4,4),(58,76)]] [jq 1 57 6 56]) (u2 Oh) (by kernel_rfl) DP.ok
theorem c26:CT 26 (cA [eE,eE] [yA] (λx=>(λ(a0:List Ap) (a1:List Ap)=>jB a0 a1) x.1 x.2)):=eC 55 (IA GL) func26 (jm [jk 0 [] [(4,5),(11,54)]] [jk 4 [qA 5 gA] [(4,4),(11,54)]] [jq 6 54 17 53]) (u2 Oi) (by kernel_rfl) OP.ok
theorem c64:CT 64 (cA [bF,bF] [yA] (λx=>(λ(a0:Ad) (a1:Ad)=>jB a0 a1) x.1 x.2)):=eC 80 (IA BI) func64 (jr [jq 1 4 5 79]) (u2 Oj) (by kernel_rfl) iQ.ok
theorem c18:CT 18 (cA [wC,wC] [yA] (λx=>(λ(a0:List Ad) (a1:List Ad)=>jB a0 a1) x.1 x.2)):=eC 27 (IA c64) func18 (jl [jk 0 [] [(4,5),(11,26)]] [jk 4 [qA 5 gA] [(4,4),(11,26)]]) (u2 Ol) (by kernel_rfl) NP.ok
theorem zyG:CT 140 (cA [vB,vB] [yA] (λx=>(λ(a0:Aa) (a1:Aa)=>jB a0 a1) x.1 x.2)):=eC 80 (IA GL) func140 (jr [jq 1 4 5 79]) (u2 Om) (by kernel_rfl) PP.ok
theorem c63:CT 63 (cA [QB,QB] [yA] (λx=>(λ(a0:Ae) (a1:Ae)=>jB a0 a1) x.1 x.2)):=eC 73 (xB GL zyG znS) func63 (jr [jq 1 4 5 72]) (u2 Oo) (by kernel_rfl) tP.ok
theorem c17:CT 17 (cA [QC,QC] [yA] (λx=>(λ(a0:Ab) (a1:Ab)=>jB a0 a1) x.1 x.2)):=eC 111 (bD c18 c26 c61 GL c63) func17 (jm [jk 0 [] [(4,5),(73,91)],jk 2 [] [(4,4),(6,6),(92,110)]] [jk 4 [qA 5 gA] [(4,4),(73,91)],jk 9 [qA 6 gA] [(4,4),(92,110)]] [jq 1 72 7 71]) (u2 Oq) (by kernel_rfl) QP.ok
theorem c5:CT 5 (cA [kA] [yA] (λx=>some ((λ(a0:List UInt8)=>zmD a0) x))):=eD 82 (BK c6 cG c17 c18 c23 c24 c25 c26) func5 (jr [(10,⟨[qA 2 yA],[(36,81)],[1000005]⟩)]) Pl (by kernel_rfl) aQ.ok
end Go.D

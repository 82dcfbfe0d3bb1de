/-
 The functions of the program: each computes what is said of it.
-/
import Derived.Test.YtfealdecpglcnaaGreatR1
import Derived.Test.YtfealdecpglcnaaGreatProg
import Derived.KernelRfl
set_option linter.all false
namespace Go.D
open Go.Proofs
open Tryz
def tnT:TypeId→Option TN:=λt=>MC t [(3, .int),(5, .byte),(22, .bs),(48, .Frame),(59, .Client),(66, .Wire),(71, .Note),(77, .Sess),(102, .Cand),(137, .Event),(146, .Credit),(197, .Op),(230, .Out)]
theorem zkt:Tryz.prog.follows .mixedOrders=true:=by kernel_rfl
def TL:List (TypeId×TN):=[(3, .int),(5, .byte),(22, .bs),(48, .Frame),(59, .Client),(66, .Wire),(71, .Note),(77, .Sess),(102, .Cand),(137, .Event),(146, .Credit),(197, .Op),(230, .Out)]
theorem zmt:zdK prog TL=true:=by kernel_rfl
variable [zaq TL]
def a0:An:=⟨[],[],[],[],[]⟩
abbrev u2{A B R:Type}(f:A→B→R):A×B→R:=λx=>f x.1 x.2
abbrev u3{A B C R:Type}(f:A→B→C→R):A×B×C→R:=λx=>f x.1 x.2.1 x.2.2
abbrev u4{A B C D R:Type}(f:A→B→C→D→R):A×B×C×D→R:=λx=>f x.1 x.2.1 x.2.2.1 x.2.2.2
abbrev u5{A B C D E R:Type}(f:A→B→C→D→E→R):A×B×C×D×E→R:=λx=>f x.1 x.2.1 x.2.2.1 x.2.2.2.1 x.2.2.2.2
abbrev u6{A B C D E F R:Type}(f:A→B→C→D→E→F→R):A×B×C×D×E×F→R:=λx=>f x.1 x.2.1 x.2.2.1 x.2.2.2.1 x.2.2.2.2.1 x.2.2.2.2.2
abbrev u7{A B C D E F G R:Type}(f:A→B→C→D→E→F→G→R):A×B×C×D×E×F×G→R:=λx=>f x.1 x.2.1 x.2.2.1 x.2.2.2.1 x.2.2.2.2.1 x.2.2.2.2.2.1 x.2.2.2.2.2.2
abbrev u8{A B C D E F G H R:Type}(f:A→B→C→D→E→F→G→H→R):A×B×C×D×E×F×G×H→R:=λx=>f x.1 x.2.1 x.2.2.1 x.2.2.2.1 x.2.2.2.2.1 x.2.2.2.2.2.1 x.2.2.2.2.2.2.1 x.2.2.2.2.2.2.2
def Ph:List (Nat×dB)→Prop
 | []=>True
 | (g,ci) :: l=>vB prog g ci∧Ph l
theorem pn:Ph []:=trivial
theorem ph{n:Nat}:∀(l:List (Nat×dB)),(l.all λp=>Nat.blt p.1 1048576)=true→Ph l→jG ⟨prog,λt=>MC t TL,λf=>kG f l,n,ZL⟩
 | [],_,_=>zv1
 | (g,ci) :: l,h,k=>by
  simp only[List.all_cons,Bool.and_eq_true]at h;have hg:g % 1048576=g:=Nat.mod_eq_of_lt (by simpa[Nat.blt_eq]using h.1);exact zuc (by rw[hg];exact k.1) (ph l h.2 k.2)
def okB (n m : Nat) (l : List (Nat × dB)) (fn : Func) (ks : List kB) (ats : List Ty) : Bool := (l.all λp => Nat.blt p.1 1048576) && (fn.body.isSome && !(fn.name == "runtime.NumGoroutine") && Nat.beq n fn.ntmps && ZB ks ats && Nat.ble m fn.ntmps)
theorem eC{f:Nat}{fn:Func}{ks:List kB}{ats rts:List Ty}{F:gB ats→Option (gB rts)}{sh:List (Bool×Nat)}{own:List Nat}(n:Nat){l:List (Nat×dB)}
  (hp:Ph l) (hf:prog.funcs[f]?=some fn) (an:An) (Raw:gB ats→Option (gB rts))
  (he:(okB n ks.length l fn ks ats,λx=>zar ⟨prog,λt=>MC t TL,λf=>kG f l,n,ZL⟩ fn (fn.body.getD .skip) an ks own sh rts (cB ats x))=(true,Raw))
  (uW:∀{x},vA ats x→∀{r},F x=some r→Raw x=some r):vB prog f (jD ks ats rts F sh own false):=by
 obtain⟨h0,h1⟩:=Prod.mk.inj he;obtain⟨ha,hb⟩:=Bool.and_eq_true_iff.1 h0;exact evC n zkt zmt (ph l ha hp) hf an Raw hb (λx=>congrFun h1 x) λ_ _ hb h=>uW hb h
theorem eR{f:Nat}{fn:Func}{ks:List kB}{ats rts:List Ty}{F:gB ats→Option (gB rts)}{sh:List (Bool×Nat)}{own:List Nat}(n:Nat){l:List (Nat×dB)}
  (hp:Ph l) (hf:prog.funcs[f]?=some fn) (an:An)
  (he:(okB n ks.length l fn ks ats,λx=>zar ⟨prog,λt=>MC t TL,λf=>kG f l,n,ZL⟩ fn (fn.body.getD .skip) an ks own sh rts (cB ats x))=(true,F)):
  vB prog f (jD ks ats rts F sh own false):=eC n hp hf an F he λ_ _ h=>h
theorem eP{f:Nat}{fn:Func}{m:Nat}{ats rts:List Ty}{F:gB ats→Option (gB rts)}{sh:List (Bool×Nat)}(n:Nat){l:List (Nat×dB)}
  (hp:Ph l) (hf:prog.funcs[f]?=some fn) (an:An) (Raw:gB ats→Option (gB rts))
  (he:(okB n m l fn (YD m) ats,λx=>zdI ⟨prog,λt=>MC t TL,λf=>kG f l,n,ZL⟩ fn (fn.body.getD .skip) an (YD m) rts (cB ats x))=(true,Raw))
  (uW:∀{x},vA ats x→∀{r},F x=some r→Raw x=some r):vB prog f (jD (YD m) ats rts F sh [] true):=by
 obtain⟨h0,h1⟩:=Prod.mk.inj he;obtain⟨ha,hb⟩:=Bool.and_eq_true_iff.1 h0;exact evP n zkt zmt (ph l ha hp) hf an Raw hb (λx=>congrFun h1 x) λ_ _ hb h=>uW hb h
theorem eQ{f:Nat}{fn:Func}{m:Nat}{ats rts:List Ty}{F:gB ats→Option (gB rts)}{sh:List (Bool×Nat)}(n:Nat){l:List (Nat×dB)}
  (hp:Ph l) (hf:prog.funcs[f]?=some fn) (an:An)
  (he:(okB n m l fn (YD m) ats,λx=>zdI ⟨prog,λt=>MC t TL,λf=>kG f l,n,ZL⟩ fn (fn.body.getD .skip) an (YD m) rts (cB ats x))=(true,F)):
  vB prog f (jD (YD m) ats rts F sh [] true):=eP n hp hf an F he λ_ _ h=>h
theorem eD{f:Nat}{fn:Func}{ks:List kB}{ats rts:List Ty}{G:gB ats→gB rts}{sh:List (Bool×Nat)}{own:List Nat}(n:Nat){l:List (Nat×dB)}
  (hp:Ph l) (hf:prog.funcs[f]?=some fn) (an:An) (Raw:gB ats→Option (gB rts))
  (he:(okB n ks.length l fn ks ats,λx=>zar ⟨prog,λt=>MC t TL,λf=>kG f l,n,ZL⟩ fn (fn.body.getD .skip) an ks own sh rts (cB ats x))=(true,Raw))
  (uW:∀{x},vA ats x→Raw x=some (G x)):vB prog f (jD ks ats rts (λx=>some (G x)) sh own false):=eC n hp hf an Raw he λhb _ h=>(uW hb).trans h
abbrev lA:Ty:= .sl .byte
abbrev CA:Ty:= .v .bool
abbrev vE:Ty:= .cells .Cur
abbrev gA:Ty:= .v .int
abbrev sK:Ty:= .v .Dice
abbrev XE:Ty:= .sl .int
abbrev MO:Ty:= .v .Jar
abbrev ME:Ty:= .v .Tab
abbrev NE:Ty:= .v .Ep
abbrev qC:Ty:= .v .Chan
abbrev EB:Ty:= .v .Addr
abbrev yG:Ty:= .v .Win
abbrev EE:Ty:= .v .Paths
abbrev BD:Ty:= .v .Sess
abbrev zF:Ty:= .sl .Credit
abbrev PD:Ty:= .v .Server
abbrev gT:Ty:= .sl .bs
abbrev wC:Ty:= .v .Client
abbrev PG:Ty:= .v .Note
abbrev WD:Ty:= .v .World
abbrev IB:Ty:= .v .Frame
abbrev lF:Ty:= .sl .Wire
abbrev kD:Ty:= .sl .Note
abbrev oO:Ty:= .v .Timer
abbrev kI:Ty:= .sl .Frame
abbrev iV:Ty:= .v .Wire
abbrev dH:Ty:= .cells .World
abbrev wG:Ty:= .sl .Out
abbrev oV:Ty:= .v .Hash
abbrev zbN:Ty:= .cells .bs
def tnS:TN→Nat×List Nat
 | .Addr=>(2,[])
 | .Cand=>(4,[2])
 | .Chan=>(15,[1,3,6,8,11,14])
 | .Client=>(41,[1,5,8,9,11,12,15,16,18,20,23,25,28,31])
 | .Dice=>(2,[0])
 | .Ep=>(5,[1,4])
 | .Frame=>(11,[2,3,5,6,9,10])
 | .Hash=>(3,[0,1])
 | .Jar=>(1,[0])
 | .Note=>(12,[3,4,7,8])
 | .Paths=>(3,[2])
 | .Server=>(7,[0,1,2,5,6])
 | .Sess=>(24,[1,2,4,6,9,11,14,17,20])
 | .Tab=>(2,[1])
 | .Timer=>(4,[])
 | .Win=>(2,[1])
 | .Wire=>(5,[4])
 | .World=>(14,[1,2,3,4,7,8,9,11,12,13])
 | _=>(0,[])
def tyS:Ty→Bool×Nat
 | .v n=>match(tnS n).1 with
  | 0=>(false,1)
  | k=>(true,k)
 | _=>(false,1)
def tyO:Nat→List Ty→List Nat
 | _,[]=>[]
 | p, .v n :: l=>(tnS n).2.map (λi=>p+i)++tyO (p+(tyS (.v n)).2) l
 | p,_ :: l=>p :: tyO (p+1) l
abbrev CT(n:Nat)(c:dB):=vB prog n c
abbrev cA(a r:List Ty)(F:gB a→Option (gB r)):=jD (YD a.length) a r F (r.map tyS) (tyO 0 r) false
abbrev cN(a r:List Ty)(F:gB a→Option (gB r)):=jD (YD a.length) a r F (r.map tyS) [] false
abbrev cE(a r:List Ty)(F:gB a→Option (gB r))(o:List Nat):=jD (YD a.length) a r F (r.map tyS) o false
abbrev sA:=dC.slot
abbrev pA:=dC.box
abbrev wA:=dC.own
def jj(a:List dC)(b:List (Nat×Nat)):JI:=⟨a,b,[]⟩
def jk(n:Nat)(a:List dC)(b:List (Nat×Nat)):Nat×JI:=(n,⟨a,b,[]⟩)
def jq(n s a b:Nat):Nat×JI:=(n,⟨[.slot s (.v .bool)],[(a,b)],[]⟩)
def jr(r:List (Nat×JI)):An:=⟨[],[],[],r,[]⟩
def jl(b l:List (Nat×JI)):An:=⟨[],b,l,[],[]⟩
def jc(c:List (Nat×JI)):An:=⟨c,[],[],[],[]⟩
def jm(b l r:List (Nat×JI)):An:=⟨[],b,l,r,[]⟩
def jn(c r:List (Nat×JI)):An:=⟨c,[],[],r,[]⟩
theorem SA{g0:Nat}{k0:dB}(h0:vB prog g0 k0):Ph [(g0,k0)]:=⟨h0,trivial⟩
theorem LB{g0:Nat}{k0:dB}{g1:Nat}{k1:dB}(h0:vB prog g0 k0)(h1:vB prog g1 k1):Ph [(g0,k0),(g1,k1)]:=⟨h0,h1,trivial⟩
theorem RB{g0:Nat}{k0:dB}{g1:Nat}{k1:dB}{g2:Nat}{k2:dB}(h0:vB prog g0 k0)(h1:vB prog g1 k1)(h2:vB prog g2 k2):Ph [(g0,k0),(g1,k1),(g2,k2)]:=⟨h0,h1,h2,trivial⟩
theorem FC{g0:Nat}{k0:dB}{g1:Nat}{k1:dB}{g2:Nat}{k2:dB}{g3:Nat}{k3:dB}(h0:vB prog g0 k0)(h1:vB prog g1 k1)(h2:vB prog g2 k2)(h3:vB prog g3 k3):Ph [(g0,k0),(g1,k1),(g2,k2),(g3,k3)]:=⟨h0,h1,h2,h3,trivial⟩
theorem IE{g0:Nat}{k0:dB}{g1:Nat}{k1:dB}{g2:Nat}{k2:dB}{g3:Nat}{k3:dB}{g4:Nat}{k4:dB}(h0:vB prog g0 k0)(h1:vB prog g1 k1)(h2:vB prog g2 k2)(h3:vB prog g3 k3)(h4:vB prog g4 k4):Ph [(g0,k0),(g1,k1),(g2,k2),(g3,k3),(g4,k4)]:=⟨h0,h1,h2,h3,h4,trivial⟩
theorem UE{g0:Nat}{k0:dB}{g1:Nat}{k1:dB}{g2:Nat}{k2:dB}{g3:Nat}{k3:dB}{g4:Nat}{k4:dB}{g5:Nat}{k5:dB}(h0:vB prog g0 k0)(h1:vB prog g1 k1)(h2:vB prog g2 k2)(h3:vB prog g3 k3)(h4:vB prog g4 k4)(h5:vB prog g5 k5):Ph [(g0,k0),(g1,k1),(g2,k2),(g3,k3),(g4,k4),(g5,k5)]:=⟨h0,h1,h2,h3,h4,h5,trivial⟩
theorem ZH{g0:Nat}{k0:dB}{g1:Nat}{k1:dB}{g2:Nat}{k2:dB}{g3:Nat}{k3:dB}{g4:Nat}{k4:dB}{g5:Nat}{k5:dB}{g6:Nat}{k6:dB}(h0:vB prog g0 k0)(h1:vB prog g1 k1)(h2:vB prog g2 k2)(h3:vB prog g3 k3)(h4:vB prog g4 k4)(h5:vB prog g5 k5)(h6:vB prog g6 k6):Ph [(g0,k0),(g1,k1),(g2,k2),(g3,k3),(g4,k4),(g5,k5),(g6,k6)]:=⟨h0,h1,h2,h3,h4,h5,h6,trivial⟩
theorem rP{g0:Nat}{k0:dB}{g1:Nat}{k1:dB}{g2:Nat}{k2:dB}{g3:Nat}{k3:dB}{g4:Nat}{k4:dB}{g5:Nat}{k5:dB}{g6:Nat}{k6:dB}{g7:Nat}{k7:dB}(h0:vB prog g0 k0)(h1:vB prog g1 k1)(h2:vB prog g2 k2)(h3:vB prog g3 k3)(h4:vB prog g4 k4)(h5:vB prog g5 k5)(h6:vB prog g6 k6)(h7:vB prog g7 k7):Ph [(g0,k0),(g1,k1),(g2,k2),(g3,k3),(g4,k4),(g5,k5),(g6,k6),(g7,k7)]:=⟨h0,h1,h2,h3,h4,h5,h6,h7,trivial⟩
theorem nG{g0:Nat}{k0:dB}{g1:Nat}{k1:dB}{g2:Nat}{k2:dB}{g3:Nat}{k3:dB}{g4:Nat}{k4:dB}{g5:Nat}{k5:dB}{g6:Nat}{k6:dB}{g7:Nat}{k7:dB}{l:List (Nat×dB)}(h0:vB prog g0 k0)(h1:vB prog g1 k1)(h2:vB prog g2 k2)(h3:vB prog g3 k3)(h4:vB prog g4 k4)(h5:vB prog g5 k5)(h6:vB prog g6 k6)(h7:vB prog g7 k7)(h:Ph l):Ph ((g0,k0) :: (g1,k1) :: (g2,k2) :: (g3,k3) :: (g4,k4) :: (g5,k5) :: (g6,k6) :: (g7,k7) :: l):=⟨h0,h1,h2,h3,h4,h5,h6,h7,h⟩
theorem c5:CT 5 (cA [lA] [CA] (λx=>some (KT x))):=eD 6 pn func5 a0 Ql (by kernel_rfl) zcF.ok
theorem c28:CT 28 (jD (YD 1) [lA] [vE] Jh [(false,1)] [] true):=eQ 32 pn func28 (jm [jk 0 [sA 3 gA] [(4,4),(8,27)]] [jk 3 [sA 3 gA,sA 4 gA] [(8,27)]] [jq 3 15 8 14]) (by kernel_rfl)
theorem c82:CT 82 (jD [.ptr []] [vE] [gA,vE] Eo [(false,1)] [] false):=eR 58 pn func82 (jc [jk 2228229 [sA 3 gA,pA 0 .Cur []] [(35,56)]]) (by kernel_rfl)
theorem zeb:CT 122 (jD [.ptr [], .plain] [vE,gA] [lA,vE] (u2 Bt) [(false,1)] [0] false):=eR 20 (SA c82) func122 (jl [jk 0 [wA 5 .byte,pA 0 .Cur []] [(6,6),(8,18)]] [jk 3 [wA 5 .byte,sA 6 gA,pA 0 .Cur []] [(8,18)]]) (by kernel_rfl)
theorem PK:CT 30 (jD [.ptr [], .plain] [vE,gA] [gA,vE] (u2 Az) [(false,1)] [] false):=eR 31 (SA c82) func30 a0 (by kernel_rfl)
theorem zd4:CT 132 (cA [sK] [sK] (λx=>mK x)):=eC 10 pn func132 a0 Nt (by kernel_rfl) vU.ok
theorem tB:CT 96 (cA [gA,gA,gA] [CA] (λx=>some (eA x.1 x.2.1 x.2.2))):=eD 15 pn func96 (jr [jq 1 6 7 14]) (u3 Oo) (by kernel_rfl) zcp.ok
theorem zd6:CT 136 (cA [sK] [CA] (λx=>some (YB x))):=eD 12 (SA tB) func136 (jr [jq 1 2 3 11]) Pq (by kernel_rfl) zbn.ok
theorem IJ:CT 253 (cA [lA,gA,gA] [lA] (λx=>JB x.1 x.2.1 x.2.2)):=eC 35 pn func253 (jm [jk 0 [wA 7 .byte] [(8,8),(21,33)]] [jk 5 [wA 7 .byte,sA 8 gA] [(21,33)]] [jq 2 17 12 16]) (u3 Qi) (by kernel_rfl) zb7.ok
theorem zyx:CT 405 (cA [gA] [lA] (λx=>nN x)):=eC 27 (SA IJ) func405 (jm [jk 0 [wA 3 .byte] [(12,21)]] [jk 4 [wA 3 .byte] [(12,21)]] [jq 1 9 4 8]) Mc (by kernel_rfl) PS.ok
theorem zxY:CT 406 (cA [] [XE] (λ_=>some (yE))):=eD 2 pn func406 a0 (λ_=>Qj) (by kernel_rfl) zb0.ok
theorem zxN:CT 428 (cA [XE] [CA] (λx=>some (zds x))):=eD 19 (SA tB) func428 (jl [jk 0 [] [(2,15)]] [jk 2 [sA 3 gA] [(2,2),(4,15)]]) Md (by kernel_rfl) EQ.ok
theorem zyV:CT 429 (cA [] [XE] (λ_=>some (II))):=eD 2 pn func429 a0 (λ_=>Qk) (by kernel_rfl) zcJ.ok
theorem zmV:CT 336 (cA [lA,gA,gA] [gA,gA,CA] (λx=>mH x.1 x.2.1 x.2.2)):=eC 48 pn func336 (jm [jk 0 [sA 9 gA] [(10,10),(29,43)]] [jk 5 [sA 9 gA,sA 10 gA] [(29,43)]] [jq 1 28 11 27]) (u3 Me) (by kernel_rfl) rS.ok
theorem znm:CT 431 (cA [gA,gA] [gA] (λx=>jE x.1 x.2)):=eC 24 pn func431 (jr [jq 2 13 8 12]) (u2 Mf) (by kernel_rfl) VS.ok
theorem zy8:CT 430 (cA [lA] [XE] (λx=>yM x)):=eC 84 (LB zmV znm) func430 (jl [jk 0 [wA 3 .int] [(4,7),(18,33)],jk 2 [wA 3 .int] [(8,12),(34,82)]] [jk 5 [wA 3 .int,sA 4 gA] [(5,7),(18,33)],jk 10 [wA 3 .int,sA 8 gA] [(9,12),(34,82)]]) Mg (by kernel_rfl) VP.ok
theorem zyS:CT 407 (cA [XE,lA] [XE] (λx=>vL x.1 x.2)):=eC 156 (FC zxN zyV zy8 znm) func407 (jm [jk 0 [sA 8 gA,sA 9 gA,sA 10 gA,sA 11 gA,sA 12 gA,sA 13 gA,sA 14 gA,sA 15 gA] [(16,18),(60,128)],jk 2 [wA 5 .int] [(20,20),(138,154)]] [jk 8 [sA 8 gA,sA 9 gA,sA 10 gA,sA 11 gA,sA 12 gA,sA 13 gA,sA 14 gA,sA 15 gA,sA 16 gA] [(17,18),(60,128)],jk 22 [sA 20 gA,wA 5 .int] [(138,154)]] [jq 2 31 24 30]) (u2 Mh) (by kernel_rfl) aQ.ok
theorem zzb:CT 408 (cA [XE] [lA] (λx=>mL x)):=eC 17 (SA IJ) func408 (jl [jk 0 [wA 3 .byte] [(4,4),(6,15)]] [jk 3 [wA 3 .byte,sA 4 gA] [(6,15)]]) Mi (by kernel_rfl) XR.ok
theorem znj:CT 349 (cA [lA] [lA] (λx=>some (DE x))):=eD 33 (FC zyx zxY zyS zzb) func349 (jl [(0,⟨[wA 4 .int],[(5,5),(18,30)],[3]⟩)] [jk 6 [wA 4 .int,sA 5 gA] [(18,30)]]) Mj (by kernel_rfl) TS.ok
theorem zzG:CT 348 (cA [lA] [lA] (λx=>some (bE x))):=eD 23 (SA znj) func348 ⟨[jk 851974 [wA 3 .byte] [(14,15)]],[jk 0 [wA 3 .byte] [(16,21)]],[jk 6 [wA 3 .byte] [(16,21)]],[],[]⟩ Mk (by kernel_rfl) fQ.ok
theorem IT:CT 260 (cA [lA,lA] [lA] (λx=>some (TC x.1 x.2))):=eD 49 (LB zzG znj) func260 (jm [jk 0 [wA 6 .byte,wA 7 .byte] [(8,8),(22,41)]] [jk 7 [wA 6 .byte,wA 7 .byte,sA 8 gA] [(22,41)]] [jq 1 16 9 15]) (u2 Ml) (by kernel_rfl) ES.ok
theorem zni:CT 249 (cA [lA,gA] [lA] (λx=>some (HE x.1 x.2))):=eD 24 (RB tB IJ IT) func249 (jr [jq 1 13 5 12]) (u2 Mm) (by kernel_rfl) yR.ok
theorem zd5:CT 155 (cA [sK] [sK,lA] (λx=>VD x)):=eC 27 (RB zd4 zd6 zni) func155 (jr [jq 2 14 7 13]) Nu (by kernel_rfl) UU.ok
theorem zzT:CT 350 (cA [lA,lA,gA] [lA,CA] (λx=>some (jH x.1 x.2.1 x.2.2))):=eD 52 (LB tB IT) func350 (jm [jk 0 [wA 8 .byte,wA 9 .byte] [(10,10),(27,46)]] [jk 6 [wA 8 .byte,wA 9 .byte,sA 10 gA] [(27,46)]] [jq 1 23 11 22]) (u3 Mo) (by kernel_rfl) HR.ok
theorem dP:CT 262 (cA [lA, .v .str] [lA] (λx=>LE x.1 x.2)):=eC 15 (SA zzT) func262 a0 (u2 Nv) (by kernel_rfl) HU.ok
theorem zm5:CT 264 (cA [lA] [MO] (λx=>some (TH x))):=eD 10 (SA dP) func264 a0 Nw (by kernel_rfl) LU.ok
theorem zmD:CT 265 (cA [gA] [ME] (λx=>some (OE x))):=eD 9 (SA tB) func265 a0 Nx (by kernel_rfl) CU.ok
theorem zhl:CT 220 (cA [MO] [CA] (λx=>some (gF x))):=eD 7 pn func220 a0 Pr (by kernel_rfl) zbL.ok
theorem znG:CT 318 (cA [ME] [gA] (λx=>CJ x)):=eC 22 pn func318 ⟨[jk 1179655 [sA 3 gA] [(19,20)]],[jk 0 [sA 3 gA] [(4,20)]],[jk 3 [sA 3 gA,sA 4 gA] [(5,20)]],[],[]⟩ Ps (by kernel_rfl) zb6.ok
theorem zne:CT 319 (cA [NE] [CA] (λx=>some (UF x))):=eD 30 pn func319 (jr [jq 1 2 3 29]) Ju (by kernel_rfl) IQ.ok
theorem zmZ:CT 225 (cA [qC] [CA] (λx=>some (oC x))):=eD 38 (SA zne) func225 (jr [jq 1 2 3 37]) Kp (by kernel_rfl) NP.ok
theorem c97:CT 97 (cA [gA] [EB] (λx=>some (vC x))):=eD 12 (SA tB) func97 a0 Pe (by kernel_rfl) zce.ok
theorem zmM:CT 422 (cA [yG,gA] [CA] (λx=>VF x.1 x.2)):=eC 19 pn func422 a0 (u2 Ov) (by kernel_rfl) zbY.ok
theorem zm1:CT 388 (cA [yG] [CA] (λx=>some (IC x))):=eD 46 (LB tB zmM) func388 (jm [jk 0 [] [(2,3),(15,25)],jk 2 [] [(2,2),(4,4),(39,45)]] [jk 4 [sA 3 gA] [(2,2),(15,25)],jk 11 [sA 4 gA] [(2,2),(39,45)]] [jq 1 14 5 13,jq 8 35 26 34]) Jt (by kernel_rfl) ZR.ok
theorem zhj:CT 320 (cA [NE] [CA] (λx=>some (cC x))):=eD 22 (LB tB zm1) func320 (jr [jq 1 2 3 21]) Ow (by kernel_rfl) zb4.ok
theorem KI:CT 226 (cA [qC] [CA] (λx=>lC x)):=eC 74 (RB tB zne zhj) func226 (jn [jk 1376261 [] [(2,3),(22,54)],jk 1572871 [sA 3 gA] []] [jq 1 19 4 18,jq 7 45 25 44,jq 9 54 46 53,jq 13 2 59 73]) Jv (by kernel_rfl) gR.ok
theorem RK:CT 98 (cA [lA,lA] [CA] (λx=>uB x.1 x.2)):=eC 10 pn func98 a0 (u2 Ot) (by kernel_rfl) zbu.ok
theorem GG:CT 44 (cA [EB] [CA] (λx=>some (EA x))):=eD 11 (SA tB) func44 (jr [jq 1 2 3 10]) Pb (by kernel_rfl) zbg.ok
theorem c99:CT 99 (cA [EE] [CA] (λx=>some (VB x))):=eD 65 (LB GG tB) func99 (jm [jk 0 [] [(2,5),(16,64)],jk 2 [] [(2,2),(5,5),(51,64)]] [jk 4 [sA 3 gA] [(2,2),(4,5),(16,64)],jk 10 [sA 5 gA] [(2,2),(51,64)]] [jq 1 15 6 14,jq 7 50 28 49]) Kq (by kernel_rfl) LQ.ok
theorem mP:CT 306 (cA [BD] [CA] (λx=>ED x)):=eC 77 (UE tB c97 RK c99 zmZ KI) func306 (jr [jq 1 30 3 29,jq 4 2 33 54,jq 5 2 55 76]) Kr (by kernel_rfl) mR.ok
theorem tP:CT 46 (cA [ME,lA] [gA] (λx=>CC x.1 x.2)):=eC 22 (SA RK) func46 (jl [jk 0 [] [(4,21)]] [jk 2 [sA 5 gA] [(4,4),(6,21)]]) (u2 Pt) (by kernel_rfl) zbt.ok
theorem zhr:CT 221 (cA [ME] [CA] (λx=>AG x)):=eC 47 (FC tP tB mP znG) func221 (jm [jk 0 [] [(2,3),(21,46)]] [jk 4 [sA 3 gA] [(2,2),(21,46)]] [jq 1 20 4 19,jq 6 46 28 45]) Ks (by kernel_rfl) RR.ok
theorem zay:CT 101 (cA [zF] [CA] (λx=>some (pC x))):=eD 61 (LB GG tB) func101 (jm [jk 0 [] [(2,4),(8,60)],jk 2 [] [(2,2),(4,4),(45,60)]] [jk 4 [sA 3 gA] [(2,2),(4,4),(8,60)],jk 9 [sA 4 gA] [(2,2),(45,60)]] [jq 6 44 14 43]) Kt (by kernel_rfl) OP.ok
theorem BT:CT 222 (cA [lA] [CA] (λx=>some (JC x))):=eD 6 (SA tB) func222 a0 Pu (by kernel_rfl) zbT.ok
theorem pN:CT 135 (cA [PD] [CA] (λx=>xC x)):=eC 67 (UE tB zay zd6 zhl zhr BT) func135 (jm [jk 0 [] [(2,3),(34,47)],jk 2 [] [(2,2),(4,4),(48,66)]] [jk 4 [sA 3 gA] [(2,2),(34,47)],jk 9 [sA 4 gA] [(2,2),(48,66)]] [jq 1 33 5 32]) Pv (by kernel_rfl) zaX.ok
theorem zys:CT 246 (cA [gT,lA,gA] [PD] (λx=>zbJ x.1 x.2.1 x.2.2)):=eC 45 (FC pN zd5 zm5 zmD) func246 (jl [jk 0 [pA 9 .Server [0,1,2,5,6]] [(10,10),(23,39)]] [jk 4 [sA 10 gA,pA 9 .Server [0,1,2,5,6]] [(23,39)]]) (u3 Ny) (by kernel_rfl) XT.ok
theorem zyv:CT 247 (cA [lA] [lA] (λx=>zcT x)):=eC 15 pn func247 (jc [jk 589828 [wA 3 .byte] [(10,11)]]) Nz (by kernel_rfl) wU.ok
theorem znr:CT 248 (cA [gA,lA,EB] [wC] (λx=>fK x.1 x.2.1 x.2.2)):=eC 27 (RB GG tB BT) func248 (jr [jq 1 19 7 18]) (u3 Oa) (by kernel_rfl) bU.ok
theorem zea:CT 157 (cA [lA] [PG] (λx=>OD x)):=eC 7 pn func157 a0 Ob (by kernel_rfl) ZT.ok
theorem zyb:CT 151 (cA [lA,lA,lA,gA] [WD] (λx=>zfF x.1 x.2.1 x.2.2.1 x.2.2.2)):=eC 46 (ZH c97 pN zea zys zyv znr zni) func151 a0 (u4 Oc) (by kernel_rfl) jU.ok
theorem c78:CT 78 (jD [.ptr []] [vE] [WD,vE] Iw [(true,14)] [1,2,3,4,7,8,9,11,12,13] false):=eR 13 (RB PK zeb zyb) func78 a0 (by kernel_rfl)
theorem c60:CT 60 (jD [.ptr [], .plain] [vE,gA] [CA,vE] (u2 Dc) [(false,1)] [] false):=eR 9 (SA PK) func60 a0 (by kernel_rfl)
theorem c62:CT 62 (jD [.ptr [], .plain] [vE,XE] [gA,vE] (u2 Db) [(false,1)] [] false):=eR 12 (SA PK) func62 a0 (by kernel_rfl)
theorem zyj:CT 250 (jD [.ptr []] [vE] [.v .Op,vE] Ji [(true,4)] [3] false):=eR 25 (RB PK c62 zeb) func250 (jc [jk 655364 [pA 0 .Cur [],pA 3 .Op [3]] [(11,16)]]) (by kernel_rfl)
theorem zm6:CT 251 (cA [gA] [gA] Dt):=eR 9 pn func251 a0 (by kernel_rfl)
theorem zzQ:CT 152 (jD [.ptr [], .plain] [vE,gA] [.sl .Op,vE] (u2 Ix) [(false,1)] [0] false):=eR 53 (RB PK zyj zm6) func152 (jm [jk 0 [wA 5 .Op,sA 6 gA,pA 0 .Cur []] [(7,9),(15,43)],jk 2 [pA 0 .Cur [],pA 8 .Op [3]] [(9,9),(21,33)],jk 4 [wA 5 .Op] [(6,6),(44,51)]] [jk 4 [wA 5 .Op,sA 6 gA,sA 7 gA,pA 0 .Cur []] [(8,9),(15,43)],jk 8 [sA 9 gA,pA 0 .Cur [],pA 8 .Op [3]] [(21,33)],jk 13 [wA 5 .Op,sA 6 gA] [(44,51)]] [jq 8 29 21 28]) (by kernel_rfl)
theorem zzm:CT 153 (jD [.ptr []] [vE] [gA,lA,vE] Iy [(false,1),(false,1)] [1] false):=eR 25 (RB PK c62 zeb) func153 a0 (by kernel_rfl)
theorem zeg:CT 346 (cA [gA,lA,gA,gA] [lA] (u4 Cm)):=eR 37 (LB tB IJ) func346 (jr [jq 1 26 9 25]) (by kernel_rfl)
theorem fP:CT 321 (cA [gA] [CA] (λx=>some (nB x))):=eD 5 (SA tB) func321 a0 Py (by kernel_rfl) zbz.ok
theorem zhm:CT 322 (cA [gA,gA] [CA] (λx=>some (tE x.1 x.2))):=eD 19 pn func322 (jr [jq 3 14 9 13]) (u2 No) (by kernel_rfl) zU.ok
theorem zyz:CT 409 (cA [lA,lA,gA] [lA] (u3 Gv)):=eR 23 (RB tB IJ IT) func409 (jr [jq 1 14 7 13]) (by kernel_rfl)
theorem zxT:CT 351 (cA [lA,lA,gA] [lA] (u3 Er)):=eR 41 (LB tB zyz) func351 (jm [jk 0 [wA 7 .byte] [(8,8),(24,35)]] [jk 5 [wA 7 .byte,sA 8 gA] [(24,35)]] [jq 1 21 9 20]) (by kernel_rfl)
theorem zhy:CT 263 (cA [lA,lA,lA] [lA] (u3 Es)):=eR 49 (SA zxT) func263 (jm [jk 0 [wA 7 .byte] [(9,9),(30,47)]] [jk 6 [wA 7 .byte,sA 9 gA] [(30,47)]] [jq 2 23 11 22]) (by kernel_rfl)
theorem WL:CT 227 (cA [IB] [CA] (λx=>some (TA x))):=eD 174 (RB tB fP zhm) func227 (jr [jq 2 2 6 61,jq 3 87 62 86,jq 7 2 92 117,jq 9 2 120 145,jq 11 2 148 173]) Kw (by kernel_rfl) UQ.ok
theorem nP:CT 254 (cA [gA,IB] [lA] (u2 Ce)):=eR 40 (FC tB WL fP zeg) func254 (jr [jq 1 19 6 18]) (by kernel_rfl)
theorem zaA:CT 261 (cA [lA,lA] [lA] (u2 Dd)):=eR 17 (SA IT) func261 a0 (by kernel_rfl)
theorem znx:CT 252 (cA [lA,gA,lA,gA,gA,gA,lA] [IB,CA] (u7 Fl)):=eR 72 (UE nP zaA zhy fP zhm zeg) func252 (jm [jk 0 [pA 17 .Frame [2,3,5,6,9,10]] [(18,18),(56,64)]] [jk 6 [sA 18 gA,pA 17 .Frame [2,3,5,6,9,10]] [(56,64)]] [jq 2 43 24 42]) (by kernel_rfl)
theorem zyF:CT 154 (cA [lA,gA,gA,lA,gA,gA,gA,lA] [.sl .Op] (u8 Iz)):=eR 65 (FC tB znx IJ nP) func154 (jr [jq 2 37 31 36]) (by kernel_rfl)
theorem c79:CT 79 (jD [.ptr [], .plain, .ptr [], .plain] [vE,WD, .cells .int,CA] [.v .Event,vE, .cells .int] (u4 Ja) [(true,6)] [4] false):=eR 239 (ZH PK c60 c62 zeb zzQ zzm zyF) func79 (jn [jk 5111823 [pA 0 .Cur [],pA 9 .Event [4,5]] [(79,86)],jq 6225941 95 97 97,jk 6225942 [pA 9 .Event [4],pA 0 .Cur []] [(10,15),(98,204)],jk 6881305 [pA 0 .Cur [],pA 9 .Event [4]] [(10,14),(106,155)],jk 8060956 [sA 11 lA] [(124,129)],(10027040,⟨[pA 9 .Event [4]],[(154,155)],[14]⟩),jk 10223650 [pA 9 .Event [4,5],pA 0 .Cur []] [(15,15),(158,204)],jk 10420260 [pA 9 .Event [4,5],pA 0 .Cur []] [(15,15),(161,204)],jk 10616870 [pA 9 .Event [4,5],pA 0 .Cur []] [(15,15),(164,204)],jk 11010089 [pA 9 .Event [4,5],pA 0 .Cur []] [(15,15),(170,204)],jk 11206699 [pA 9 .Event [4,5],pA 0 .Cur []] [(15,15),(173,204)],jk 11599918 [pA 0 .Cur [],pA 9 .Event [4,5]] [(15,15),(179,204)],jk 11796527 [pA 9 .Event [4,5],pA 0 .Cur []] [(181,184)],jk 12124210 [pA 9 .Event [4,5],pA 0 .Cur []] [(15,15),(187,204)],jq 13434934 205 207 208,jq 13434935 205 208 208,jk 13434936 [pA 9 .Event [4],pA 0 .Cur [],pA 8 .Event [4,5]] [(10,15),(64,204),(209,237)],jq 14090299 215 217 217,jk 14090300 [pA 9 .Event [4],pA 0 .Cur [],pA 8 .Event [4,5]] [(10,15),(64,204),(218,237)],jq 14876736 227 229 229,jk 14876737 [pA 9 .Event [4],pA 0 .Cur [],pA 8 .Event [4,5]] [(10,15),(64,204),(230,237)],jk 15138883 [pA 9 .Event [4],pA 0 .Cur [],pA 8 .Event [4,5]] [(10,15),(64,204),(233,237)],jq 15335493 234 236 236,jk 15335494 [pA 9 .Event [4],pA 0 .Cur [],pA 8 .Event [4,5]] [(10,15),(64,204),(237,237)]] [jk 2 [sA 34 CA,pA 0 .Cur []] [(23,33)],jk 7 [sA 59 CA,pA 0 .Cur []] [(47,58)],jk 13 [sA 78 CA,pA 0 .Cur []] [(71,77)],jk 26 [sA 123 CA,pA 0 .Cur []] [(117,122)]]) (by kernel_rfl)
theorem znH:CT 387 (cA [yG] [yG] (λx=>(λ(a0:Ap)=>kA a0) x)):=eC 10 pn func387 a0 Mp (by kernel_rfl) wR.ok
theorem zei:CT 316 (cA [NE] [NE] (λx=>(λ(a0:Av)=>kA a0) x)):=eC 15 (SA znH) func316 a0 Mq (by kernel_rfl) vR.ok
theorem zzY:CT 317 (cA [NE,CA] [NE] (λx=>zdp x.1 x.2)):=eC 27 (SA zei) func317 a0 (u2 Mr) (by kernel_rfl) QR.ok
theorem MK:CT 219 (cA [qC] [qC] (λx=>(λ(a0:Aj)=>kA a0) x)):=eC 26 (LB zei zzY) func219 a0 Ms (by kernel_rfl) dR.ok
theorem zee:CT 100 (cA [.v .Cand] [.v .Cand] (λx=>GH x)):=eC 12 pn func100 a0 Qa (by kernel_rfl) zbb.ok
theorem zd0:CT 382 (cA [EE] [EE] (λx=>(λ(a0:Ai)=>kA a0) x)):=eC 27 (SA zee) func382 (jl [jk 0 [pA 3 .Paths [2]] [(4,4),(8,25)]] [jk 3 [sA 4 gA,pA 3 .Paths [2]] [(8,25)]]) Mt (by kernel_rfl) RQ.ok
theorem bP:CT 307 (cA [BD] [BD] (λx=>(λ(a0:Ah)=>kA a0) x)):=eC 24 (LB MK zd0) func307 a0 Mu (by kernel_rfl) SQ.ok
theorem zhE:CT 216 (cA [ME] [ME] (λx=>(λ(a0:Ao)=>kA a0) x)):=eC 27 (SA bP) func216 (jl [jk 0 [pA 3 .Tab [1]] [(4,4),(8,25)]] [jk 3 [sA 4 gA,pA 3 .Tab [1]] [(8,25)]]) Mw (by kernel_rfl) uQ.ok
theorem AT:CT 131 (cA [PD] [PD] (λx=>(λ(a0:Ac)=>kA a0) x)):=eC 42 (LB zd4 zhE) func131 (jl [jk 0 [pA 3 .Server [0,1,2,5,6]] [(4,4),(22,40)]] [jk 3 [sA 4 gA,pA 3 .Server [0,1,2,5,6]] [(22,40)]]) Mx (by kernel_rfl) MQ.ok
theorem c71:CT 71 (cA [lF] [lF] (λx=>(λ(a0:List Al)=>kA a0) x)):=eC 34 pn func71 (jl [jk 0 [wA 3 .Wire] [(4,4),(6,32)]] [jk 3 [wA 3 .Wire,sA 4 gA] [(6,32)]]) My (by kernel_rfl) wQ.ok
theorem zxz:CT 217 (cA [PG] [PG] (λx=>(λ(a0:Ad)=>kA a0) x)):=eC 24 pn func217 a0 Mz (by kernel_rfl) cR.ok
theorem zzE:CT 133 (cA [kD] [kD] (λx=>(λ(a0:List Ad)=>kA a0) x)):=eC 21 (SA zxz) func133 (jl [jk 0 [wA 3 .Note] [(4,4),(6,19)]] [jk 3 [wA 3 .Note,sA 4 gA] [(6,19)]]) Na (by kernel_rfl) MR.ok
theorem zeh:CT 218 (cA [IB] [IB] (λx=>(λ(a0:Ab)=>kA a0) x)):=eC 34 pn func218 a0 Nb (by kernel_rfl) AR.ok
theorem sN:CT 134 (cA [wC] [wC] (λx=>(λ(a0:Ae)=>kA a0) x)):=eC 24 (LB zeh MK) func134 a0 Nc (by kernel_rfl) CQ.ok
theorem c67:CT 67 (cA [WD] [WD] (λx=>(λ(a0:Aa)=>kA a0) x)):=eC 59 (IE c71 AT zd4 zzE sN) func67 (jl [jk 0 [pA 3 .World [1,2,3,4,7,8,9,11,12,13]] [(4,4),(21,38)],jk 2 [pA 3 .World [1,2,3,4,7,8,9,11,12,13]] [(5,5),(39,57)]] [jk 3 [sA 4 gA,pA 3 .World [1,2,3,4,7,8,9,11,12,13]] [(21,38)],jk 7 [sA 5 gA,pA 3 .World [1,2,3,4,7,8,9,11,12,13]] [(39,57)]]) Nd (by kernel_rfl) KQ.ok
theorem c80:CT 80 (cA [.v .Event] [CA] (λx=>some (xG x))):=eD 33 (SA tB) func80 (jr [jq 1 2 3 32]) Oq (by kernel_rfl) za8.ok
theorem zmF:CT 223 (cA [oO] [CA] (λx=>some (mD x))):=eD 37 (SA tB) func223 (jr [jq 3 2 9 36]) Ku (by kernel_rfl) oQ.ok
theorem zyw:CT 224 (cA [IB] [CA] (λx=>some (HF x))):=eD 62 pn func224 (jr [jq 1 2 3 61]) Kv (by kernel_rfl) zP.ok
theorem oN:CT 138 (cA [wC] [CA] (λx=>qD x)):=eC 204 (nG GG tB RK BT zmF zyw zmZ KI (SA WL)) func138 (jr [jq 1 36 3 35,jq 4 2 40 70,jq 8 2 78 108,jq 9 122 109 121,jq 12 2 126 133,jq 13 2 134 203]) Kx (by kernel_rfl) kQ.ok
theorem zed:CT 236 (cA [gA] [oO] Bi):=eR 10 (SA tB) func236 a0 (by kernel_rfl)
theorem znq:CT 234 (cA [wC] [IB] Fm):=eR 10 pn func234 a0 (by kernel_rfl)
theorem zzN:CT 156 (cA [wC,gA,lA] [wC,kI,kD,gA] (u3 Gw)):=eR 57 (IE tB sN oN znq zed) func156 (jr [jq 2 26 14 25]) (by kernel_rfl)
theorem c45:CT 45 (cA [] [EB] (λ_=>some (SB))):=eD 2 (SA c97) func45 a0 (λ_=>Pf) (by kernel_rfl) zcD.ok
theorem zhs:CT 313 (cA [IB] [lA] Bm):=eR 91 (LB WL IJ) func313 ⟨[jk 2097161 [wA 3 .byte] [(4,4),(15,31),(34,89)],jk 3276815 [wA 3 .byte] [(15,31),(52,89)],jk 4325394 [wA 3 .byte] [(15,31),(68,89)]],[jk 1 [wA 3 .byte] [(4,4),(43,49)]],[jk 10 [wA 3 .byte,sA 4 gA] [(43,49)]],[],[]⟩ (by kernel_rfl)
theorem zm2:CT 210 (cA [EB,EB,IB] [iV] (u3 Fn)):=eR 12 (SA zhs) func210 a0 (by kernel_rfl)
theorem zhw:CT 143 (cA [wC,kI] [lF] (u2 Et)):=eR 26 (LB c45 zm2) func143 (jl [jk 0 [wA 5 .Wire] [(6,6),(8,24)]] [jk 3 [wA 5 .Wire,sA 6 gA] [(8,24)]]) (by kernel_rfl)
theorem c73:CT 73 (jD [.ptr [1,11,12,13], .plain, .plain] [dH,lF,kD] [dH] (u3 Co) [] [1,11,12,13] false):=eR 41 pn func73 ⟨[jk 1179653 [pA 0 .World [1,11,12,13]] [(19,31)]],[jk 0 [pA 0 .World [1,11,12,13]] [(6,31)]],[jk 1 [sA 6 gA,pA 0 .World [1,11,12,13]] [(7,31)]],[],[]⟩ (by kernel_rfl)
theorem zyq:CT 158 (jD [.ptr [1,11,12,13], .plain, .plain, .plain, .plain] [dH,gA,wC,kI,kD] [dH] (u5 Du) [] [1,11,12,13] false):=eR 23 (LB c73 zhw) func158 a0 (by kernel_rfl)
theorem zx0:CT 347 (cA [NE,gA,lA,gA,lA] [NE,IB,gA] (u5 Gx)):=eR 78 (UE znx zei zhj fP zhm zeg) func347 (jr [jq 2 41 18 40,jq 4 50 44 49]) (by kernel_rfl)
theorem FT:CT 255 (cE [qC,gA,lA] [qC,IB,gA] (u3 Cp) [1,8,11,14,17,18,20,21,24,25]):=eR 40 (RB MK KI zx0) func255 (jc [(2228231,⟨[pA 9 .Chan [1,8,11,14]],[(35,36)],[1000010]⟩)]) (by kernel_rfl)
theorem zhc:CT 326 (cA [lA,lA] [PG] (u2 Eu)):=eR 12 pn func326 a0 (by kernel_rfl)
theorem kP:CT 238 (cA [qC,IB] [PG] (u2 Bu)):=eR 13 (LB nP zhc) func238 a0 (by kernel_rfl)
theorem zzA:CT 159 (cE [wC,gA,lA] [wC,kI,kD,gA] (u3 Gy) [1,5,8,9,11,12,15,16,18,25,28,31,41,42]):=eR 75 (IE tB sN oN kP FT) func159 ⟨[],[],[],[jq 2 29 17 28],[(11,[1000012])]⟩ (by kernel_rfl)
theorem zzZ:CT 256 (cE [BD,lA] [BD,wG,kD,gA] (u2 Gz) [1,2,4,11,14,17,20,24,25]):=eR 71 (FC kP FT mP bP) func256 ⟨[],[],[],[jq 2 22 15 21],[(11,[1000010])]⟩ (by kernel_rfl)
theorem zxX:CT 160 (cA [PD,gA,gA,lA] [PD,wG,kD,gA] (u4 Ha)):=eR 66 (FC tB AT pN zzZ) func160 (jn [(3604489,⟨[pA 12 .Server [0,1,2,5,6]],[(56,61)],[1000013]⟩)] [jq 2 26 19 25]) (by kernel_rfl)
theorem zmC:CT 161 (cA [wG] [lF] Fo):=eR 28 (LB c45 zm2) func161 (jl [jk 0 [wA 3 .Wire] [(4,4),(6,26)]] [jk 3 [wA 3 .Wire,sA 4 gA] [(6,26)]]) (by kernel_rfl)
theorem zyl:CT 341 (cA [oO,gA] [CA] (u2 Dv)):=eR 21 (LB tB zmF) func341 (jr [jq 1 4 5 20]) (by kernel_rfl)
theorem zyg:CT 232 (cA [oO,gA] [oO,gA] (u2 Fp)):=eR 29 (SA zyl) func232 (jc [jk 1310728 [sA 6 gA] []]) (by kernel_rfl)
theorem znz:CT 233 (cA [wC] [wC] Dw):=eR 10 (SA znr) func233 a0 (by kernel_rfl)
theorem zng:CT 235 (cA [qC,gA] [qC] (u2 Bv)):=eR 34 (RB tB MK KI) func235 (jn [jk 1835012 [pA 5 .Chan [1,3,6,8,11,14]] [(29,32)]] [jq 2 28 8 27]) (by kernel_rfl)
theorem zhq:CT 297 (cA [gA] [lA] Bp):=eR 10 (LB tB IJ) func297 a0 (by kernel_rfl)
theorem znv:CT 237 (cE [qC] [qC,IB,gA] Fq [1,8,11,14,17,18,20,21,24,25]):=eR 27 (FC MK KI FT zhq) func237 (jr [jq 1 13 5 12]) (by kernel_rfl)
theorem zyp:CT 142 (cE [wC,gA] [wC,kI,kD] (u2 Hb) [1,5,8,9,11,12,15,16,41,42]):=eR 159 (nG tB sN oN zeh zyg znz znq zng (RB zed znv kP)) func142 (jn [jk 4587533 [wA 8 .Frame] [(71,75)],jk 5373967 [wA 8 .Frame] [(83,88)],jk 8585241 [pA 7 .Client [1,5,8,9,11,12,15,16,18,20,23,25,28,31]] [(132,134)],(9371676,⟨[wA 8 .Frame,wA 9 .Note,pA 7 .Client [1,5,8,9,11,12,15,16]],[(144,155)],[1000015,1000014]⟩)] [jq 4 33 21 32,jq 11 70 64 69,jq 13 82 76 81]) (by kernel_rfl)
theorem znL:CT 206 (cA [BD] [BD] Fr):=eR 21 (LB mP bP) func206 a0 (by kernel_rfl)
theorem znK:CT 403 (cA [EE,gA] [EE] (u2 Cf)):=eR 47 (FC tB c99 zee zd0) func403 ⟨[jk 2228233 [pA 5 .Paths [2]] [(35,45)]],[jk 0 [pA 5 .Paths [2]] [(6,6),(20,45)]],[jk 5 [sA 6 gA,pA 5 .Paths [2]] [(20,45)]],[jq 1 14 7 13],[]⟩ (by kernel_rfl)
theorem zxU:CT 342 (cA [BD,gA] [BD] (u2 Hc)):=eR 39 (UE tB znL zng mP bP znK) func342 (jr [jq 2 19 8 18]) (by kernel_rfl)
theorem zyM:CT 239 (cA [ME,gA] [ME] (u2 Hd)):=eR 52 (FC tB zhE zhr zxU) func239 ⟨[(2883594,⟨[pA 5 .Tab [1]],[(45,50)],[1000007]⟩)],[jk 0 [pA 5 .Tab [1]] [(6,7),(21,50)]],[jk 5 [sA 6 gA,pA 5 .Tab [1]] [(7,7),(21,50)]],[jq 1 15 8 14,jq 8 44 35 43],[]⟩ (by kernel_rfl)
theorem zmQ:CT 240 (cA [BD] [PG] Fs):=eR 10 pn func240 a0 (by kernel_rfl)
theorem zyT:CT 144 (cE [PD,gA] [PD,kD] (u2 He) [7]):=eR 79 (UE tP tB AT pN zyM zmQ) func144 ⟨[jk 4325388 [wA 7 .Note] [(67,76)]],[(0,⟨[wA 7 .Note],[(8,9),(28,76)],[1000006]⟩)],[jk 7 [wA 7 .Note,sA 8 gA] [(9,9),(28,76)]],[jq 3 20 13 19,jq 10 66 46 65],[]⟩ (by kernel_rfl)
theorem c72:CT 72 (jD [.ptr [1,11,12,13]] [dH] [lF,dH] Hf [(false,1)] [0,2,12,13,14] false):=eR 86 (RB zyp zhw zyT) func72 (jl [jk 0 [wA 3 .Wire,pA 0 .World [1,11,12,13]] [(4,7),(19,59)]] [jk 4 [wA 3 .Wire,sA 4 gA,pA 0 .World [1,11,12,13]] [(5,7),(19,59)]]) (by kernel_rfl)
theorem zy6:CT 162 (cA [wC,EB] [wC] (u2 Bw)):=eR 17 (RB GG sN oN) func162 (jn [jk 851972 [pA 5 .Client [1,5,8,9,11,12,15,16,18,20,23,25,28,31]] [(14,15)]] [jq 2 13 8 12]) (by kernel_rfl)
theorem zyd:CT 257 (cA [qC] [qC,CA] Dx):=eR 34 (RB MK KI dP) func257 (jr [jq 2 26 7 25]) (by kernel_rfl)
theorem zyf:CT 163 (cE [wC,gA] [wC,kI,kD,gA] (u2 Hg) [1,5,8,9,11,12,15,16,18,25,28,31,41,42]):=eR 73 (ZH tB sN oN zed znv kP zyd) func163 ⟨[],[],[],[jq 2 23 16 22,jq 4 36 27 35,jq 8 57 52 56],[(12,[1000012])]⟩ (by kernel_rfl)
theorem zxK:CT 140 (cA [WD,EB] [gA] (λx=>pJ x.1 x.2)):=eC 30 (SA c45) func140 (jl [jk 0 [] [(4,5),(9,29)]] [jk 4 [sA 5 gA] [(4,4),(9,29)]]) (u2 Kc) (by kernel_rfl) VQ.ok
theorem zd7:CT 102 (cA [zF,EB] [gA] (λx=>some (VA x.1 x.2))):=eD 20 pn func102 (jl [jk 0 [] [(4,19)]] [jk 2 [sA 5 gA] [(4,4),(6,19)]]) (u2 Qb) (by kernel_rfl) zbV.ok
theorem zxP:CT 323 (cA [zF,EB,gA] [zF] (u3 Hh)):=eR 63 (FC GG tB zay zd7) func323 (jn [jk 3735564 [wA 7 .Credit] [(58,61)]] [jq 2 24 12 23]) (by kernel_rfl)
theorem znw:CT 230 (cA [lA] [IB,CA] Ev):=eR 140 (LB zhs zmV) func230 (jc [jk 3276815 [pA 2 .Frame [2,3,5,6,9,10],pA 4 .Frame [2,3,5,6,9,10]] [(3,3),(17,49),(52,131)],jk 4325396 [pA 2 .Frame [2,3,5,6,9,10],pA 4 .Frame [2,3,5,6,9,10]] [(3,3),(17,49),(68,131)],jk 6160411 [pA 2 .Frame [2,3,5,6,9,10],pA 4 .Frame [2,3,5,6,9,10]] [(3,3),(17,49),(96,131)]]) (by kernel_rfl)
theorem zmW:CT 389 (cA [ME,EB] [CA] (u2 Dy)):=eR 31 pn func389 (jm [jk 0 [] [(4,30)]] [jk 2 [sA 5 gA] [(4,4),(6,30)]] [jq 4 30 13 29]) (by kernel_rfl)
theorem zns:CT 390 (cA [zF,EB] [gA] (u2 Bc)):=eR 28 (LB zay zd7) func390 (jr [jq 2 15 9 14]) (by kernel_rfl)
theorem zzy:CT 324 (cA [PD,EB,gA] [CA] (u3 Ft)):=eR 19 (LB zmW zns) func324 (jr [jq 1 6 7 18]) (by kernel_rfl)
theorem zzD:CT 391 (cA [lA,EB] [lA] (u2 Hi)):=eR 18 (LB GG IJ) func391 a0 (by kernel_rfl)
theorem zmz:CT 327 (cA [EB,gA,lA,lA,gA] [lA] (u5 Ew)):=eR 50 (FC GG tB IJ zzD) func327 (jr [jq 1 34 12 33]) (by kernel_rfl)
theorem zmE:CT 325 (cA [MO,EB,gA,lA,lA,gA] [lA] (u6 Fu)):=eR 33 (RB zhl zaA zmz) func325 (jr [jq 2 27 20 26]) (by kernel_rfl)
theorem zze:CT 392 (cA [gA,gA] [CA] (u2 De)):=eR 17 (SA tB) func392 (jr [jq 1 4 5 16]) (by kernel_rfl)
theorem zyG:CT 423 (cA [lA,lA] [gA] (u2 Bx)):=eR 31 pn func423 (jl [jk 0 [sA 5 gA] [(6,6),(12,29)]] [jk 5 [sA 5 gA,sA 6 gA] [(12,29)]]) (by kernel_rfl)
theorem zht:CT 393 (cA [lA,lA] [CA] (u2 Bn)):=eR 14 (SA zyG) func393 (jr [jq 1 4 5 13]) (by kernel_rfl)
theorem zyh:CT 328 (cA [MO,gA,EB,IB] [gA] (u4 Hj)):=eR 52 (ZH GG tB zhl WL zmE zze zht) func328 (jr [jq 1 31 9 30]) (by kernel_rfl)
theorem zmL:CT 394 (cA [lA,lA] [lA] (u2 Cg)):=eR 8 (SA IT) func394 a0 (by kernel_rfl)
theorem zhB:CT 331 (cA [lA] [lA] Bj):=eR 12 (RB BT dP zmL) func331 a0 (by kernel_rfl)
theorem zhp:CT 332 (cA [gA,lA,lA,gA,lA] [lA] (u5 Ey)):=eR 48 (LB tB IJ) func332 (jr [jq 1 34 12 33]) (by kernel_rfl)
theorem znk:CT 383 (cA [lA,gA,lA,lA,gA,lA] [lA] (u6 Fv)):=eR 35 (RB zaA zhB zhp) func383 (jr [jq 3 30 23 29]) (by kernel_rfl)
theorem zxR:CT 329 (cA [lA,IB] [CA] (u2 Hk)):=eR 29 (RB WL znk zht) func329 (jr [jq 1 4 5 28]) (by kernel_rfl)
theorem zyu:CT 400 (cA [lA,lA,lA] [lA] (u3 Hl)):=eR 28 (LB BT zmL) func400 (jr [jq 1 19 7 18]) (by kernel_rfl)
theorem zy2:CT 399 (cA [lA] [lA] Df):=eR 9 (SA dP) func399 a0 (by kernel_rfl)
theorem zx8:CT 401 (cA [lA,gA] [lA] (u2 Hm)):=eR 22 (LB tB dP) func401 (jl [jk 0 [wA 5 .byte] [(6,6),(14,20)]] [jk 5 [wA 5 .byte,sA 6 gA] [(14,20)]]) (by kernel_rfl)
theorem znE:CT 338 (cA [lA,lA,lA,gA] [lA] (u4 Fw)):=eR 22 (RB zy2 zyu zx8) func338 a0 (by kernel_rfl)
theorem zzg:CT 421 (cA [] [yG] (λ_=>Hn)):=eR 14 pn func421 (jl [jk 0 [pA 1 .Win [1]] [(2,2),(4,12)]] [jk 3 [sA 2 gA,pA 1 .Win [1]] [(4,12)]]) (by kernel_rfl)
theorem zhh:CT 377 (cA [gA,lA] [NE] (u2 Dg)):=eR 20 (LB tB zzg) func377 (jr [jq 1 12 5 11]) (by kernel_rfl)
theorem zno:CT 337 (cA [gA,lA,lA] [qC] (u3 Fx)):=eR 28 (LB tB zhh) func337 (jr [jq 1 19 7 18]) (by kernel_rfl)
theorem zzj:CT 384 (cA [EB] [EE] Dh):=eR 5 pn func384 a0 (by kernel_rfl)
theorem zz0:CT 309 (cA [lA,gA,EB,IB] [BD] (u4 Ho)):=eR 58 (ZH GG tB BT WL zno znE zzj) func309 (jr [jq 1 31 9 30]) (by kernel_rfl)
theorem zyB:CT 303 (cA [ME,BD] [ME,gA] (u2 Bk)):=eR 48 (UE tP zhE zhr mP bP znG) func303 (jr [jq 2 20 9 19,jq 6 38 28 37]) (by kernel_rfl)
theorem zhu:CT 330 (cA [lA,lA,lA] [PG] (u3 Dz)):=eR 17 pn func330 a0 (by kernel_rfl)
theorem znh:CT 395 (cE [qC] [qC,IB,gA] Fy [1,8,11,14,17,18,20,21,24,25]):=eR 25 (FC MK KI FT zhq) func395 (jr [jq 1 12 5 11]) (by kernel_rfl)
theorem zxF:CT 333 (cE [BD] [BD,wG,kD] Hp [1,2,4,11,14,17,20,24,25]):=eR 53 (FC kP mP bP znh) func333 ⟨[],[],[],[jq 2 24 11 23],[(8,[1000007])]⟩ (by kernel_rfl)
theorem zzx:CT 437 (cA [gA] [gA] Hq):=eR 8 pn func437 a0 (by kernel_rfl)
theorem znI:CT 425 (cA [yG,gA] [CA] (u2 By)):=eR 30 (FC tB zm1 zmM zzx) func425 (jr [jq 1 12 5 11,jq 3 4 13 29]) (by kernel_rfl)
theorem zyr:CT 426 (cA [lA,gA,IB] [lA,CA] (u3 Hr)):=eR 42 (IE nP zaA zhy zeg zht) func426 (jr [(2,⟨[sA 28 CA],[(12,27)],[8]⟩)]) (by kernel_rfl)
theorem zzq:CT 427 (cA [yG,gA] [yG,CA] (u2 Di)):=eR 73 (LB znH znI) func427 ⟨[jk 4521999 [pA 6 .Win [1]] [(70,71)]],[jk 0 [pA 6 .Win [1]] [(7,9),(21,48)]],[jk 6 [sA 7 gA,sA 8 gA,pA 6 .Win [1]] [(9,9),(21,48)]],[jq 6 27 21 26],[]⟩ (by kernel_rfl)
theorem zzF:CT 402 (cA [NE,gA,IB] [NE,lA,gA] (u3 Dj)):=eR 64 (UE nP zei zhj znI zyr zzq) func402 (jr [jq 2 30 14 29]) (by kernel_rfl)
theorem znA:CT 339 (cA [qC,gA,IB] [qC,lA,gA] (u3 Ez)):=eR 174 (rP tB RK MK KI WL fP zhh zzF) func339 (jn [jk 5373966 [pA 9 .Chan [1,3,6,8,11,14]] [(83,85)]] [jq 2 40 22 39,jq 12 82 76 81,jq 15 97 88 96,jq 16 106 98 105,jq 23 139 127 138]) (by kernel_rfl)
theorem znu:CT 340 (cA [qC,gA] [lA,CA] (u2 Fz)):=eR 51 (SA KI) func340 (jr [jq 3 18 10 17,jq 7 45 34 44]) (by kernel_rfl)
theorem c47:CT 47 (cA [EE,EB] [.v .Cand,CA] (λx=>wK x.1 x.2)):=eC 33 (LB c99 zee) func47 (jl [jk 0 [pA 4 .Cand [2]] [(5,6),(11,31)]] [jk 4 [sA 6 gA,pA 4 .Cand [2]] [(5,5),(11,31)]]) (u2 Lg) (by kernel_rfl) kR.ok
theorem zzO:CT 396 (cA [EE,gA,EB,lA] [EE,CA] (u4 Ga)):=eR 71 (IE c47 tB RK zee zd0) func396 ⟨[jk 3801098 [pA 12 .Paths [2]] [(59,69)]],[jk 0 [pA 12 .Paths [2]] [(13,13),(44,69)]],[jk 6 [sA 13 gA,pA 12 .Paths [2]] [(44,69)]],[(2,⟨[sA 39 CA],[(20,38)],[1000010]⟩)],[]⟩ (by kernel_rfl)
theorem zyL:CT 424 (cA [qC] [qC,CA] Hs):=eR 38 (FC MK KI dP zhh) func424 (jr [jq 2 20 7 19]) (by kernel_rfl)
theorem zyW:CT 397 (cA [qC,gA,lA] [qC,gA] (u3 Ht)):=eR 57 (UE tB RK MK KI zhq zyL) func397 (jr [jq 2 33 13 32]) (by kernel_rfl)
theorem zzB:CT 385 (cA [EE,gA,EB,lA] [EE,CA] (u4 Gb)):=eR 77 (IE GG tB c99 zd0 znK) func385 (jm [jk 0 [pA 8 .Paths [2]] [(9,9),(11,11),(41,57)]] [jk 5 [sA 11 gA,pA 8 .Paths [2]] [(9,9),(41,57)]] [jq 1 35 12 34]) (by kernel_rfl)
theorem zx7:CT 334 (cE [BD,gA,EB,IB,lA] [BD,wG,kD,CA] (u5 Hu) [1,2,24,25]):=eR 241 (nG GG kP nP FT mP bP zhu znA (IE znu zzB znh zzO zyW)) func334 (jn [(5898256,⟨[wA 15 .Out,wA 16 .Note,pA 14 .Sess [1,2]],[(22,28),(92,197)],[18]⟩),jk 7077906 [wA 15 .Out,wA 16 .Note,pA 14 .Sess [1,2]] [(22,28),(110,197)],(7798804,⟨[wA 16 .Note,pA 14 .Sess [1,2,4,6,9,11,14,17]],[(120,134)],[1000022]⟩),jk 8847383 [wA 15 .Out,wA 16 .Note,pA 14 .Sess [1,2,20]] [(24,28),(137,197)],(9633817,⟨[wA 15 .Out,wA 16 .Note,pA 14 .Sess [1,2,20]],[(26,28),(148,197)],[1000024]⟩),jk 10158106 [wA 16 .Note] [(156,171)],(11862046,⟨[wA 15 .Out,wA 16 .Note,pA 14 .Sess [1,2,20]],[(182,197)],[1000027,1000026]⟩)] [jq 4 49 38 48,jq 34 220 215 219]) (by kernel_rfl)
theorem zxQ:CT 398 (cA [IB] [gA] Fa):=eR 6 (SA zhs) func398 a0 (by kernel_rfl)
theorem zy7:CT 380 (cA [zF,EB,gA] [zF,CA] (u3 Fb)):=eR 44 (FC tB zay zd7 zns) func380 (jr [jq 3 30 16 29]) (by kernel_rfl)
theorem zxI:CT 335 (jD [.ptr [], .plain] [.cells .Server,wG] [wG, .cells .Server] (u2 Hv) [(false,1)] [0] false):=eR 60 (RB zy7 zmW zxQ) func335 ⟨[jk 1703943 [pA 0 .Server []] [(7,8),(27,51)]],[jk 0 [wA 5 .Out,pA 0 .Server []] [(6,8),(10,58)],jk 1 [wA 5 .Out,pA 0 .Server []] [(7,8),(16,58)]],[jk 3 [wA 5 .Out,sA 6 gA,pA 0 .Server []] [(7,8),(10,58)]],[],[]⟩ (by kernel_rfl)
theorem zzV:CT 229 (cE [PD,gA,EB,lA] [PD,wG,kD] (u4 Hw) [7,8]):=eR 410 (nG GG tP tB RK AT pN zd5 zea (nG znw zyB zz0 fP zxP zzy zmE zhc (nG zmz zyh zxR zhu zhB zhp zxF zx7 (SA zxI)))) func229 (jn [(4653068,⟨[wA 12 .Out,wA 13 .Note,pA 11 .Server [],pA 8 .Server [0,1,2,5,6]],[(9,10),(16,33),(75,404)],[1000014]⟩),jk 9437204 [wA 12 .Out,wA 13 .Note,pA 8 .Server [0,1,2,5,6],pA 11 .Server [0,1,5,6]] [(9,10),(19,33),(148,404)],jk 12058648 [wA 13 .Note,sA 19 gA,pA 8 .Server [0,1,2,5,6],pA 11 .Server [0,1,2,5,6]] [(9,10),(20,22),(185,279)],jk 19791907 [wA 12 .Out,wA 13 .Note,pA 11 .Server [0,1,2,5,6]] [(24,26),(303,320)],jk 21037096 [wA 12 .Out,wA 13 .Note,pA 8 .Server [0,1,2,5,6],pA 11 .Server [0,1,5,6]] [(9,10),(27,33),(325,404)],jk 23134253 [wA 29 .byte] [(354,354)],(24903730,⟨[wA 13 .Note,pA 11 .Server [0,1,5,6]],[(381,387)],[1000028]⟩),jk 25624630 [wA 13 .Note] [(392,404)]] [jq 4 50 38 49,(11,⟨[sA 92 CA],[(75,91)],[1000011]⟩),jq 19 174 148 173,jq 33 302 286 301,jq 40 340 330 339]) (by kernel_rfl)
theorem zzz:CT 308 (cA [lA,gA,IB] [IB,CA] (u3 Hx)):=eR 42 (RB zeh WL znk) func308 (jr [jq 1 17 10 16]) (by kernel_rfl)
theorem zxy:CT 231 (cE [wC,gA,IB] [wC,kI,kD] (u3 Hy) [1,5,8,9,11,12,15,16,41,42]):=eR 283 (nG tB RK sN oN zeh WL zed kP (nG nP FT zzz fP zhc zhu zhB zhp (FC zno znE znA znu))) func231 (jn [(11272218,⟨[wA 11 .Note,pA 9 .Client [1,5,8,9,11,12,15,16]],[(173,197)],[1000014]⟩),jk 13434911 [wA 11 .Note,pA 9 .Client [1,5,8,9,11,12,15,16]] [(206,223)],jk 14811170 [wA 11 .Note] [(227,242)],(16056356,⟨[wA 10 .Frame,wA 11 .Note,pA 9 .Client [1,5,8,9,11,12,15,16]],[(19,21),(246,279)],[15]⟩),(16646182,⟨[wA 10 .Frame,wA 11 .Note,pA 9 .Client [1,5,8,9,11,12,15,16]],[(255,279)],[1000020,1000019]⟩)] [jq 4 38 26 37,jq 6 56 42 55,jq 15 131 123 130]) (by kernel_rfl)
theorem zzc:CT 141 (jD [.ptr [1,11,12,13], .plain, .plain, .plain] [dH,gA,EB,lA] [lF,dH] (u4 Hz) [(false,1)] [0,2,12,13,14] false):=eR 95 (IE zhw zmC zzV znw zxy) func141 a0 (by kernel_rfl)
theorem zym:CT 164 (jD [.ptr [1,11,12,13], .plain, .plain, .plain] [dH,gA,EB,lA] [dH] (u4 Dk) [] [1,11,12,13] false):=eR 18 (LB c73 zzc) func164 a0 (by kernel_rfl)
theorem zx6:CT 258 (cA [.v .Op] [CA] Ea):=eR 22 (SA tB) func258 (jr [jq 1 2 3 21]) (by kernel_rfl)
theorem zy3:CT 259 (cA [lA,gA,gA] [lA,CA] (λx=>LJ x.1 x.2.1 x.2.2)):=eC 37 pn func259 (jr [jq 1 27 8 26]) (u3 Nf) (by kernel_rfl) OS.ok
theorem zzK:CT 165 (cA [.sl .Op,lF,gT] [lA,CA] (u3 Gc)):=eR 235 (ZH zm6 zx6 zy3 IT zaA dP zhy) func165 ⟨[jk 3407887 [wA 12 .byte] [(6,7),(13,15),(54,211)],jk 3801105 [wA 12 .byte] [(6,7),(13,15),(60,211)],jk 4849685 [wA 12 .byte] [(6,7),(13,15),(76,211)],jk 5832729 [wA 12 .byte] [(6,7),(13,15),(91,211)],jk 7012382 [wA 12 .byte] [(6,7),(15,15),(109,211)],jk 7929888 [wA 12 .byte] [(6,7),(15,15),(123,211)],jk 10747943 [wA 12 .byte] [(166,211)],jk 11534377 [wA 12 .byte] [(178,211)],jk 12320811 [wA 12 .byte] [(190,211)],jk 12779565 [wA 12 .byte] [(197,211)]],[jk 0 [wA 8 .bs] [(6,7),(9,15),(21,225)],jk 3 [wA 12 .byte] [(15,15),(136,163)]],[jk 5 [wA 8 .bs,sA 9 gA] [(6,7),(10,15),(21,225)],jk 34 [wA 12 .byte,sA 15 gA] [(136,163)]],[jq 8 41 31 40,jq 45 218 212 217],[]⟩ (by kernel_rfl)
theorem zx1:CT 166 (cA [PD] [PD,kD] Ia):=eR 48 (UE AT pN zd5 zea zm5 zmD) func166 (jr [jq 2 17 9 16]) (by kernel_rfl)
theorem zye:CT 167 (cA [wC] [wC,kD] Ib):=eR 27 (RB sN oN znz) func167 a0 (by kernel_rfl)
theorem zyc:CT 168 (cA [PD,gA] [PD,kD,gA] (u2 Ic)):=eR 55 (IE tB AT pN znL zmQ) func168 (jr [jq 4 31 15 30]) (by kernel_rfl)
theorem zzR:CT 266 (cA [qC] [gT] Ie):=eR 39 (SA KI) func266 (jc [jk 655366 [wA 3 .bs] [(11,18)],jk 1966089 [wA 3 .bs] [(31,37)]]) (by kernel_rfl)
theorem zzM:CT 169 (jD [.ptr [1,11,12,13], .plain] [dH,qC] [CA,dH] (u2 Gd) [(false,1)] [2,12,13,14] false):=eR 40 (SA zzR) func169 a0 (by kernel_rfl)
theorem zyn:CT 170 (cA [sK,gA] [sK] (u2 Ge)):=eR 17 (RB tB zd4 zd6) func170 (jn [jk 851972 [pA 5 .Dice [0]] [(14,15)]] [jq 2 13 8 12]) (by kernel_rfl)
theorem c81:CT 81 (jD [.ptr [1,11,12,13], .plain] [dH, .v .Event] [CA,dH] (u2 If) [(false,1)] [2,12,13,14] false):=eR 519 (nG c72 c73 c97 zxK zd5 zzN zea zyq (nG zzA zxX zmC zy6 zyf zym zzK zx1 (FC zye zyc zzM zyn))) func81 (jn [jk 3276805 [pA 6 .Wire []] [(4,4),(51,70)],jk 4784138 [pA 0 .World [1,11,12,13]] [(4,4),(7,38),(75,518)],jk 8126482 [pA 0 .World [1,11,12,13]] [(4,4),(13,38),(126,518)],jk 10027031 [pA 0 .World [1,11,12,13]] [(4,4),(17,38),(155,518)],jk 12058653 [pA 0 .World [1,11,12,13]] [(4,4),(21,38),(186,518)],jk 12910626 [pA 0 .World [1,11,12,13]] [(4,4),(22,38),(199,518)],jk 14286884 [pA 0 .World [1,11,12,13]] [(4,4),(22,38),(220,518)],jk 16056361 [pA 0 .World [1,11,12,13]] [(4,4),(26,38),(247,518)],jk 17170478 [pA 0 .World [1,11,12,13]] [(4,4),(27,38),(264,518)],jk 17825840 [pA 0 .World [1,11,12,13]] [(4,4),(27,38),(274,518)],jk 18546738 [pA 0 .World [1,11,12,13]] [(4,4),(27,38),(285,518)],jk 21430330 [pA 0 .World [1,11,12,13]] [(4,4),(30,38),(329,518)],jk 23265343 [pA 0 .World [1,11,12,13]] [(4,4),(32,38),(357,518)],jk 24641605 [pA 0 .World [1,11,12,13]] [(4,4),(34,38),(378,518)],jk 26476618 [pA 0 .World [1,11,12,13]] [(4,4),(36,38),(406,518)],jk 32178260 [pA 0 .World [1,11,12,13]] [(493,518)],jk 32505941 [pA 0 .World [1,11,12,13]] [(497,518)]] [jq 3 50 43 49,jq 50 298 291 297,jk 79 [sA 4 CA,pA 0 .World [1,11,12,13]] [(429,449)],jk 81 [sA 4 CA,pA 0 .World [1,11,12,13]] [(452,490)]]) (by kernel_rfl)
theorem c29:CT 29 (jD [.ptr [], .plain] [vE,gA] [WD,vE] (u2 Jd) [(true,14)] [1,11,12,13] false):=eR 35 (ZH PK c60 c67 c78 c79 c80 c81) func29 ⟨[jk 2097162 [pA 5 .World [1,11,12,13], .drop 9] [(33,33)]],[jk 0 [pA 0 .Cur [],pA 6 .int [],pA 5 .World [1,11,12,13]] [(7,9),(16,33)]],[jk 4 [sA 7 gA,pA 0 .Cur [],pA 6 .int [],pA 5 .World [1,11,12,13]] [(8,9),(16,33)]],[(8,⟨[sA 32 CA,pA 9 .World [1,11,12,13]],[(27,31)],[1000008]⟩)],[]⟩ (by kernel_rfl)
theorem c6:CT 6 (cE [lA] [WD,gA,gA] Je [1,11,12,13]):=eR 17 (RB c28 c29 PK) func6 a0 (by kernel_rfl)
theorem fC:CT 31 (cA [gA,gA,gA] [CA] (λx=>some (eA x.1 x.2.1 x.2.2))):=eD 15 pn func31 (jr [jq 1 6 7 14]) (u3 Or) (by kernel_rfl) zby.ok
theorem c7:CT 7 (cA [gA] [EB] (λx=>some (vC x))):=eD 12 (SA fC) func7 a0 Pg (by kernel_rfl) zcq.ok
theorem c85:CT 85 (cA [MO] [CA] (λx=>some (gF x))):=eD 7 pn func85 a0 Pk (by kernel_rfl) zbK.ok
theorem c38:CT 38 (cA [sK] [CA] (λx=>some (YB x))):=eD 12 (SA fC) func38 (jr [jq 1 2 3 11]) Pj (by kernel_rfl) zbk.ok
theorem zmK:CT 171 (cA [ME] [gA] (λx=>CJ x)):=eC 20 pn func171 ⟨[jk 983047 [sA 3 gA] [(16,17)]],[jk 0 [sA 3 gA] [(5,5),(9,18)]],[jk 3 [sA 3 gA,sA 9 gA] [(5,5),(10,18)]],[],[]⟩ Pl (by kernel_rfl) zb3.ok
theorem QI:CT 90 (cA [lA] [CA] (λx=>some (mA x))):=eD 6 pn func90 a0 Ox (by kernel_rfl) za5.ok
theorem PI:CT 41 (cA [lA,lA] [CA] (λx=>uB x.1 x.2)):=eC 10 pn func41 a0 (u2 Ou) (by kernel_rfl) zbB.ok
theorem zyX:CT 268 (cA [XE,XE] [CA] (λx=>some (zdQ x.1 x.2))):=eD 26 pn func268 (jl [jk 0 [] [(4,6),(14,25)]] [jk 4 [sA 14 gA] [(4,6),(15,25)]]) (u2 Pa) (by kernel_rfl) zaY.ok
theorem zm7:CT 173 (cA [NE,NE] [CA] (λx=>LO x.1 x.2)):=eC 42 (LB PI zyX) func173 (jr [jq 1 4 5 41]) (u2 Jx) (by kernel_rfl) JR.ok
theorem c89:CT 89 (cA [qC] [CA] (λx=>FO x)):=eC 40 (SA zm7) func89 (jr [jq 1 2 3 39]) Ke (by kernel_rfl) HP.ok
theorem zaw:CT 174 (cA [gA] [CA] (λx=>some (GA x))):=eD 9 pn func174 (jr [jq 1 2 3 8]) Nj (by kernel_rfl) BU.ok
theorem zhk:CT 352 (cA [XE,gA] [CA] (λx=>some (tC x.1 x.2))):=eD 21 (SA fC) func352 (jl [jk 0 [] [(4,4),(6,6),(9,16)]] [jk 2 [sA 9 gA] [(4,4),(6,6),(10,16)]]) (u2 Nk) (by kernel_rfl) hU.ok
theorem zmN:CT 353 (cA [yG,gA] [CA] (λx=>VF x.1 x.2)):=eC 17 pn func353 a0 (u2 Oy) (by kernel_rfl) zbq.ok
theorem zmy:CT 269 (cA [yG] [CA] (λx=>some (IC x))):=eD 33 (RB fC zhk zmN) func269 (jm [jk 0 [] [(2,3),(17,23)]] [jk 4 [sA 3 gA] [(2,2),(17,23)]] [jq 1 13 4 12,jq 8 2 24 32]) Jw (by kernel_rfl) WR.ok
theorem zd3:CT 175 (cA [NE] [CA] (λx=>some (cC x))):=eD 22 (LB fC zmy) func175 (jr [jq 1 2 3 21]) Oz (by kernel_rfl) zcg.ok
theorem zzH:CT 176 (cA [qC] [CA] (λx=>zdr x)):=eC 42 (RB fC zm7 zd3) func176 (jr [jq 2 2 6 14,jq 3 28 15 27,jq 5 2 29 41]) Jy (by kernel_rfl) TR.ok
theorem aM:CT 93 (cA [qC] [CA] (λx=>lC x)):=eC 45 (FC QI zaw zd3 zzH) func93 (jr [jq 1 23 3 22,jq 3 2 24 44]) Jz (by kernel_rfl) rR.ok
theorem mG:CT 33 (cA [EB] [CA] (λx=>some (EA x))):=eD 11 (SA fC) func33 (jr [jq 1 2 3 10]) Pd (by kernel_rfl) zbA.ok
theorem zhx:CT 267 (cA [EE] [CA] (λx=>some (VB x))):=eD 64 (RB fC mG QI) func267 (jm [jk 0 [] [(2,4),(6,6),(20,63)],jk 2 [] [(2,2),(6,6),(53,62)]] [jk 4 [sA 20 gA] [(2,4),(6,6),(21,63)],jk 9 [sA 53 gA] [(2,2),(6,6),(54,62)]] [jq 1 16 7 15,jq 6 47 25 46]) Kf (by kernel_rfl) xQ.ok
theorem zd2:CT 172 (cA [BD] [CA] (λx=>ED x)):=eC 76 (UE fC PI c89 QI aM zhx) func172 (jr [jq 1 24 3 23,jq 4 2 27 48,jq 5 2 49 75]) Kg (by kernel_rfl) DR.ok
theorem vN:CT 16 (cA [ME,lA] [gA] (λx=>CC x.1 x.2)):=eC 21 (SA PI) func16 (jl [jk 0 [] [(4,6),(10,20)]] [jk 2 [sA 10 gA] [(4,6),(11,20)]]) (u2 Pm) (by kernel_rfl) zbs.ok
theorem c86:CT 86 (cA [ME] [CA] (λx=>AG x)):=eC 42 (FC vN fC zmK zd2) func86 (jm [jk 0 [] [(2,4),(25,41)]] [jk 4 [sA 25 gA] [(2,4),(26,41)]] [jq 1 21 5 20,jq 6 40 30 39]) Kh (by kernel_rfl) PR.ok
theorem c84:CT 84 (cA [zF,EB] [gA] (λx=>some (VA x.1 x.2))):=eD 20 pn func84 (jl [jk 0 [] [(4,6),(9,19)]] [jk 2 [sA 9 gA] [(4,6),(10,19)]]) (u2 Pn) (by kernel_rfl) zaZ.ok
theorem c83:CT 83 (cA [zF] [CA] (λx=>some (pC x))):=eD 43 (RB fC mG c84) func83 (jm [jk 0 [] [(2,4),(10,42)]] [jk 4 [sA 10 gA] [(2,4),(11,42)]] [jq 6 41 15 40]) Ki (by kernel_rfl) PP.ok
theorem c87:CT 87 (cA [lA] [CA] (λx=>some (JC x))):=eD 6 (SA fC) func87 a0 Po (by kernel_rfl) zbR.ok
theorem c37:CT 37 (cA [PD] [CA] (λx=>xC x)):=eC 62 (UE fC c38 c83 c85 c86 c87) func37 (jm [jk 0 [] [(2,2),(4,4),(39,46)],jk 2 [] [(2,2),(6,6),(51,61)]] [jk 4 [sA 39 gA] [(2,2),(4,4),(40,46)],jk 10 [sA 51 gA] [(2,2),(6,6),(52,61)]] [jq 1 35 7 34]) Kj (by kernel_rfl) gQ.ok
theorem c54:CT 54 (cA [iV] [CA] (λx=>some (tD x))):=eD 17 (SA mG) func54 (jr [jq 1 2 3 16]) Pz (by kernel_rfl) zbr.ok
theorem c39:CT 39 (cA [lF] [CA] (λx=>some (DD x))):=eD 18 (SA c54) func39 (jl [jk 0 [] [(2,2),(4,4),(7,14)]] [jk 2 [sA 7 gA] [(2,2),(4,4),(8,14)]]) Kz (by kernel_rfl) NQ.ok
theorem c88:CT 88 (cA [IB,IB] [CA] (λx=>eO x.1 x.2)):=eC 80 (SA PI) func88 (jr [jq 1 4 5 79]) (u2 Kk) (by kernel_rfl) LP.ok
theorem c91:CT 91 (cA [oO] [CA] (λx=>some (mD x))):=eD 39 (SA fC) func91 (jr [jq 3 3 10 27,jq 4 2 28 38]) Kl (by kernel_rfl) PQ.ok
theorem cP:CT 179 (cA [gA] [CA] (λx=>some (nB x))):=eD 5 (SA fC) func179 a0 Pp (by kernel_rfl) zbx.ok
theorem zyO:CT 195 (cA [gA,gA] [CA] (λx=>some (tE x.1 x.2))):=eD 17 pn func195 (jc [jq 655366 10 12 12]) (u2 Nn) (by kernel_rfl) AU.ok
theorem KJ:CT 115 (cA [IB] [CA] (λx=>QC x)):=eC 165 (IE fC c88 QI cP zyO) func115 (jn [jk 524293 [sA 4 CA,pA 3 .Frame []] [(12,158)],jk 1703944 [sA 4 CA,pA 3 .Frame []] [(30,158)],jk 3997707 [sA 4 CA,pA 3 .Frame []] [(65,158)],jk 7405582 [sA 4 CA,pA 3 .Frame [2,5,6]] [(117,158)]] [jq 5 4 18 25,jq 8 4 42 60,jq 11 4 83 112,jq 14 4 132 158,jq 15 2 159 164]) Km (by kernel_rfl) sQ.ok
theorem c92:CT 92 (cA [wC] [CA] (λx=>zck x)):=eC 74 (FC PI QI aM KJ) func92 (jr [jq 1 35 3 34,jq 3 2 36 73]) Kn (by kernel_rfl) mQ.ok
theorem c40:CT 40 (cA [wC] [CA] (λx=>qD x)):=eC 161 (nG fC mG c87 c88 c89 QI c91 c92 (SA aM)) func40 (jr [jq 1 20 5 19,jq 7 2 33 58,jq 9 2 61 92,jq 11 2 95 117,jq 13 2 120 160]) Ko (by kernel_rfl) iQ.ok
theorem c94:CT 94 (cA [lA,gA] [CA] (λx=>some (RC x.1 x.2))):=eD 14 pn func94 (jr [jq 1 4 5 13]) (u2 Nm) (by kernel_rfl) tU.ok
theorem c42:CT 42 (cA [PG] [CA] (λx=>some (gC x))):=eD 57 (RB fC mG c94) func42 (jr [jq 1 2 3 56]) Kb (by kernel_rfl) LR.ok
theorem c9:CT 9 (cA [WD] [CA] (λx=>pE x)):=eC 101 (ZH fC c37 c38 c39 c40 PI c42) func9 (jm [jk 0 [] [(2,4),(51,78)],jk 2 [] [(2,2),(6,6),(82,89)],jk 4 [] [(2,2),(8,8),(93,100)]] [jk 6 [sA 51 gA] [(2,4),(52,78)],jk 12 [sA 82 gA] [(2,2),(6,6),(83,89)],jk 18 [sA 93 gA] [(2,2),(8,8),(94,100)]] [jq 1 31 9 30,jq 3 47 32 46,jq 8 77 56 76]) La (by kernel_rfl) DQ.ok
theorem c34:CT 34 (cN [WD,gA] [wC,BD,CA] (λx=>kL x.1 x.2)):=eC 49 (SA vN) func34 (jr [jq 3 38 22 37]) (u2 Lb) (by kernel_rfl) KP.ok
theorem c18:CT 18 (cA [WD,gA] [CA] (λx=>lL x.1 x.2)):=eC 117 (FC c9 fC c34 PI) func18 (jr [jq 1 18 11 17,jq 9 51 40 50,jq 10 4 52 65,jq 12 4 69 116]) (u2 Lc) (by kernel_rfl) UP.ok
theorem c32:CT 32 (cA [WD,gA] [CA] (λx=>UM x.1 x.2)):=eC 85 (RB c18 fC c34) func32 (jn [jk 3670025 [sA 8 gA] [(57,62)]] [jq 1 17 9 16,jq 4 44 25 43,jq 9 71 63 70,jq 11 4 72 84]) (u2 Lf) (by kernel_rfl) sR.ok
theorem qP:CT 15 (cA [] [EB] (λ_=>some (SB))):=eD 2 (SA c7) func15 a0 (λ_=>Pi) (by kernel_rfl) zcO.ok
theorem c35:CT 35 (cA [EE,EB] [gA] (λx=>NH x.1 x.2)):=eC 21 pn func35 (jl [jk 0 [] [(4,6),(10,20)]] [jk 2 [sA 10 gA] [(4,6),(11,20)]]) (u2 Li) (by kernel_rfl) oR.ok
theorem c36:CT 36 (cA [zF,EB] [CA] (λx=>some (LG x.1 x.2))):=eD 23 (LB c83 c84) func36 a0 (u2 Qd) (by kernel_rfl) zaQ.ok
theorem c8:CT 8 (cA [WD,gA,EB] [CA] (λx=>YS x.1 x.2.1 x.2.2)):=eC 73 (UE qP c32 mG c34 c35 c36) func8 (jr [jq 1 34 10 33,jq 4 60 42 59,jq 6 6 61 72]) (u3 Lj) (by kernel_rfl) FQ.ok
theorem c69:CT 69 (cA [iV] [CA] (λx=>some (tD x))):=eD 17 (SA GG) func69 (jr [jq 1 2 3 16]) Pw (by kernel_rfl) zbo.ok
theorem zzk:CT 137 (cA [lF] [CA] (λx=>some (DD x))):=eD 19 (SA c69) func137 (jl [jk 0 [] [(2,15)]] [jk 2 [sA 3 gA] [(2,2),(4,15)]]) Px (by kernel_rfl) za3.ok
theorem zzX:CT 228 (cA [gA,gA] [CA] (λx=>some (ND x.1 x.2))):=eD 12 pn func228 (jr [jq 1 4 5 11]) (u2 Nl) (by kernel_rfl) IU.ok
theorem zzL:CT 139 (cA [PG] [CA] (λx=>some (gC x))):=eD 60 (RB GG tB zzX) func139 (jr [jq 1 2 3 59]) Ka (by kernel_rfl) CR.ok
theorem c68:CT 68 (cA [WD] [CA] (λx=>pE x)):=eC 113 (ZH tB RK pN zd6 zzk oN zzL) func68 (jm [jk 0 [] [(2,3),(47,84)],jk 2 [] [(2,2),(4,4),(85,98)],jk 4 [] [(2,2),(5,5),(99,112)]] [jk 4 [sA 3 gA] [(2,2),(47,84)],jk 9 [sA 4 gA] [(2,2),(85,98)],jk 14 [sA 5 gA] [(2,2),(99,112)]] [jq 1 46 6 45,jq 6 84 51 83]) Ky (by kernel_rfl) yQ.ok
theorem c95:CT 95 (cA [WD,gA] [CA] (λx=>lL x.1 x.2)):=eC 167 (FC tP c68 tB RK) func95 (jr [jq 1 15 8 14,jq 5 45 29 44,jq 11 4 68 100,jq 12 4 101 166]) (u2 Ld) (by kernel_rfl) QP.ok
theorem c43:CT 43 (cA [WD,gA] [CA] (λx=>UM x.1 x.2)):=eC 120 (RB tP c95 tB) func43 (jr [jq 1 17 9 16,jq 5 47 31 46,jq 8 84 55 83,jq 11 4 85 119]) (u2 Le) (by kernel_rfl) jR.ok
theorem c48:CT 48 (cA [zF,EB] [CA] (λx=>some (LG x.1 x.2))):=eD 23 (LB zay zd7) func48 a0 (u2 Qc) (by kernel_rfl) zaM.ok
theorem ZF:CT 10 (cA [WD,gA,EB] [CA] (λx=>YS x.1 x.2.1 x.2.2)):=eC 90 (UE c43 GG c45 tP c47 c48) func10 (jr [jq 1 41 10 40,jq 5 6 67 89]) (u3 Lh) (by kernel_rfl) QQ.ok
theorem AC:CT 51 (cA [lA] [lA] (λx=>yA x)):=eC 6 pn func51 a0 Qe (by kernel_rfl) zbO.ok
theorem znC:CT 103 (cA [IB] [IB] (λx=>(λ(a0:Ab)=>kA a0) x)):=eC 28 (SA AC) func103 a0 Oi (by kernel_rfl) eU.ok
theorem zmT:CT 270 (cA [yG] [yG] (λx=>(λ(a0:Ap)=>kA a0) x)):=eC 10 pn func270 a0 Qm (by kernel_rfl) za7.ok
theorem zhg:CT 177 (cA [NE] [NE] (λx=>(λ(a0:Av)=>kA a0) x)):=eC 14 (LB AC zmT) func177 a0 Od (by kernel_rfl) EU.ok
theorem iP:CT 104 (cA [qC] [qC] (λx=>(λ(a0:Aj)=>kA a0) x)):=eC 20 (LB AC zhg) func104 a0 Oe (by kernel_rfl) kU.ok
theorem NT:CT 49 (cA [wC] [wC] (λx=>(λ(a0:Ae)=>kA a0) x)):=eC 20 (RB AC znC iP) func49 a0 Oj (by kernel_rfl) WT.ok
theorem MT:CT 12 (cA [wC,EB] [wC] (u2 Bw)):=eR 17 (RB mG c40 NT) func12 (jn [jk 851972 [pA 5 .Client [1,5,8,9,11,12,15,16,18,20,23,25,28,31]] [(14,15)]] [jq 2 13 8 12]) (by kernel_rfl)
theorem HK:CT 117 (cA [lA,gA,gA] [lA] (λx=>JB x.1 x.2.1 x.2.2)):=eC 35 pn func117 (jm [jk 0 [wA 7 .byte] [(8,8),(21,33)]] [jk 5 [wA 7 .byte,sA 8 gA] [(21,33)]] [jq 2 17 12 16]) (u3 Lk) (by kernel_rfl) HS.ok
theorem MJ:CT 116 (cA [gT] [lA] (λx=>aD x)):=eC 18 pn func116 (jl [jk 0 [wA 3 .byte] [(5,5),(9,16)]] [jk 3 [wA 3 .byte,sA 9 gA] [(5,5),(10,16)]]) Lm (by kernel_rfl) nR.ok
theorem zg8:CT 180 (cA [gA,lA,gA,gA] [lA] (u4 Cq)):=eR 37 (IE fC QI MJ HK zaw) func180 (jr [jq 1 26 9 25]) (by kernel_rfl)
theorem zxE:CT 442 (cA [] [XE] (λ_=>some (yE))):=eD 2 pn func442 a0 (λ_=>Qf) (by kernel_rfl) zb1.ok
theorem zzo:CT 434 (cA [] [oV] (λ_=>some (PO))):=eD 3 (SA zxE) func434 a0 (λ_=>Qg) (by kernel_rfl) zbd.ok
theorem znn:CT 438 (cA [oV] [CA] (λx=>some (TG x))):=eD 20 (LB fC zhk) func438 (jr [jq 1 2 3 19]) Ll (by kernel_rfl) BR.ok
theorem zy9:CT 369 (cA [lA,gA,gA] [lA,CA] (λx=>LJ x.1 x.2.1 x.2.2)):=eC 36 pn func369 (jr [jq 1 27 8 26]) (u3 Ln) (by kernel_rfl) MS.ok
theorem zmI:CT 290 (cA [lA,gA,gA] [gA,gA,CA] (λx=>mH x.1 x.2.1 x.2.2)):=eC 45 (SA zy9) func290 (jm [jk 0 [sA 11 gA] [(13,13),(31,40)]] [jk 8 [sA 11 gA,sA 31 gA] [(13,13),(32,40)]] [jq 1 19 14 18]) (u3 Lo) (by kernel_rfl) yS.ok
theorem zmJ:CT 445 (cA [gA,gA] [gA] (λx=>jE x.1 x.2)):=eC 23 pn func445 (jr [jq 2 12 7 11]) (u2 Lp) (by kernel_rfl) XS.ok
theorem zzP:CT 444 (cA [lA] [XE] (λx=>yM x)):=eC 79 (LB zmI zmJ) func444 (jl [jk 0 [wA 3 .int] [(4,4),(14,28)],jk 2 [wA 3 .int] [(5,9),(29,77)]] [jk 5 [sA 4 gA,wA 3 .int] [(14,28)],jk 9 [sA 5 gA,wA 3 .int] [(6,9),(29,77)]]) Lq (by kernel_rfl) hQ.ok
theorem zzr:CT 446 (cA [gA] [gA] (λx=>some (FM x))):=eD 14 pn func446 (jr [jq 1 9 4 8]) Jg (by kernel_rfl) DN.ok
theorem zyK:CT 447 (cA [gA,gA] [gA] (λx=>some (RF x.1 x.2))):=eD 9 pn func447 a0 (u2 Qh) (by kernel_rfl) zbQ.ok
theorem zzl:CT 443 (cA [XE,lA] [XE] (λx=>vL x.1 x.2)):=eC 151 (IE zhk zzP zmJ zzr zyK) func443 (jm [jk 0 [sA 7 gA,sA 8 gA,sA 9 gA,sA 10 gA,sA 11 gA,sA 12 gA,sA 13 gA,sA 14 gA] [(15,19),(60,124)],jk 2 [wA 5 .int] [(20,21),(135,149)]] [jk 7 [sA 7 gA,sA 8 gA,sA 9 gA,sA 10 gA,sA 11 gA,sA 12 gA,sA 13 gA,sA 14 gA,sA 15 gA] [(16,19),(60,124)],jk 16 [sA 135 gA,wA 5 .int] [(20,21),(136,149)]] [jq 2 32 25 31]) (u2 Lr) (by kernel_rfl) cQ.ok
theorem zna:CT 439 (cN [XE,lA] [XE,lA] (λx=>GT x.1 x.2)):=eC 17 (SA zzl) func439 (jl [jk 0 [sA 0 XE,sA 1 lA] [(6,14)]] [jk 1 [sA 0 XE,sA 1 lA] [(6,14)]]) (u2 Ls) (by kernel_rfl) vP.ok
theorem zyi:CT 433 (cA [oV,lA] [oV] (λx=>zcP x.1 x.2)):=eC 50 (FC AC MJ znn zna) func433 (jr [jq 1 17 7 16]) (u2 Lt) (by kernel_rfl) YQ.ok
theorem zx3:CT 440 (cA [gA] [lA] (λx=>nN x)):=eC 25 (LB fC HK) func440 (jl [jk 0 [wA 3 .byte] [(8,17)]] [jk 4 [wA 3 .byte] [(8,17)]]) Lu (by kernel_rfl) LS.ok
theorem zxO:CT 441 (cA [XE] [lA] (λx=>mL x)):=eC 18 (SA HK) func441 (jl [jk 0 [wA 3 .byte] [(5,5),(9,16)]] [jk 3 [wA 3 .byte,sA 9 gA] [(5,5),(10,16)]]) Lv (by kernel_rfl) SP.ok
theorem zxZ:CT 432 (cA [oV] [lA] (λx=>zcy x)):=eC 23 (IE MJ znn zna zx3 zxO) func432 a0 Lw (by kernel_rfl) tQ.ok
theorem znf:CT 412 (cA [lA] [lA] (λx=>some (DE x))):=eD 10 (RB zxZ zyi zzo) func412 a0 Lx (by kernel_rfl) US.ok
theorem zxS:CT 411 (cA [lA] [lA] (λx=>some (bE x))):=eD 21 (LB AC znf) func411 ⟨[jk 720902 [wA 3 .byte] [(12,13)]],[jk 0 [wA 3 .byte] [(14,19)]],[jk 6 [wA 3 .byte] [(14,19)]],[],[]⟩ Ly (by kernel_rfl) YP.ok
theorem zzC:CT 413 (cA [lA, .v .byte] [lA] (λx=>zaa x.1 x.2)):=eC 23 pn func413 (jl [jk 0 [wA 5 .byte] [(7,7),(11,21)]] [jk 3 [wA 5 .byte,sA 11 gA] [(7,7),(12,21)]]) (u2 Lz) (by kernel_rfl) lR.ok
theorem zaD:CT 355 (cA [lA,lA] [lA] (λx=>some (TC x.1 x.2))):=eD 27 (FC MJ zxS znf zzC) func355 (jr [jq 1 13 6 12]) (u2 Ma) (by kernel_rfl) DS.ok
theorem zxJ:CT 410 (cA [lA,lA,gA] [lA] (u3 Ih)):=eR 23 (FC fC MJ HK zaD) func410 (jr [jq 1 14 7 13]) (by kernel_rfl)
theorem zyN:CT 354 (cA [lA,lA,gA] [lA] (u3 Eb)):=eR 39 (RB fC AC zxJ) func354 (jm [jk 0 [wA 7 .byte] [(8,8),(23,34)]] [jk 5 [wA 7 .byte,sA 8 gA] [(23,34)]] [jq 1 21 9 20]) (by kernel_rfl)
theorem zny:CT 271 (cA [lA,lA,lA] [lA] (u3 Ch)):=eR 46 (SA zyN) func271 (jm [jk 0 [wA 7 .byte] [(8,9),(30,44)]] [jk 5 [wA 7 .byte,sA 30 gA] [(8,9),(31,44)]] [jq 1 22 10 21]) (by kernel_rfl)
theorem DT:CT 107 (cA [gA,IB] [lA] (u2 Bq)):=eR 36 (IE KJ MJ zaw cP zg8) func107 (jr [jq 1 18 5 17]) (by kernel_rfl)
theorem zd9:CT 272 (cA [lA,lA] [lA] (u2 Ci)):=eR 15 (LB AC zaD) func272 a0 (by kernel_rfl)
theorem zzw:CT 178 (cE [lA,gA,lA,gA,gA,gA,lA] [IB,CA] (u7 Cj) [2,5,6,9,10]):=eR 61 (rP AC DT KJ zaw cP zg8 zny zd9) func178 (jr [(2,⟨[sA 43 CA],[(26,42)],[19,23,24]⟩)]) (by kernel_rfl)
theorem zzf:CT 105 (cE [NE,gA,lA,gA,lA] [NE,IB,gA] (u5 Ck) [1,4,7,10,11,14,15]):=eR 75 (RB zd3 zhg zzw) func105 (jr [jq 7 47 41 46]) (by kernel_rfl)
theorem c50:CT 50 (cE [qC,gA,lA] [qC,IB,gA] (u3 Bh) [1,3,6,8,11,14,17,20,21,24,25]):=eR 38 (RB aM iP zzf) func50 a0 (by kernel_rfl)
theorem zho:CT 106 (cA [lA,lA] [PG] (u2 Fc)):=eR 10 (SA AC) func106 a0 (by kernel_rfl)
theorem c52:CT 52 (cA [qC,IB] [PG] (u2 Bz)):=eR 13 (LB zho DT) func52 a0 (by kernel_rfl)
theorem oG:CT 11 (cA [wC,gA,lA] [wC,kI,kD,gA] (u3 Ec)):=eR 67 (UE fC c40 NT c50 AC c52) func11 ⟨[],[],[],[jq 2 29 17 28],[(11,[1000012])]⟩ (by kernel_rfl)
theorem c58:CT 58 (cA [IB] [lA] Ax):=eR 73 (RB KJ MJ HK) func58 a0 (by kernel_rfl)
theorem OT:CT 14 (cA [EB,EB,IB] [iV] (u3 Dm)):=eR 12 (SA c58) func14 a0 (by kernel_rfl)
theorem zm0:CT 109 (cA [gT] [gT] (λx=>tS x)):=eC 20 (SA AC) func109 (jl [jk 0 [wA 3 .bs] [(5,5),(9,18)]] [jk 3 [wA 3 .bs,sA 9 gA] [(5,5),(10,18)]]) Nq (by kernel_rfl) nU.ok
theorem zd1:CT 356 (cA [EE] [EE] (λx=>(λ(a0:Ai)=>kA a0) x)):=eC 31 (SA AC) func356 (jl [jk 0 [pA 3 .Paths [2]] [(5,5),(12,29)]] [jk 3 [sA 12 gA,pA 3 .Paths [2]] [(5,5),(13,29)]]) Ng (by kernel_rfl) RP.ok
theorem zax:CT 273 (cA [BD] [BD] (λx=>(λ(a0:Ah)=>kA a0) x)):=eC 20 (RB AC iP zd1) func273 a0 Of (by kernel_rfl) oU.ok
theorem zhf:CT 181 (cA [ME] [ME] (λx=>(λ(a0:Ao)=>kA a0) x)):=eC 25 (SA zax) func181 (jl [jk 0 [pA 3 .Tab [1]] [(5,5),(12,23)]] [jk 3 [sA 12 gA,pA 3 .Tab [1]] [(5,5),(13,23)]]) Qn (by kernel_rfl) za6.ok
theorem zhA:CT 182 (cA [zF] [zF] (λx=>(λ(a0:List Ak)=>kA a0) x)):=eC 6 pn func182 a0 Og (by kernel_rfl) TT.ok
theorem zmU:CT 108 (cA [PD] [PD] (λx=>(λ(a0:Ac)=>kA a0) x)):=eC 26 (FC AC zm0 zhf zhA) func108 a0 Oh (by kernel_rfl) UT.ok
theorem c55:CT 55 (cA [lF] [lF] (λx=>(λ(a0:List Al)=>kA a0) x)):=eC 26 (SA AC) func55 (jl [jk 0 [wA 3 .Wire] [(5,5),(9,24)]] [jk 3 [wA 3 .Wire,sA 9 gA] [(5,5),(10,24)]]) Nh (by kernel_rfl) JP.ok
theorem zyk:CT 183 (cA [PG] [PG] (λx=>(λ(a0:Ad)=>kA a0) x)):=eC 20 (SA AC) func183 a0 Ol (by kernel_rfl) mU.ok
theorem zyD:CT 110 (cA [kD] [kD] (λx=>(λ(a0:List Ad)=>kA a0) x)):=eC 20 (SA zyk) func110 (jl [jk 0 [wA 3 .Note] [(5,5),(9,18)]] [jk 3 [wA 3 .Note,sA 9 gA] [(5,5),(10,18)]]) Qo (by kernel_rfl) zaN.ok
theorem c53:CT 53 (cA [WD] [WD] (λx=>(λ(a0:Aa)=>kA a0) x)):=eC 48 (UE NT AC c55 zmU zm0 zyD) func53 (jl [jk 0 [pA 3 .World [1,2,3,4,7,8,9,11,12,13]] [(5,5),(23,34)]] [jk 3 [sA 23 gA,pA 3 .World [1,2,3,4,7,8,9,11,12,13]] [(5,5),(24,34)]]) Om (by kernel_rfl) gU.ok
theorem c56:CT 56 (cA [WD,EB] [gA] (λx=>pJ x.1 x.2)):=eC 24 (SA qP) func56 (jl [jk 0 [] [(4,4),(6,6),(13,23)]] [jk 4 [sA 13 gA] [(4,4),(6,6),(14,23)]]) (u2 Kd) (by kernel_rfl) GQ.ok
theorem zyH:CT 184 (cA [zF,EB,gA] [zF] (u3 Fe)):=eR 52 (IE fC mG c83 c84 zhA) func184 (jn [jk 1900551 [wA 7 .Credit] [(30,50)],jk 2883593 [wA 7 .Credit] [(45,50)]] [jq 2 23 11 22]) (by kernel_rfl)
theorem zmS:CT 192 (jD [.ptr [], .plain] [zbN,gA] [lA,zbN] (u2 Bl) [(false,1)] [0] false):=eR 26 (SA AC) func192 a0 (by kernel_rfl)
theorem zyY:CT 191 (jD [.ptr [], .plain] [zbN,gA] [gA,zbN] (u2 Ca) [(false,1)] [] false):=eR 18 (LB zmS zmI) func191 a0 (by kernel_rfl)
theorem znd:CT 113 (cN [lA] [IB,CA] Cb):=eR 70 (UE PI c58 KJ cP zyY zmS) func113 (jn [jk 589829 [pA 4 .bs [],pA 5 .Frame [2,3,5,6,9,10]] [(13,57)],jk 1114120 [pA 4 .bs [],pA 5 .Frame [2,3,5,6,9,10]] [(26,57)],jk 1835017 [pA 4 .bs [],pA 5 .Frame [2,3,5,6,9,10]] [(29,30)],jk 2686991 [pA 4 .bs [],pA 5 .Frame [2,3,5,6,9,10]] [(42,43)],jk 2883601 [pA 4 .bs [],pA 5 .Frame [2,3,5,6,9,10]] [(48,57)]] [jq 6 17 18 25,(21,⟨[sA 67 CA],[(58,66)],[1000005]⟩)]) (by kernel_rfl)
theorem zm9:CT 188 (cA [ME,EB] [CA] (u2 Dn)):=eR 25 pn func188 (jm [jk 0 [] [(4,4),(6,6),(10,24)]] [jk 2 [sA 10 gA] [(4,4),(6,6),(11,24)]] [jq 4 23 14 22]) (by kernel_rfl)
theorem znJ:CT 289 (cA [zF,EB] [gA] (u2 Bc)):=eR 28 (LB c83 c84) func289 (jr [jq 2 15 9 14]) (by kernel_rfl)
theorem zmR:CT 274 (cA [PD,EB,gA] [CA] (u3 Ed)):=eR 19 (LB zm9 znJ) func274 (jr [jq 1 6 7 18]) (by kernel_rfl)
theorem zzU:CT 357 (cA [lA,gA] [lA] (λx=>some (HE x.1 x.2))):=eD 22 (FC fC AC HK zaD) func357 (jr [jq 1 13 5 12]) (u2 Mb) (by kernel_rfl) uR.ok
theorem znl:CT 275 (cA [sK] [sK,lA] (λx=>VD x)):=eC 30 (RB c38 AC zzU) func275 (jr [jq 2 18 11 17]) Np (by kernel_rfl) fV.ok
theorem zyC:CT 358 (cA [lA,EB] [lA] (u2 Ik)):=eR 17 (RB mG AC HK) func358 a0 (by kernel_rfl)
theorem zhz:CT 277 (cA [EB,gA,lA,lA,gA] [lA] (u5 Ff)):=eR 46 (UE fC mG QI MJ HK zyC) func277 (jr [jq 1 33 11 32]) (by kernel_rfl)
theorem znt:CT 276 (cA [MO,EB,gA,lA,lA,gA] [lA] (u6 Gf)):=eR 32 (RB c85 zd9 zhz) func276 (jr [jq 2 27 20 26]) (by kernel_rfl)
theorem zm3:CT 278 (cA [lA] [PG] (λx=>OD x)):=eC 6 (SA AC) func278 a0 Ns (by kernel_rfl) lU.ok
theorem zyU:CT 185 (cE [PD,gA,EB,IB] [PD,wG,kD] (u4 Gg) [7,8]):=eR 82 (ZH AC zho zmR znl znt zhz zm3) func185 (jr [jq 1 33 16 32]) (by kernel_rfl)
theorem zy1:CT 359 (cA [gA,gA] [CA] (u2 De)):=eR 17 (SA fC) func359 (jr [jq 1 4 5 16]) (by kernel_rfl)
theorem zmG:CT 374 (cA [lA,lA] [gA] (u2 Bx)):=eR 31 pn func374 (jl [jk 0 [sA 5 gA] [(6,6),(14,29)]] [jk 5 [sA 5 gA,sA 14 gA] [(6,6),(15,29)]]) (by kernel_rfl)
theorem zhb:CT 360 (cA [lA,lA] [CA] (u2 Bn)):=eR 14 (SA zmG) func360 (jr [jq 1 4 5 13]) (by kernel_rfl)
theorem zza:CT 279 (cA [MO,gA,EB,IB] [gA] (u4 Il)):=eR 52 (ZH fC mG c85 KJ znt zy1 zhb) func279 (jr [jq 1 31 9 30]) (by kernel_rfl)
theorem zm4:CT 364 (cA [lA,lA] [lA] (u2 Cg)):=eR 8 (SA zaD) func364 a0 (by kernel_rfl)
theorem zxD:CT 414 (cA [lA,lA,gA] [lA,CA] (λx=>some (jH x.1 x.2.1 x.2.2))):=eD 48 (FC fC AC MJ zaD) func414 (jm [jk 0 [wA 8 .byte,wA 9 .byte] [(10,10),(26,43)]] [jk 6 [wA 8 .byte,wA 9 .byte,sA 10 gA] [(26,43)]] [jq 1 23 11 22]) (u3 Mn) (by kernel_rfl) tR.ok
theorem zd8:CT 363 (cA [lA, .v .str] [lA] (λx=>LE x.1 x.2)):=eC 15 (SA zxD) func363 a0 (u2 Nr) (by kernel_rfl) MU.ok
theorem zg9:CT 284 (cA [lA] [lA] Bj):=eR 11 (RB c87 zd8 zm4) func284 a0 (by kernel_rfl)
theorem zhC:CT 285 (cA [gA,lA,lA,gA,lA] [lA] (u5 Do)):=eR 44 (FC fC QI MJ HK) func285 (jr [jq 1 33 11 32]) (by kernel_rfl)
theorem zmX:CT 361 (cA [lA,gA,lA,lA,gA,lA] [lA] (u6 Ee)):=eR 34 (RB zd9 zg9 zhC) func361 (jr [jq 3 30 23 29]) (by kernel_rfl)
theorem zzi:CT 280 (cA [lA,IB] [CA] (u2 Im)):=eR 29 (RB KJ zhb zmX) func280 (jr [jq 1 4 5 28]) (by kernel_rfl)
theorem zya:CT 362 (cA [EB] [EE] Dh):=eR 5 pn func362 a0 (by kernel_rfl)
theorem zy5:CT 372 (cA [lA,lA,lA] [lA] (u3 In)):=eR 26 (FC c87 QI MJ zm4) func372 (jr [jq 1 19 7 18]) (by kernel_rfl)
theorem zyA:CT 371 (cA [lA] [lA] Df):=eR 8 (SA zd8) func371 a0 (by kernel_rfl)
theorem zy0:CT 373 (cA [lA,gA] [lA] (u2 Io)):=eR 20 (RB fC AC zd8) func373 (jl [jk 0 [wA 5 .byte] [(6,6),(12,18)]] [jk 5 [wA 5 .byte,sA 6 gA] [(12,18)]]) (by kernel_rfl)
theorem zm8:CT 293 (cA [lA,lA,lA,gA] [lA] (u4 Gh)):=eR 21 (RB zyA zy5 zy0) func293 a0 (by kernel_rfl)
theorem zzd:CT 416 (cA [] [yG] (λ_=>Jo)):=eR 3 pn func416 a0 (by kernel_rfl)
theorem zhF:CT 370 (cA [gA,lA] [NE] (u2 Cl)):=eR 19 (RB fC AC zzd) func370 (jr [jq 1 12 5 11]) (by kernel_rfl)
theorem znb:CT 292 (cA [gA,lA,lA] [qC] (u3 Ef)):=eR 27 (FC AC QI zaw zhF) func292 (jr [jq 1 19 7 18]) (by kernel_rfl)
theorem zyJ:CT 281 (cA [lA,gA,EB,IB] [BD] (u4 Dp)):=eR 59 (rP fC mG AC c87 KJ znb zm8 zya) func281 (jr [jq 1 32 10 31]) (by kernel_rfl)
theorem zx5:CT 282 (cA [ME,BD] [ME,gA] (u2 Bk)):=eR 51 (UE vN c86 zmK zd2 zhf zax) func282 (jr [jq 2 9 10 21,jq 6 30 31 41]) (by kernel_rfl)
theorem zhd:CT 283 (cA [lA,lA,lA] [PG] (u3 Eg)):=eR 14 (SA AC) func283 a0 (by kernel_rfl)
theorem zmO:CT 343 (cA [gA] [lA] Bp):=eR 8 (LB fC HK) func343 a0 (by kernel_rfl)
theorem znF:CT 365 (cE [qC] [qC,IB,gA] Eh [1,3,6,8,11,14,17,20,21,24,25]):=eR 25 (FC c50 aM iP zmO) func365 (jr [jq 1 12 5 11]) (by kernel_rfl)
theorem zxC:CT 286 (cA [BD] [BD,wG,kD] Dq):=eR 49 (FC c52 zd2 zax znF) func286 ⟨[],[],[],[jq 2 24 11 23],[(8,[1000007])]⟩ (by kernel_rfl)
theorem zmY:CT 287 (cA [ME,gA,BD] [ME,CA] (u3 Bo)):=eR 38 (RB c86 zhf zax) func287 (jr [jq 2 24 11 23]) (by kernel_rfl)
theorem zzt:CT 186 (cE [PD,gA,EB,IB] [PD,wG,kD] (u4 Gi) [7,8]):=eR 181 (nG vN PI AC zhz zza zzi zyJ zx5 (IE zhd zg9 zhC zxC zmY)) func186 (jn [jk 3604486 [wA 11 .Note,pA 8 .Server [0,1,2,5,6],pA 4 .Server []] [(9,10),(12,15),(56,130)]] [jq 1 47 21 46,jq 14 158 142 157]) (by kernel_rfl)
theorem zzu:CT 436 (cA [yG,gA] [CA] (u2 Cs)):=eR 31 (RB fC zmy zmN) func436 (jr [jq 1 12 5 11,jq 3 4 13 30]) (by kernel_rfl)
theorem zyy:CT 417 (cA [yG,gA] [yG,CA] (u2 Ct)):=eR 57 (LB zmT zzu) func417 (jl [jk 0 [pA 6 .Win [1]] [(7,7),(22,38)]] [jk 5 [sA 7 gA,pA 6 .Win [1]] [(22,38)]]) (by kernel_rfl)
theorem zxG:CT 418 (cA [lA,gA,IB] [lA,CA] (u3 Fg)):=eR 41 (IE DT zg8 zny zd9 zhb) func418 (jr [(2,⟨[sA 28 CA],[(12,27)],[8]⟩)]) (by kernel_rfl)
theorem zx9:CT 375 (cA [NE,gA,IB] [NE,lA,gA] (u3 Dr)):=eR 59 (IE DT zd3 zhg zyy zxG) func375 (jr [jq 2 31 15 30]) (by kernel_rfl)
theorem znc:CT 294 (cE [qC,gA,IB] [qC,lA,gA] (u3 Ba) [1,14,15]):=eR 157 (rP fC aM iP KJ cP zhF zmG zx9) func294 (jn [jk 6684686 [pA 13 .Ep []] [(103,104)],jk 6881296 [pA 13 .Ep []] [(106,112)],(8978455,⟨[pA 9 .Chan [1,14]],[(127,136),(139,154)],[1000014]⟩),jk 9633817 [pA 9 .Chan [1,8,11,14]] [(148,150)],jk 9895963 [pA 9 .Chan [1,14]] [(127,136),(153,154)]] [jq 2 37 19 36,jq 5 11 45 54,jq 6 12 55 67,jq 7 85 68 84,jq 9 98 87 97,jq 23 147 141 146]) (by kernel_rfl)
theorem znD:CT 295 (cA [qC,gA] [lA,CA] (u2 Gj)):=eR 50 (LB AC aM) func295 (jr [jq 3 10 11 19,jq 7 34 35 46]) (by kernel_rfl)
theorem zyZ:CT 366 (cA [EE,gA,EB,lA] [EE,CA] (u4 Ei)):=eR 65 (IE fC c35 PI zhx zd1) func366 (jr [jq 3 49 17 48]) (by kernel_rfl)
theorem zy4:CT 435 (cA [qC] [qC,CA] Fh):=eR 38 (FC aM iP zd8 zhF) func435 (jr [jq 2 20 7 19]) (by kernel_rfl)
theorem zyo:CT 415 (cA [qC,gA,lA] [qC,gA] (u3 Fi)):=eR 58 (UE fC PI aM iP zmO zy4) func415 (jr [jq 2 33 13 32,jq 7 55 47 54]) (by kernel_rfl)
theorem zx4:CT 367 (cE [BD,gA,lA] [BD,wG,kD] (u3 Gk) [24,25]):=eR 75 (FC AC c52 znF zyo) func367 ⟨[(2162695,⟨[wA 11 .Note],[(34,47)],[1000009]⟩)],[],[],[],[(12,[1000013])]⟩ (by kernel_rfl)
theorem zyR:CT 404 (cA [EE,gA] [EE] (u2 Cu)):=eR 31 (SA zd1) func404 ⟨[jk 1441799 [pA 5 .Paths [2]] [(23,28)]],[jk 0 [pA 5 .Paths [2]] [(7,7),(15,29)]],[jk 3 [sA 15 gA,pA 5 .Paths [2]] [(7,7),(16,29)]],[],[]⟩ (by kernel_rfl)
theorem zz1:CT 368 (cA [EE,gA,EB,lA] [EE,CA] (u4 Cv)):=eR 64 (rP fC mG c35 AC QI zhx zd1 zyR) func368 (jr [jq 1 34 11 33,jq 4 49 40 48]) (by kernel_rfl)
theorem zyE:CT 288 (cE [BD,gA,EB,IB,lA] [BD,wG,kD,CA] (u5 Cc) [24,25]):=eR 180 (nG mG c50 AC c52 DT zd2 zax zhd (IE znc znD zyZ zx4 zz1)) func288 (jn [(5242894,⟨[wA 20 .Note,wA 21 .Out,pA 14 .Sess []],[(22,26),(82,136)],[16]⟩),jk 6225936 [wA 20 .Note,wA 21 .Out,pA 14 .Sess []] [(22,26),(97,136)],(6946834,⟨[wA 20 .Note,pA 14 .Sess [1,2,4,17]],[(107,118)],[1000022]⟩),jk 7798805 [wA 20 .Note,wA 21 .Out,pA 14 .Sess []] [(24,26),(121,136)]] [jq 2 44 33 43,jq 26 159 154 158]) (by kernel_rfl)
theorem zzW:CT 187 (cE [PD,gA,EB,IB] [PD,wG,kD] (u4 Cw) [7,8]):=eR 93 (ZH vN AC zmR znl zm3 zmY zyE) func187 (jn [jk 2949127 [wA 13 .byte] [],(4653067,⟨[wA 16 .Note,pA 4 .Server [5]],[(18,18),(72,89)],[1000012]⟩)] [jq 2 34 24 33]) (by kernel_rfl)
theorem zxB:CT 190 (cA [IB] [gA] Cy):=eR 6 (SA c58) func190 a0 (by kernel_rfl)
theorem zzS:CT 189 (cA [zF,EB,gA] [zF,CA] (u3 Cz)):=eR 41 (IE fC c83 c84 zhA znJ) func189 (jr [jq 3 29 15 28]) (by kernel_rfl)
theorem zxM:CT 111 (cE [PD,gA,EB,lA] [PD,wG,kD] (u4 Cd) [7,8]):=eR 129 (nG fC mG c37 zmU znd cP zyH zyU (IE zzt zzW zm9 zzS zxB)) func111 ⟨[jk 3342346 [wA 14 .Out,wA 15 .Note,pA 11 .Server []] [(54,92)],jk 3538955 [wA 14 .Out,wA 15 .Note,pA 11 .Server []] [(58,92)],jk 4390925 [wA 14 .Out,wA 15 .Note,pA 11 .Server []] [(71,92)],jk 5242895 [wA 14 .Out,wA 15 .Note,pA 11 .Server []] [(84,92)],jk 6881301 [pA 11 .Server []] [(19,20),(106,120)]],[jk 1 [wA 16 .Out,pA 11 .Server []] [(18,20),(96,125)],jk 2 [wA 16 .Out,pA 11 .Server []] [(18,20),(98,124)]],[jk 17 [wA 16 .Out,sA 96 gA,pA 11 .Server []] [(18,20),(97,125)]],[jq 2 35 23 34],[]⟩ (by kernel_rfl)
theorem zxA:CT 112 (cA [wG] [lF] Bs):=eR 24 (LB OT qP) func112 (jl [jk 0 [wA 3 .Wire] [(5,5),(9,22)]] [jk 3 [wA 3 .Wire,sA 9 gA] [(5,5),(10,22)]]) (by kernel_rfl)
theorem zyt:CT 291 (cA [lA,gA,IB] [IB,CA] (u3 Fj)):=eR 47 (RB AC KJ zmX) func291 (jr [jq 1 16 9 15]) (by kernel_rfl)
theorem zxL:CT 242 (cA [gA] [oO] Bi):=eR 10 (SA fC) func242 a0 (by kernel_rfl)
theorem zx2:CT 193 (cA [wC,gA,IB] [wC,kI,kD] (u3 Jp)):=eR 77 (nG NT AC znC zho zxL zg9 zhC zyt (LB znb zm8)) func193 a0 (by kernel_rfl)
theorem zxV:CT 194 (cE [wC,gA,IB] [wC,kI,kD] (u3 Ip) [1,5,8,9,11,12,15,16,41,42]):=eR 152 (rP NT c50 AC c52 DT zhd znc znD) func194 ⟨[(3538954,⟨[wA 15 .Note,pA 9 .Client [1,5,8,9,11,12,15,16]],[(55,76)],[1000010]⟩),jk 5505037 [wA 15 .Note,pA 9 .Client [1,5,8,9,11,12,15,16]] [(85,100)],(6750224,⟨[wA 15 .Note],[(104,116)],[11]⟩)],[],[],[],[(23,[1000017])]⟩ (by kernel_rfl)
theorem zyP:CT 114 (cE [wC,gA,IB] [wC,kI,kD] (u3 Ej) [1,5,8,9,11,12,15,16,41,42]):=eR 68 (rP fC c40 PI NT KJ cP zx2 zxV) func114 (jr [jq 1 21 9 20,jq 3 38 24 37,jq 5 58 46 57]) (by kernel_rfl)
theorem c75:CT 75 (cA [wC,kI] [lF] (u2 Br)):=eR 25 (LB OT qP) func75 (jl [jk 0 [wA 5 .Wire] [(7,7),(11,23)]] [jk 3 [wA 5 .Wire,sA 11 gA] [(7,7),(12,23)]]) (by kernel_rfl)
theorem c57:CT 57 (cE [WD,gA,EB,lA] [WD,lF] (u4 Be) [1,9,11,12,13,14]):=eR 95 (nG c9 fC mG c53 c75 zxM zxA znd (SA zyP)) func57 (jr [jq 2 33 21 32]) (by kernel_rfl)
theorem c77:CT 77 (cA [lF,iV] [lF] (u2 Iu)):=eR 19 (LB c39 c55) func77 a0 (by kernel_rfl)
theorem c26:CT 26 (cA [WD,lF] [WD] (u2 Bg)):=eR 23 (LB c53 c77) func26 (jl [jk 0 [pA 5 .World [1,2,3,4,7,8,9,11,12,13]] [(7,7),(12,21)]] [jk 3 [sA 12 gA,pA 5 .World [1,2,3,4,7,8,9,11,12,13]] [(7,7),(13,21)]]) (by kernel_rfl)
theorem c13:CT 13 (cA [WD,lF] [WD] (u2 Gt)):=eR 74 (ZH c9 c26 c53 c54 c55 c56 c57) func13 (jm [jk 0 [pA 4 .World [1,2,3,4,7,8,9,11,12,13]] [(7,7),(21,29)],jk 2 [wA 8 .Wire,pA 5 .World [1,2,3,4,7,8,9,11,12,13]] [(9,12),(32,72)],jk 3 [wA 8 .Wire,pA 5 .World [1,2,3,4,7,8,9,11,12,13]] [(10,12),(42,72)]] [jk 5 [sA 21 gA,pA 4 .World [1,2,3,4,7,8,9,11,12,13]] [(7,7),(22,29)],jk 12 [wA 8 .Wire,sA 9 gA,pA 5 .World [1,2,3,4,7,8,9,11,12,13]] [(10,12),(32,72)]] [jq 12 39 32 38]) (by kernel_rfl)
theorem c17:CT 17 (cA [lA,lA] [CA] (u2 Gu)):=eR 10 pn func17 a0 (by kernel_rfl)
theorem c3:CT 3 (cA [lA] [CA] (λx=>some ((λ(a0:List UInt8)=>zl0 a0) x))):=eD 209 (nG c5 c6 c7 c8 c9 ZF oG MT (UE c13 OT qP vN c17 c18)) func3 (jm [jk 0 [sA 15 CA,sA 16 CA] [(17,17),(108,178)]] [jk 22 [sA 15 CA,sA 16 CA,sA 17 gA] [(108,178)]] [(6,⟨[sA 43 CA],[(33,42)],[1000003]⟩),jq 15 88 82 87,jq 24 15 115 146,jq 25 16 147 178,(26,⟨[sA 2 CA],[(179,208)],[1000013]⟩)]) Ni (by kernel_rfl) ZQ.ok
end Go.D

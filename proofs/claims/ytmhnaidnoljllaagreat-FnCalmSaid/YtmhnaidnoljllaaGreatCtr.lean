/-
 The functions of the program: each computes what is said of it.
-/
import Derived.Test.YtmhnaidnoljllaaGreatN14
import Derived.Test.YtmhnaidnoljllaaGreatN11
import Derived.Test.YtmhnaidnoljllaaGreatProg
import Derived.KernelRfl
set_option linter.all false
namespace Go.D
open Go.Proofs
open Tryz
def tnT:TypeId→Option TN:=λt=>EC t [(3, .int),(5, .byte),(22, .bs),(55, .Frame),(66, .Client),(70, .Note),(94, .Sess),(96, .Wire),(107, .Event),(131, .Credit),(147, .Op),(207, .Out),(237, .Cand)]
theorem zjm:Tryz.prog.follows .mixedOrders=true:=by kernel_rfl
def TL:List (TypeId×TN):=[(3, .int),(5, .byte),(22, .bs),(55, .Frame),(66, .Client),(70, .Note),(94, .Sess),(96, .Wire),(107, .Event),(131, .Credit),(147, .Op),(207, .Out),(237, .Cand)]
theorem zlf:zc4 prog TL=true:=by kernel_rfl
variable [eV TL]
def a0:An:=⟨[],[],[],[],[]⟩
abbrev u2{A B R:Type}(f:A→B→R):A×B→R:=λx=>f x.1 x.2
abbrev u3{A B C R:Type}(f:A→B→C→R):A×B×C→R:=λx=>f x.1 x.2.1 x.2.2
abbrev u4{A B C D R:Type}(f:A→B→C→D→R):A×B×C×D→R:=λx=>f x.1 x.2.1 x.2.2.1 x.2.2.2
abbrev u5{A B C D E R:Type}(f:A→B→C→D→E→R):A×B×C×D×E→R:=λx=>f x.1 x.2.1 x.2.2.1 x.2.2.2.1 x.2.2.2.2
abbrev u6{A B C D E F R:Type}(f:A→B→C→D→E→F→R):A×B×C×D×E×F→R:=λx=>f x.1 x.2.1 x.2.2.1 x.2.2.2.1 x.2.2.2.2.1 x.2.2.2.2.2
abbrev u7{A B C D E F G R:Type}(f:A→B→C→D→E→F→G→R):A×B×C×D×E×F×G→R:=λx=>f x.1 x.2.1 x.2.2.1 x.2.2.2.1 x.2.2.2.2.1 x.2.2.2.2.2.1 x.2.2.2.2.2.2
abbrev u8{A B C D E F G H R:Type}(f:A→B→C→D→E→F→G→H→R):A×B×C×D×E×F×G×H→R:=λx=>f x.1 x.2.1 x.2.2.1 x.2.2.2.1 x.2.2.2.2.1 x.2.2.2.2.2.1 x.2.2.2.2.2.2.1 x.2.2.2.2.2.2.2
def Ph:List (Nat×WA)→Prop
 | []=>True
 | (g,ci) :: l=>pB prog g ci∧Ph l
theorem pn:Ph []:=trivial
theorem ph{n:Nat}:∀(l:List (Nat×WA)),(l.all λp=>Nat.blt p.1 1048576)=true→Ph l→XF ⟨prog,λt=>EC t TL,λf=>YF f l,n,tL⟩
 | [],_,_=>zt4
 | (g,ci) :: l,h,k=>by
  simp only[List.all_cons,Bool.and_eq_true]at h;have hg:g % 1048576=g:=Nat.mod_eq_of_lt (by simpa[Nat.blt_eq]using h.1);exact zsl (by rw[hg];exact k.1) (ph l h.2 k.2)
def xV (n m : Nat) (l : List (Nat × WA)) (fn : Func) (ks : List jB) (ats : List Ty) : Bool := (l.all λp => Nat.blt p.1 1048576) && (fn.body.isSome && !(fn.name == "runtime.NumGoroutine") && Nat.beq n fn.ntmps && tC ks ats && Nat.ble m fn.ntmps)
theorem eC{f:Nat}{fn:Func}{ks:List jB}{ats rts:List Ty}{F:aB ats→Option (aB rts)}{sh:List (Bool×Nat)}{own:List Nat}(n:Nat){l:List (Nat×WA)}
  (hp:Ph l) (hf:prog.funcs[f]?=some fn) (an:An) (Raw:aB ats→Option (aB rts))
  (he:(xV n ks.length l fn ks ats,λx=>fV ⟨prog,λt=>EC t TL,λf=>YF f l,n,tL⟩ fn (fn.body.getD .skip) an ks own sh rts (bB ats x))=(true,Raw))
  (fX:∀{x},xA ats x→∀{r},F x=some r→Raw x=some r):pB prog f (aD ks ats rts F sh own false):=by
 obtain⟨h0,h1⟩:=Prod.mk.inj he;obtain⟨ha,hb⟩:=Bool.and_eq_true_iff.1 h0;exact evC n zjm zlf (ph l ha hp) hf an Raw hb (λx=>congrFun h1 x) λ_ _ hb h=>fX hb h
theorem eR{f:Nat}{fn:Func}{ks:List jB}{ats rts:List Ty}{F:aB ats→Option (aB rts)}{sh:List (Bool×Nat)}{own:List Nat}(n:Nat){l:List (Nat×WA)}
  (hp:Ph l) (hf:prog.funcs[f]?=some fn) (an:An)
  (he:(xV n ks.length l fn ks ats,λx=>fV ⟨prog,λt=>EC t TL,λf=>YF f l,n,tL⟩ fn (fn.body.getD .skip) an ks own sh rts (bB ats x))=(true,F)):
  pB prog f (aD ks ats rts F sh own false):=eC n hp hf an F he λ_ _ h=>h
theorem eP{f:Nat}{fn:Func}{m:Nat}{ats rts:List Ty}{F:aB ats→Option (aB rts)}{sh:List (Bool×Nat)}(n:Nat){l:List (Nat×WA)}
  (hp:Ph l) (hf:prog.funcs[f]?=some fn) (an:An) (Raw:aB ats→Option (aB rts))
  (he:(xV n m l fn (OD m) ats,λx=>zc2 ⟨prog,λt=>EC t TL,λf=>YF f l,n,tL⟩ fn (fn.body.getD .skip) an (OD m) rts (bB ats x))=(true,Raw))
  (fX:∀{x},xA ats x→∀{r},F x=some r→Raw x=some r):pB prog f (aD (OD m) ats rts F sh [] true):=by
 obtain⟨h0,h1⟩:=Prod.mk.inj he;obtain⟨ha,hb⟩:=Bool.and_eq_true_iff.1 h0;exact evP n zjm zlf (ph l ha hp) hf an Raw hb (λx=>congrFun h1 x) λ_ _ hb h=>fX hb h
theorem eQ{f:Nat}{fn:Func}{m:Nat}{ats rts:List Ty}{F:aB ats→Option (aB rts)}{sh:List (Bool×Nat)}(n:Nat){l:List (Nat×WA)}
  (hp:Ph l) (hf:prog.funcs[f]?=some fn) (an:An)
  (he:(xV n m l fn (OD m) ats,λx=>zc2 ⟨prog,λt=>EC t TL,λf=>YF f l,n,tL⟩ fn (fn.body.getD .skip) an (OD m) rts (bB ats x))=(true,F)):
  pB prog f (aD (OD m) ats rts F sh [] true):=eP n hp hf an F he λ_ _ h=>h
theorem eD{f:Nat}{fn:Func}{ks:List jB}{ats rts:List Ty}{G:aB ats→aB rts}{sh:List (Bool×Nat)}{own:List Nat}(n:Nat){l:List (Nat×WA)}
  (hp:Ph l) (hf:prog.funcs[f]?=some fn) (an:An) (Raw:aB ats→Option (aB rts))
  (he:(xV n ks.length l fn ks ats,λx=>fV ⟨prog,λt=>EC t TL,λf=>YF f l,n,tL⟩ fn (fn.body.getD .skip) an ks own sh rts (bB ats x))=(true,Raw))
  (fX:∀{x},xA ats x→Raw x=some (G x)):pB prog f (aD ks ats rts (λx=>some (G x)) sh own false):=eC n hp hf an Raw he λhb _ h=>(fX hb).trans h
abbrev kA:Ty:= .sl .byte
abbrev CA:Ty:= .v .bool
abbrev RD:Ty:= .cells .Cur
abbrev fA:Ty:= .v .int
abbrev aK:Ty:= .v .Dice
abbrev ME:Ty:= .sl .int
abbrev oO:Ty:= .v .Jar
abbrev pE:Ty:= .v .Tab
abbrev BE:Ty:= .v .Ep
abbrev bC:Ty:= .v .Chan
abbrev HB:Ty:= .v .Addr
abbrev iG:Ty:= .v .Win
abbrev dE:Ty:= .v .Paths
abbrev fD:Ty:= .v .Sess
abbrev cG:Ty:= .sl .Credit
abbrev vD:Ty:= .v .Server
abbrev yS:Ty:= .sl .bs
abbrev pC:Ty:= .v .Client
abbrev vG:Ty:= .v .Note
abbrev KD:Ty:= .v .World
abbrev YE:Ty:= .sl .Wire
abbrev TC:Ty:= .sl .Note
abbrev xB:Ty:= .v .Frame
abbrev PJ:Ty:= .v .Timer
abbrev pH:Ty:= .sl .Frame
abbrev zbK:Ty:= .v .Wire
abbrev OG:Ty:= .cells .World
abbrev fG:Ty:= .sl .Out
abbrev zU:Ty:= .v .Hash
abbrev za5:Ty:= .cells .bs
def tnS:TN→Nat×List Nat
 | .Addr=>(2,[])
 | .Cand=>(4,[2])
 | .Chan=>(15,[1,3,6,8,11,14])
 | .Client=>(41,[1,5,8,9,11,12,15,16,18,20,23,25,28,31])
 | .Dice=>(2,[0])
 | .Ep=>(5,[1,4])
 | .Frame=>(11,[2,3,5,6,9,10])
 | .Hash=>(3,[0,1])
 | .Jar=>(1,[0])
 | .Note=>(12,[3,4,7,8])
 | .Paths=>(3,[2])
 | .Server=>(7,[0,1,2,5,6])
 | .Sess=>(24,[1,2,4,6,9,11,14,17,20])
 | .Tab=>(2,[1])
 | .Timer=>(4,[])
 | .Win=>(2,[1])
 | .Wire=>(5,[4])
 | .World=>(14,[1,2,3,4,7,8,9,11,12,13])
 | _=>(0,[])
def tyS:Ty→Bool×Nat
 | .v n=>match(tnS n).1 with
  | 0=>(false,1)
  | k=>(true,k)
 | _=>(false,1)
def tyO:Nat→List Ty→List Nat
 | _,[]=>[]
 | p, .v n :: l=>(tnS n).2.map (λi=>p+i)++tyO (p+(tyS (.v n)).2) l
 | p,_ :: l=>p :: tyO (p+1) l
abbrev iA(n:Nat)(c:WA):=pB prog n c
abbrev cA(a r:List Ty)(F:aB a→Option (aB r)):=aD (OD a.length) a r F (r.map tyS) (tyO 0 r) false
abbrev cN(a r:List Ty)(F:aB a→Option (aB r)):=aD (OD a.length) a r F (r.map tyS) [] false
abbrev cE(a r:List Ty)(F:aB a→Option (aB r))(o:List Nat):=aD (OD a.length) a r F (r.map tyS) o false
abbrev uA:=VB.slot
abbrev pA:=VB.box
abbrev vA:=VB.own
def jj(a:List VB)(b:List (Nat×Nat)):JI:=⟨a,b,[]⟩
def jk(n:Nat)(a:List VB)(b:List (Nat×Nat)):Nat×JI:=(n,⟨a,b,[]⟩)
def jq(n s a b:Nat):Nat×JI:=(n,⟨[.slot s (.v .bool)],[(a,b)],[]⟩)
def jr(r:List (Nat×JI)):An:=⟨[],[],[],r,[]⟩
def jl(b l:List (Nat×JI)):An:=⟨[],b,l,[],[]⟩
def jc(c:List (Nat×JI)):An:=⟨c,[],[],[],[]⟩
def jm(b l r:List (Nat×JI)):An:=⟨[],b,l,r,[]⟩
def jn(c r:List (Nat×JI)):An:=⟨c,[],[],r,[]⟩
theorem PA{g0:Nat}{k0:WA}(h0:pB prog g0 k0):Ph [(g0,k0)]:=⟨h0,trivial⟩
theorem CB{g0:Nat}{k0:WA}{g1:Nat}{k1:WA}(h0:pB prog g0 k0)(h1:pB prog g1 k1):Ph [(g0,k0),(g1,k1)]:=⟨h0,h1,trivial⟩
theorem MB{g0:Nat}{k0:WA}{g1:Nat}{k1:WA}{g2:Nat}{k2:WA}(h0:pB prog g0 k0)(h1:pB prog g1 k1)(h2:pB prog g2 k2):Ph [(g0,k0),(g1,k1),(g2,k2)]:=⟨h0,h1,h2,trivial⟩
theorem xC{g0:Nat}{k0:WA}{g1:Nat}{k1:WA}{g2:Nat}{k2:WA}{g3:Nat}{k3:WA}(h0:pB prog g0 k0)(h1:pB prog g1 k1)(h2:pB prog g2 k2)(h3:pB prog g3 k3):Ph [(g0,k0),(g1,k1),(g2,k2),(g3,k3)]:=⟨h0,h1,h2,h3,trivial⟩
theorem bE{g0:Nat}{k0:WA}{g1:Nat}{k1:WA}{g2:Nat}{k2:WA}{g3:Nat}{k3:WA}{g4:Nat}{k4:WA}(h0:pB prog g0 k0)(h1:pB prog g1 k1)(h2:pB prog g2 k2)(h3:pB prog g3 k3)(h4:pB prog g4 k4):Ph [(g0,k0),(g1,k1),(g2,k2),(g3,k3),(g4,k4)]:=⟨h0,h1,h2,h3,h4,trivial⟩
theorem XE{g0:Nat}{k0:WA}{g1:Nat}{k1:WA}{g2:Nat}{k2:WA}{g3:Nat}{k3:WA}{g4:Nat}{k4:WA}{g5:Nat}{k5:WA}(h0:pB prog g0 k0)(h1:pB prog g1 k1)(h2:pB prog g2 k2)(h3:pB prog g3 k3)(h4:pB prog g4 k4)(h5:pB prog g5 k5):Ph [(g0,k0),(g1,k1),(g2,k2),(g3,k3),(g4,k4),(g5,k5)]:=⟨h0,h1,h2,h3,h4,h5,trivial⟩
theorem oJ{g0:Nat}{k0:WA}{g1:Nat}{k1:WA}{g2:Nat}{k2:WA}{g3:Nat}{k3:WA}{g4:Nat}{k4:WA}{g5:Nat}{k5:WA}{g6:Nat}{k6:WA}(h0:pB prog g0 k0)(h1:pB prog g1 k1)(h2:pB prog g2 k2)(h3:pB prog g3 k3)(h4:pB prog g4 k4)(h5:pB prog g5 k5)(h6:pB prog g6 k6):Ph [(g0,k0),(g1,k1),(g2,k2),(g3,k3),(g4,k4),(g5,k5),(g6,k6)]:=⟨h0,h1,h2,h3,h4,h5,h6,trivial⟩
theorem QM{g0:Nat}{k0:WA}{g1:Nat}{k1:WA}{g2:Nat}{k2:WA}{g3:Nat}{k3:WA}{g4:Nat}{k4:WA}{g5:Nat}{k5:WA}{g6:Nat}{k6:WA}{g7:Nat}{k7:WA}(h0:pB prog g0 k0)(h1:pB prog g1 k1)(h2:pB prog g2 k2)(h3:pB prog g3 k3)(h4:pB prog g4 k4)(h5:pB prog g5 k5)(h6:pB prog g6 k6)(h7:pB prog g7 k7):Ph [(g0,k0),(g1,k1),(g2,k2),(g3,k3),(g4,k4),(g5,k5),(g6,k6),(g7,k7)]:=⟨h0,h1,h2,h3,h4,h5,h6,h7,trivial⟩
theorem ZF{g0:Nat}{k0:WA}{g1:Nat}{k1:WA}{g2:Nat}{k2:WA}{g3:Nat}{k3:WA}{g4:Nat}{k4:WA}{g5:Nat}{k5:WA}{g6:Nat}{k6:WA}{g7:Nat}{k7:WA}{l:List (Nat×WA)}(h0:pB prog g0 k0)(h1:pB prog g1 k1)(h2:pB prog g2 k2)(h3:pB prog g3 k3)(h4:pB prog g4 k4)(h5:pB prog g5 k5)(h6:pB prog g6 k6)(h7:pB prog g7 k7)(h:Ph l):Ph ((g0,k0) :: (g1,k1) :: (g2,k2) :: (g3,k3) :: (g4,k4) :: (g5,k5) :: (g6,k6) :: (g7,k7) :: l):=⟨h0,h1,h2,h3,h4,h5,h6,h7,h⟩
theorem c4:iA 4 (cA [kA] [CA] (λx=>some (XS x))):=eD 6 pn func4 a0 Pz (by kernel_rfl) zbX.ok
theorem c9:iA 9 (aD (OD 1) [kA] [RD] Jk [(false,1)] [] true):=eQ 32 pn func9 (jm [jk 0 [uA 3 fA] [(4,4),(8,27)]] [jk 3 [uA 3 fA,uA 4 fA] [(8,27)]] [jq 3 15 8 14]) (by kernel_rfl)
theorem LG:iA 11 (cA [kA,fA] [fA] (u2 Jc)):=eR 15 pn func11 a0 (by kernel_rfl)
theorem c78:iA 78 (aD [.ptr []] [RD] [fA,RD] Dx [(false,1)] [] false):=eR 58 pn func78 (jc [jk 2228229 [uA 3 fA,pA 0 .Cur []] [(35,56)]]) (by kernel_rfl)
theorem PM:iA 47 (aD [.ptr [], .plain] [RD,fA] [fA,RD] (u2 Ay) [(false,1)] [] false):=eR 31 (PA c78) func47 a0 (by kernel_rfl)
theorem c22:iA 22 (aD [.ptr [], .plain] [RD,fA] [CA,RD] (u2 Cp) [(false,1)] [] false):=eR 9 (PA PM) func22 a0 (by kernel_rfl)
theorem c72:iA 72 (aD [.ptr [], .plain] [RD,fA] [kA,RD] (u2 Bn) [(false,1)] [0] false):=eR 20 (PA c78) func72 (jl [jk 0 [vA 5 .byte,pA 0 .Cur []] [(6,6),(8,18)]] [jk 3 [vA 5 .byte,uA 6 fA,pA 0 .Cur []] [(8,18)]]) (by kernel_rfl)
theorem c74:iA 74 (cA [aK] [aK] (λx=>SJ x)):=eC 10 pn func74 a0 Nl (by kernel_rfl) LT.ok
theorem sB:iA 83 (cA [fA,fA,fA] [CA] (λx=>some (eA x.1 x.2.1 x.2.2))):=eD 15 pn func83 (jr [jq 1 6 7 14]) (u3 Oe) (by kernel_rfl) zbG.ok
theorem zgw:iA 137 (cA [aK] [CA] (λx=>some (YB x))):=eD 12 (PA sB) func137 (jr [jq 1 2 3 11]) Pi (by kernel_rfl) zaH.ok
theorem iJ:iA 135 (cA [kA,fA,fA] [kA] (λx=>JB x.1 x.2.1 x.2.2)):=eC 35 pn func135 (jm [jk 0 [vA 7 .byte] [(8,8),(21,33)]] [jk 5 [vA 7 .byte,uA 8 fA] [(21,33)]] [jq 2 17 12 16]) (u3 Pw) (by kernel_rfl) zbp.ok
theorem zwq:iA 278 (cA [fA] [kA] (λx=>JM x)):=eC 27 (PA iJ) func278 (jm [jk 0 [vA 3 .byte] [(12,21)]] [jk 4 [vA 3 .byte] [(12,21)]] [jq 1 9 4 8]) Lv (by kernel_rfl) kS.ok
theorem zw1:iA 279 (cA [] [ME] (λ_=>some (rE))):=eD 2 pn func279 a0 (λ_=>Px) (by kernel_rfl) zbg.ok
theorem zvX:iA 329 (cA [ME] [CA] (λx=>some (zcL x))):=eD 19 (PA sB) func329 (jl [jk 0 [] [(2,15)]] [jk 2 [uA 3 fA] [(2,2),(4,15)]]) Lw (by kernel_rfl) lQ.ok
theorem zxp:iA 330 (cA [] [ME] (λ_=>some (nI))):=eD 2 pn func330 a0 (λ_=>Py) (by kernel_rfl) zb1.ok
theorem zlT:iA 272 (cA [kA,fA,fA] [fA,fA,CA] (λx=>YG x.1 x.2.1 x.2.2)):=eC 48 pn func272 (jm [jk 0 [uA 9 fA] [(10,10),(29,43)]] [jk 5 [uA 9 fA,uA 10 fA] [(29,43)]] [jq 1 28 11 27]) (u3 Lx) (by kernel_rfl) NR.ok
theorem zl4:iA 332 (cA [fA,fA] [fA] (λx=>WD x.1 x.2)):=eC 24 pn func332 (jr [jq 2 13 8 12]) (u2 Ly) (by kernel_rfl) qS.ok
theorem zxJ:iA 331 (cA [kA] [ME] (λx=>XL x)):=eC 84 (CB zlT zl4) func331 (jl [jk 0 [vA 3 .int] [(4,7),(18,33)],jk 2 [vA 3 .int] [(8,12),(34,82)]] [jk 5 [vA 3 .int,uA 4 fA] [(5,7),(18,33)],jk 10 [vA 3 .int,uA 8 fA] [(9,12),(34,82)]]) Lz (by kernel_rfl) DP.ok
theorem zw6:iA 280 (cA [ME,kA] [ME] (λx=>OK x.1 x.2)):=eC 156 (xC zvX zxp zxJ zl4) func280 (jm [jk 0 [uA 8 fA,uA 9 fA,uA 10 fA,uA 11 fA,uA 12 fA,uA 13 fA,uA 14 fA,uA 15 fA] [(16,18),(60,128)],jk 2 [vA 5 .int] [(20,20),(138,154)]] [jk 8 [uA 8 fA,uA 9 fA,uA 10 fA,uA 11 fA,uA 12 fA,uA 13 fA,uA 14 fA,uA 15 fA,uA 16 fA] [(17,18),(60,128)],jk 22 [uA 20 fA,vA 5 .int] [(138,154)]] [jq 2 31 24 30]) (u2 Ma) (by kernel_rfl) HP.ok
theorem zwK:iA 281 (cA [ME] [kA] (λx=>HK x)):=eC 17 (PA iJ) func281 (jl [jk 0 [vA 3 .byte] [(4,4),(6,15)]] [jk 3 [vA 3 .byte,uA 4 fA] [(6,15)]]) Mb (by kernel_rfl) wR.ok
theorem zlk:iA 217 (cA [kA] [kA] (λx=>some (wE x))):=eD 33 (xC zwq zw1 zw6 zwK) func217 (jl [(0,⟨[vA 4 .int],[(5,5),(18,30)],[3]⟩)] [jk 6 [vA 4 .int,uA 5 fA] [(18,30)]]) Mc (by kernel_rfl) oS.ok
theorem zxM:iA 216 (cA [kA] [kA] (λx=>some (SD x))):=eD 23 (PA zlk) func216 ⟨[jk 851974 [vA 3 .byte] [(14,15)]],[jk 0 [vA 3 .byte] [(16,21)]],[jk 6 [vA 3 .byte] [(16,21)]],[],[]⟩ Md (by kernel_rfl) LP.ok
theorem QS:iA 155 (cA [kA,kA] [kA] (λx=>some (IC x.1 x.2))):=eD 49 (CB zxM zlk) func155 (jm [jk 0 [vA 6 .byte,vA 7 .byte] [(8,8),(22,41)]] [jk 7 [vA 6 .byte,vA 7 .byte,uA 8 fA] [(22,41)]] [jq 1 16 9 15]) (u2 Me) (by kernel_rfl) aS.ok
theorem zmi:iA 127 (cA [kA,fA] [kA] (λx=>some (mE x.1 x.2))):=eD 24 (MB sB iJ QS) func127 (jr [jq 1 13 5 12]) (u2 Mf) (by kernel_rfl) aR.ok
theorem c84:iA 84 (cA [aK] [aK,kA] (λx=>FD x)):=eC 27 (MB c74 zmi zgw) func84 (jr [jq 2 14 7 13]) Nm (by kernel_rfl) jU.ok
theorem zxk:iA 218 (cA [kA,kA,fA] [kA,CA] (λx=>some (VG x.1 x.2.1 x.2.2))):=eD 52 (CB sB QS) func218 (jm [jk 0 [vA 8 .byte,vA 9 .byte] [(10,10),(27,46)]] [jk 6 [vA 8 .byte,vA 9 .byte,uA 10 fA] [(27,46)]] [jq 1 23 11 22]) (u3 Mh) (by kernel_rfl) jR.ok
theorem LO:iA 157 (cA [kA, .v .str] [kA] (λx=>OE x.1 x.2)):=eC 15 (PA zxk) func157 a0 (u2 Nn) (by kernel_rfl) VT.ok
theorem zmd:iA 159 (cA [kA] [oO] (λx=>some (BH x))):=eD 10 (PA LO) func159 a0 No (by kernel_rfl) ZT.ok
theorem zls:iA 160 (cA [fA] [pE] (λx=>some (dF x))):=eD 9 (PA sB) func160 a0 Np (by kernel_rfl) RT.ok
theorem zgo:iA 188 (cA [oO] [CA] (λx=>some (UE x))):=eD 7 pn func188 a0 Pj (by kernel_rfl) za3.ok
theorem zlJ:iA 250 (cA [pE] [fA] (λx=>aJ x)):=eC 22 pn func250 ⟨[jk 1179655 [uA 3 fA] [(19,20)]],[jk 0 [uA 3 fA] [(4,20)]],[jk 3 [uA 3 fA,uA 4 fA] [(5,20)]],[],[]⟩ Pk (by kernel_rfl) zbo.ok
theorem zlX:iA 253 (cA [BE] [CA] (λx=>some (JF x))):=eD 30 pn func253 (jr [jq 1 2 3 29]) Jv (by kernel_rfl) oQ.ok
theorem zlo:iA 201 (cA [bC] [CA] (λx=>some (iC x))):=eD 38 (PA zlX) func201 (jr [jq 1 2 3 37]) Kp (by kernel_rfl) uP.ok
theorem c94:iA 94 (cA [fA] [HB] (λx=>some (aC x))):=eD 12 (PA sB) func94 a0 Ov (by kernel_rfl) zbv.ok
theorem zlL:iA 341 (cA [iG,fA] [CA] (λx=>KF x.1 x.2)):=eC 19 pn func341 a0 (u2 Oj) (by kernel_rfl) zbf.ok
theorem zlu:iA 307 (cA [iG] [CA] (λx=>some (RC x))):=eD 46 (CB sB zlL) func307 (jm [jk 0 [] [(2,3),(15,25)],jk 2 [] [(2,2),(4,4),(39,45)]] [jk 4 [uA 3 fA] [(2,2),(15,25)],jk 11 [uA 4 fA] [(2,2),(39,45)]] [jq 1 14 5 13,jq 8 35 26 34]) Ju (by kernel_rfl) yR.ok
theorem zgE:iA 254 (cA [BE] [CA] (λx=>some (JC x))):=eD 22 (CB sB zlu) func254 (jr [jq 1 2 3 21]) Ol (by kernel_rfl) zbl.ok
theorem qI:iA 202 (cA [bC] [CA] (λx=>jC x)):=eC 74 (MB sB zlX zgE) func202 (jn [jk 1376261 [] [(2,3),(22,54)],jk 1572871 [uA 3 fA] []] [jq 1 19 4 18,jq 7 45 25 44,jq 9 54 46 53,jq 13 2 59 73]) Jw (by kernel_rfl) IQ.ok
theorem KM:iA 203 (cA [kA,kA] [CA] (λx=>DB x.1 x.2)):=eC 10 pn func203 a0 (u2 Oh) (by kernel_rfl) zaO.ok
theorem HH:iA 149 (cA [HB] [CA] (λx=>some (GA x))):=eD 11 (PA sB) func149 (jr [jq 1 2 3 10]) Ot (by kernel_rfl) zaB.ok
theorem zdn:iA 255 (cA [dE] [CA] (λx=>some (gC x))):=eD 65 (CB sB HH) func255 (jm [jk 0 [] [(2,5),(16,64)],jk 2 [] [(2,2),(5,5),(51,64)]] [jk 4 [uA 3 fA] [(2,2),(4,5),(16,64)],jk 10 [uA 5 fA] [(2,2),(51,64)]] [jq 1 15 6 14,jq 7 50 28 49]) Kq (by kernel_rfl) sQ.ok
theorem QO:iA 206 (cA [fD] [CA] (λx=>AD x)):=eC 77 (XE sB c94 zlo qI KM zdn) func206 (jr [jq 1 30 3 29,jq 4 2 33 54,jq 5 2 55 76]) Kr (by kernel_rfl) MQ.ok
theorem zdm:iA 211 (cA [pE,kA] [fA] (λx=>zD x.1 x.2)):=eC 22 (PA KM) func211 (jl [jk 0 [] [(4,21)]] [jk 2 [uA 5 fA] [(4,4),(6,21)]]) (u2 Pl) (by kernel_rfl) zaN.ok
theorem zgG:iA 189 (cA [pE] [CA] (λx=>jG x)):=eC 47 (xC sB QO zdm zlJ) func189 (jm [jk 0 [] [(2,3),(21,46)]] [jk 4 [uA 3 fA] [(2,2),(21,46)]] [jq 1 20 4 19,jq 6 46 28 45]) Ks (by kernel_rfl) sR.ok
theorem zdh:iA 190 (cA [cG] [CA] (λx=>some (UC x))):=eD 61 (CB sB HH) func190 (jm [jk 0 [] [(2,4),(8,60)],jk 2 [] [(2,2),(4,4),(45,60)]] [jk 4 [uA 3 fA] [(2,2),(4,4),(8,60)],jk 9 [uA 4 fA] [(2,2),(45,60)]] [jq 6 44 14 43]) Kt (by kernel_rfl) vP.ok
theorem US:iA 191 (cA [kA] [CA] (λx=>some (vC x))):=eD 6 (PA sB) func191 a0 Pm (by kernel_rfl) zbb.ok
theorem NO:iA 124 (cA [vD] [CA] (λx=>CC x)):=eC 67 (XE sB zgw zgo zgG zdh US) func124 (jm [jk 0 [] [(2,3),(34,47)],jk 2 [] [(2,2),(4,4),(48,66)]] [jk 4 [uA 3 fA] [(2,2),(34,47)],jk 9 [uA 4 fA] [(2,2),(48,66)]] [jq 1 33 5 32]) Pn (by kernel_rfl) zak.ok
theorem zwN:iA 123 (cA [yS,kA,fA] [vD] (λx=>za1 x.1 x.2.1 x.2.2)):=eC 45 (xC c84 NO zmd zls) func123 (jl [jk 0 [pA 9 .Server [0,1,2,5,6]] [(10,10),(23,39)]] [jk 4 [uA 10 fA,pA 9 .Server [0,1,2,5,6]] [(23,39)]]) (u3 Nq) (by kernel_rfl) lT.ok
theorem zw8:iA 125 (cA [kA] [kA] (λx=>zcc x)):=eC 15 pn func125 (jc [jk 589828 [vA 3 .byte] [(10,11)]]) Nr (by kernel_rfl) MT.ok
theorem zlx:iA 126 (cA [fA,kA,HB] [pC] (λx=>LJ x.1 x.2.1 x.2.2)):=eC 27 (MB sB HH US) func126 (jr [jq 1 19 7 18]) (u3 Ns) (by kernel_rfl) qT.ok
theorem c86:iA 86 (cA [kA] [vG] (λx=>CD x)):=eC 7 pn func86 a0 Nt (by kernel_rfl) oT.ok
theorem c71:iA 71 (cA [kA,kA,kA,fA] [KD] (λx=>zeL x.1 x.2.1 x.2.2.1 x.2.2.2)):=eC 46 (oJ c86 c94 zwN NO zw8 zlx zmi) func71 a0 (u4 Nu) (by kernel_rfl) zT.ok
theorem c45:iA 45 (aD [.ptr []] [RD] [KD,RD] Gk [(true,14)] [1,2,3,4,7,8,9,11,12,13] false):=eR 13 (MB PM c71 c72) func45 a0 (by kernel_rfl)
theorem zma:iA 252 (cA [iG] [iG] (λx=>(λ(a0:Ap)=>lA a0) x)):=eC 10 pn func252 a0 Mi (by kernel_rfl) XQ.ok
theorem zdi:iA 193 (cA [BE] [BE] (λx=>(λ(a0:Av)=>lA a0) x)):=eC 15 (PA zma) func193 a0 Mj (by kernel_rfl) WQ.ok
theorem zv2:iA 194 (cA [BE,CA] [BE] (λx=>zcI x.1 x.2)):=eC 27 (PA zdi) func194 a0 (u2 Mk) (by kernel_rfl) rR.ok
theorem oK:iA 131 (cA [bC] [bC] (λx=>(λ(a0:Am)=>lA a0) x)):=eC 26 (CB zdi zv2) func131 a0 Ml (by kernel_rfl) HQ.ok
theorem zdt:iA 306 (cA [.v .Cand] [.v .Cand] (λx=>rH x)):=eC 12 pn func306 a0 Pq (by kernel_rfl) zaw.ok
theorem zdk:iA 251 (cA [dE] [dE] (λx=>(λ(a0:Ah)=>lA a0) x)):=eC 27 (PA zdt) func251 (jl [jk 0 [pA 3 .Paths [2]] [(4,4),(8,25)]] [jk 3 [uA 4 fA,pA 3 .Paths [2]] [(8,25)]]) Mm (by kernel_rfl) yQ.ok
theorem EO:iA 192 (cA [fD] [fD] (λx=>(λ(a0:Ai)=>lA a0) x)):=eC 24 (CB oK zdk) func192 a0 Mn (by kernel_rfl) zQ.ok
theorem zgm:iA 128 (cA [pE] [pE] (λx=>(λ(a0:Ao)=>lA a0) x)):=eC 27 (PA EO) func128 (jl [jk 0 [pA 3 .Tab [1]] [(4,4),(8,25)]] [jk 3 [uA 4 fA,pA 3 .Tab [1]] [(8,25)]]) Mo (by kernel_rfl) aQ.ok
theorem cT:iA 73 (cA [vD] [vD] (λx=>(λ(a0:Ac)=>lA a0) x)):=eC 42 (CB c74 zgm) func73 (jl [jk 0 [pA 3 .Server [0,1,2,5,6]] [(4,4),(22,40)]] [jk 3 [uA 4 fA,pA 3 .Server [0,1,2,5,6]] [(22,40)]]) Mp (by kernel_rfl) uQ.ok
theorem c75:iA 75 (cA [YE] [YE] (λx=>(λ(a0:List Ak)=>lA a0) x)):=eC 34 pn func75 (jl [jk 0 [vA 3 .Wire] [(4,4),(6,32)]] [jk 3 [vA 3 .Wire,uA 4 fA] [(6,32)]]) Mq (by kernel_rfl) cQ.ok
theorem zv4:iA 129 (cA [vG] [vG] (λx=>(λ(a0:Ad)=>lA a0) x)):=eC 24 pn func129 a0 Mr (by kernel_rfl) GQ.ok
theorem c76:iA 76 (cA [TC] [TC] (λx=>(λ(a0:List Ad)=>lA a0) x)):=eC 21 (PA zv4) func76 (jl [jk 0 [vA 3 .Note] [(4,4),(6,19)]] [jk 3 [vA 3 .Note,uA 4 fA] [(6,19)]]) Ms (by kernel_rfl) nR.ok
theorem zds:iA 130 (cA [xB] [xB] (λx=>(λ(a0:Ab)=>lA a0) x)):=eC 34 pn func130 a0 Mt (by kernel_rfl) dR.ok
theorem RM:iA 77 (cA [pC] [pC] (λx=>(λ(a0:Ae)=>lA a0) x)):=eC 24 (CB zds oK) func77 a0 Mu (by kernel_rfl) jQ.ok
theorem c46:iA 46 (cA [KD] [KD] (λx=>(λ(a0:Aa)=>lA a0) x)):=eC 59 (bE cT c74 c75 c76 RM) func46 (jl [jk 0 [pA 3 .World [1,2,3,4,7,8,9,11,12,13]] [(4,4),(21,38)],jk 2 [pA 3 .World [1,2,3,4,7,8,9,11,12,13]] [(5,5),(39,57)]] [jk 3 [uA 4 fA,pA 3 .World [1,2,3,4,7,8,9,11,12,13]] [(21,38)],jk 7 [uA 5 fA,pA 3 .World [1,2,3,4,7,8,9,11,12,13]] [(39,57)]]) Mv (by kernel_rfl) qQ.ok
theorem c82:iA 82 (aD [.ptr [], .plain] [RD,ME] [fA,RD] (u2 Co) [(false,1)] [] false):=eR 12 (PA PM) func82 a0 (by kernel_rfl)
theorem zvI:iA 132 (aD [.ptr []] [RD] [.v .Op,RD] Jl [(true,4)] [3] false):=eR 25 (MB PM c72 c82) func132 (jc [jk 655364 [pA 0 .Cur [],pA 3 .Op [3]] [(11,16)]]) (by kernel_rfl)
theorem zmh:iA 133 (cA [fA] [fA] Di):=eR 9 pn func133 a0 (by kernel_rfl)
theorem c79:iA 79 (aD [.ptr [], .plain] [RD,fA] [.sl .Op,RD] (u2 Mw) [(false,1)] [0] false):=eR 53 (MB PM zvI zmh) func79 (jm [jk 0 [vA 5 .Op,uA 6 fA,pA 0 .Cur []] [(7,9),(15,43)],jk 2 [pA 0 .Cur [],pA 8 .Op [3]] [(9,9),(21,33)],jk 4 [vA 5 .Op] [(6,6),(44,51)]] [jk 4 [vA 5 .Op,uA 6 fA,uA 7 fA,pA 0 .Cur []] [(8,9),(15,43)],jk 8 [uA 9 fA,pA 0 .Cur [],pA 8 .Op [3]] [(21,33)],jk 13 [vA 5 .Op,uA 6 fA] [(44,51)]] [jq 8 29 21 28]) (by kernel_rfl)
theorem c80:iA 80 (aD [.ptr []] [RD] [fA,kA,RD] Iy [(false,1),(false,1)] [1] false):=eR 25 (MB PM c72 c82) func80 a0 (by kernel_rfl)
theorem zdp:iA 195 (cA [fA,kA,fA,fA] [kA] (u4 Cc)):=eR 37 (CB sB iJ) func195 (jr [jq 1 26 9 25]) (by kernel_rfl)
theorem MO:iA 196 (cA [fA] [CA] (λx=>some (PB x))):=eD 5 (PA sB) func196 a0 Po (by kernel_rfl) zaS.ok
theorem zgp:iA 197 (cA [fA,fA] [CA] (λx=>some (UF x.1 x.2))):=eD 19 pn func197 (jr [jq 3 14 9 13]) (u2 Ng) (by kernel_rfl) OT.ok
theorem zwb:iA 282 (cA [kA,kA,fA] [kA] (u3 Gm)):=eR 23 (MB sB iJ QS) func282 (jr [jq 1 14 7 13]) (by kernel_rfl)
theorem zxy:iA 219 (cA [kA,kA,fA] [kA] (u3 Ew)):=eR 41 (CB sB zwb) func219 (jm [jk 0 [vA 7 .byte] [(8,8),(24,35)]] [jk 5 [vA 7 .byte,uA 8 fA] [(24,35)]] [jq 1 21 9 20]) (by kernel_rfl)
theorem zgk:iA 158 (cA [kA,kA,kA] [kA] (u3 Dy)):=eR 49 (PA zxy) func158 (jm [jk 0 [vA 7 .byte] [(9,9),(30,47)]] [jk 6 [vA 7 .byte,uA 9 fA] [(30,47)]] [jq 2 23 11 22]) (by kernel_rfl)
theorem sL:iA 198 (cA [xB] [CA] (λx=>some (oB x))):=eD 174 (MB sB MO zgp) func198 (jr [jq 2 2 6 61,jq 3 87 62 86,jq 7 2 92 117,jq 9 2 120 145,jq 11 2 148 173]) Kw (by kernel_rfl) BQ.ok
theorem GO:iA 136 (cA [fA,xB] [kA] (u2 Bv)):=eR 40 (xC sB zdp MO sL) func136 (jr [jq 1 19 6 18]) (by kernel_rfl)
theorem pV:iA 156 (cA [kA,kA] [kA] (u2 Cq)):=eR 17 (PA QS) func156 a0 (by kernel_rfl)
theorem zl1:iA 134 (cA [kA,fA,kA,fA,fA,fA,kA] [xB,CA] (u7 Ey)):=eR 72 (XE GO pV zgk zdp MO zgp) func134 (jm [jk 0 [pA 17 .Frame [2,3,5,6,9,10]] [(18,18),(56,64)]] [jk 6 [uA 18 fA,pA 17 .Frame [2,3,5,6,9,10]] [(56,64)]] [jq 2 43 24 42]) (by kernel_rfl)
theorem c81:iA 81 (cA [kA,fA,fA,kA,fA,fA,fA,kA] [.sl .Op] (u8 Iz)):=eR 65 (xC sB zl1 iJ GO) func81 (jr [jq 2 37 31 36]) (by kernel_rfl)
theorem c48:iA 48 (aD [.ptr [], .plain, .ptr [], .plain] [RD,KD, .cells .int,CA] [.v .Event,RD, .cells .int] (u4 Ja) [(true,6)] [4] false):=eR 239 (oJ c22 PM c72 c79 c80 c81 c82) func48 (jn [jk 5111823 [pA 0 .Cur [],pA 9 .Event [4,5]] [(79,86)],jq 6225941 95 97 97,jk 6225942 [pA 9 .Event [4],pA 0 .Cur []] [(10,15),(98,204)],jk 6881305 [pA 0 .Cur [],pA 9 .Event [4]] [(10,14),(106,155)],jk 8060956 [uA 11 kA] [(124,129)],(10027040,⟨[pA 9 .Event [4]],[(154,155)],[14]⟩),jk 10223650 [pA 9 .Event [4,5],pA 0 .Cur []] [(15,15),(158,204)],jk 10420260 [pA 9 .Event [4,5],pA 0 .Cur []] [(15,15),(161,204)],jk 10616870 [pA 9 .Event [4,5],pA 0 .Cur []] [(15,15),(164,204)],jk 11010089 [pA 9 .Event [4,5],pA 0 .Cur []] [(15,15),(170,204)],jk 11206699 [pA 9 .Event [4,5],pA 0 .Cur []] [(15,15),(173,204)],jk 11599918 [pA 0 .Cur [],pA 9 .Event [4,5]] [(15,15),(179,204)],jk 11796527 [pA 9 .Event [4,5],pA 0 .Cur []] [(181,184)],jk 12124210 [pA 9 .Event [4,5],pA 0 .Cur []] [(15,15),(187,204)],jq 13434934 205 207 208,jq 13434935 205 208 208,jk 13434936 [pA 9 .Event [4],pA 0 .Cur [],pA 8 .Event [4,5]] [(10,15),(64,204),(209,237)],jq 14090299 215 217 217,jk 14090300 [pA 9 .Event [4],pA 0 .Cur [],pA 8 .Event [4,5]] [(10,15),(64,204),(218,237)],jq 14876736 227 229 229,jk 14876737 [pA 9 .Event [4],pA 0 .Cur [],pA 8 .Event [4,5]] [(10,15),(64,204),(230,237)],jk 15138883 [pA 9 .Event [4],pA 0 .Cur [],pA 8 .Event [4,5]] [(10,15),(64,204),(233,237)],jq 15335493 234 236 236,jk 15335494 [pA 9 .Event [4],pA 0 .Cur [],pA 8 .Event [4,5]] [(10,15),(64,204),(237,237)]] [jk 2 [uA 34 CA,pA 0 .Cur []] [(23,33)],jk 7 [uA 59 CA,pA 0 .Cur []] [(47,58)],jk 13 [uA 78 CA,pA 0 .Cur []] [(71,77)],jk 26 [uA 123 CA,pA 0 .Cur []] [(117,122)]]) (by kernel_rfl)
theorem c49:iA 49 (cA [.v .Event] [CA] (λx=>some (PF x))):=eD 33 (PA sB) func49 (jr [jq 1 2 3 32]) Of (by kernel_rfl) zat.ok
theorem zlU:iA 199 (cA [PJ] [CA] (λx=>some (NC x))):=eD 37 (PA sB) func199 (jr [jq 3 2 9 36]) Ku (by kernel_rfl) UP.ok
theorem zvW:iA 200 (cA [xB] [CA] (λx=>some (wF x))):=eD 62 pn func200 (jr [jq 1 2 3 61]) Kv (by kernel_rfl) dP.ok
theorem HO:iA 138 (cA [pC] [CA] (λx=>KC x)):=eC 204 (ZF sB HH US sL zlU zvW zlo qI (PA KM)) func138 (jr [jq 1 36 3 35,jq 4 2 40 70,jq 8 2 78 108,jq 9 122 109 121,jq 12 2 126 133,jq 13 2 134 203]) Kx (by kernel_rfl) PP.ok
theorem zdu:iA 139 (cA [fA] [PJ] Bc):=eR 10 (PA sB) func139 a0 (by kernel_rfl)
theorem zlp:iA 140 (cA [pC] [xB] Ez):=eR 10 pn func140 a0 (by kernel_rfl)
theorem c85:iA 85 (cA [pC,fA,kA] [pC,pH,TC,fA] (u3 Gn)):=eR 57 (bE RM sB HO zdu zlp) func85 (jr [jq 2 26 14 25]) (by kernel_rfl)
theorem zgH:iA 146 (cA [] [HB] (λ_=>some (LD))):=eD 2 (PA c94) func146 a0 (λ_=>Ow) (by kernel_rfl) zbV.ok
theorem zgb:iA 207 (cA [xB] [kA] Bh):=eR 91 (CB iJ sL) func207 ⟨[jk 2097161 [vA 3 .byte] [(4,4),(15,31),(34,89)],jk 3276815 [vA 3 .byte] [(15,31),(52,89)],jk 4325394 [vA 3 .byte] [(15,31),(68,89)]],[jk 1 [vA 3 .byte] [(4,4),(43,49)]],[jk 10 [vA 3 .byte,uA 4 fA] [(43,49)]],[],[]⟩ (by kernel_rfl)
theorem zl5:iA 145 (cA [HB,HB,xB] [zbK] (u3 Fa)):=eR 12 (PA zgb) func145 a0 (by kernel_rfl)
theorem zgu:iA 141 (cA [pC,pH] [YE] (u2 Dz)):=eR 26 (CB zl5 zgH) func141 (jl [jk 0 [vA 5 .Wire] [(6,6),(8,24)]] [jk 3 [vA 5 .Wire,uA 6 fA] [(8,24)]]) (by kernel_rfl)
theorem c90:iA 90 (aD [.ptr [1,11,12,13], .plain, .plain] [OG,YE,TC] [OG] (u3 Cd) [] [1,11,12,13] false):=eR 41 pn func90 ⟨[jk 1179653 [pA 0 .World [1,11,12,13]] [(19,31)]],[jk 0 [pA 0 .World [1,11,12,13]] [(6,31)]],[jk 1 [uA 6 fA,pA 0 .World [1,11,12,13]] [(7,31)]],[],[]⟩ (by kernel_rfl)
theorem c87:iA 87 (aD [.ptr [1,11,12,13], .plain, .plain, .plain, .plain] [OG,fA,pC,pH,TC] [OG] (u5 Dj) [] [1,11,12,13] false):=eR 23 (CB c90 zgu) func87 a0 (by kernel_rfl)
theorem zv0:iA 204 (cA [BE,fA,kA,fA,kA] [BE,xB,fA] (u5 Gp)):=eR 78 (XE zl1 zdi zdp MO zgp zgE) func204 (jr [jq 2 41 18 40,jq 4 50 44 49]) (by kernel_rfl)
theorem SS:iA 142 (cE [bC,fA,kA] [bC,xB,fA] (u3 Ce) [1,8,11,14,17,18,20,21,24,25]):=eR 40 (MB oK qI zv0) func142 (jc [(2228231,⟨[pA 9 .Chan [1,8,11,14]],[(35,36)],[1000010]⟩)]) (by kernel_rfl)
theorem zgl:iA 205 (cA [kA,kA] [vG] (u2 Ea)):=eR 12 pn func205 a0 (by kernel_rfl)
theorem PO:iA 143 (cA [bC,xB] [vG] (u2 Bo)):=eR 13 (CB GO zgl) func143 a0 (by kernel_rfl)
theorem c88:iA 88 (cE [pC,fA,kA] [pC,pH,TC,fA] (u3 Gq) [1,5,8,9,11,12,15,16,18,25,28,31,41,42]):=eR 75 (bE RM sB HO SS PO) func88 ⟨[],[],[],[jq 2 29 17 28],[(11,[1000012])]⟩ (by kernel_rfl)
theorem zwR:iA 144 (cE [fD,kA] [fD,fG,TC,fA] (u2 Gr) [1,2,4,11,14,17,20,24,25]):=eR 71 (xC SS PO EO QO) func144 ⟨[],[],[],[jq 2 22 15 21],[(11,[1000010])]⟩ (by kernel_rfl)
theorem c89:iA 89 (cA [vD,fA,fA,kA] [vD,fG,TC,fA] (u4 Gs)):=eR 66 (xC cT sB NO zwR) func89 (jn [(3604489,⟨[pA 12 .Server [0,1,2,5,6]],[(56,61)],[1000013]⟩)] [jq 2 26 19 25]) (by kernel_rfl)
theorem c91:iA 91 (cA [fG] [YE] Fb):=eR 28 (CB zl5 zgH) func91 (jl [jk 0 [vA 3 .Wire] [(4,4),(6,26)]] [jk 3 [vA 3 .Wire,uA 4 fA] [(6,26)]]) (by kernel_rfl)
theorem zxL:iA 256 (cA [PJ,fA] [CA] (u2 Cf)):=eR 21 (CB sB zlU) func256 (jr [jq 1 4 5 20]) (by kernel_rfl)
theorem zwr:iA 208 (cA [PJ,fA] [PJ,fA] (u2 Fc)):=eR 29 (PA zxL) func208 (jc [jk 1310728 [uA 6 fA] []]) (by kernel_rfl)
theorem zln:iA 161 (cA [pC] [pC] Dk):=eR 10 (PA zlx) func161 a0 (by kernel_rfl)
theorem zmu:iA 209 (cA [bC,fA] [bC] (u2 Bw)):=eR 34 (MB sB oK qI) func209 (jn [jk 1835012 [pA 5 .Chan [1,3,6,8,11,14]] [(29,32)]] [jq 2 28 8 27]) (by kernel_rfl)
theorem zgi:iA 212 (cA [fA] [kA] Bj):=eR 10 (CB sB iJ) func212 a0 (by kernel_rfl)
theorem zlB:iA 151 (cE [bC] [bC,xB,fA] Fd [1,8,11,14,17,18,20,21,24,25]):=eR 27 (xC oK SS qI zgi) func151 (jr [jq 1 13 5 12]) (by kernel_rfl)
theorem zw3:iA 147 (cE [pC,fA] [pC,pH,TC] (u2 Gt) [1,5,8,9,11,12,15,16,41,42]):=eR 159 (ZF RM sB zds HO zdu zlp PO zlB (MB zln zwr zmu)) func147 (jn [jk 4587533 [vA 8 .Frame] [(71,75)],jk 5373967 [vA 8 .Frame] [(83,88)],jk 8585241 [pA 7 .Client [1,5,8,9,11,12,15,16,18,20,23,25,28,31]] [(132,134)],(9371676,⟨[vA 8 .Frame,vA 9 .Note,pA 7 .Client [1,5,8,9,11,12,15,16]],[(144,155)],[1000015,1000014]⟩)] [jq 4 33 21 32,jq 11 70 64 69,jq 13 82 76 81]) (by kernel_rfl)
theorem zlZ:iA 162 (cA [fD] [fD] Fe):=eR 21 (CB EO QO) func162 a0 (by kernel_rfl)
theorem zmb:iA 308 (cA [dE,fA] [dE] (u2 Bx)):=eR 47 (xC sB zdk zdn zdt) func308 ⟨[jk 2228233 [pA 5 .Paths [2]] [(35,45)]],[jk 0 [pA 5 .Paths [2]] [(6,6),(20,45)]],[jk 5 [uA 6 fA,pA 5 .Paths [2]] [(20,45)]],[jq 1 14 7 13],[]⟩ (by kernel_rfl)
theorem zwm:iA 257 (cA [fD,fA] [fD] (u2 Gu)):=eR 39 (XE sB zlZ EO QO zmu zmb) func257 (jr [jq 2 19 8 18]) (by kernel_rfl)
theorem zwp:iA 210 (cA [pE,fA] [pE] (u2 Gv)):=eR 52 (xC sB zgm zgG zwm) func210 ⟨[(2883594,⟨[pA 5 .Tab [1]],[(45,50)],[1000007]⟩)],[jk 0 [pA 5 .Tab [1]] [(6,7),(21,50)]],[jk 5 [uA 6 fA,pA 5 .Tab [1]] [(7,7),(21,50)]],[jq 1 15 8 14,jq 8 44 35 43],[]⟩ (by kernel_rfl)
theorem zlH:iA 163 (cA [fD] [vG] Ff):=eR 10 pn func163 a0 (by kernel_rfl)
theorem zvF:iA 148 (cE [vD,fA] [vD,TC] (u2 Gw) [7]):=eR 79 (XE cT sB NO zlH zwp zdm) func148 ⟨[jk 4325388 [vA 7 .Note] [(67,76)]],[(0,⟨[vA 7 .Note],[(8,9),(28,76)],[1000006]⟩)],[jk 7 [vA 7 .Note,uA 8 fA] [(9,9),(28,76)]],[jq 3 20 13 19,jq 10 66 46 65],[]⟩ (by kernel_rfl)
theorem c92:iA 92 (aD [.ptr [1,11,12,13]] [OG] [YE,OG] Gx [(false,1)] [0,2,12,13,14] false):=eR 86 (MB zgu zw3 zvF) func92 (jl [jk 0 [vA 3 .Wire,pA 0 .World [1,11,12,13]] [(4,7),(19,59)]] [jk 4 [vA 3 .Wire,uA 4 fA,pA 0 .World [1,11,12,13]] [(5,7),(19,59)]]) (by kernel_rfl)
theorem c93:iA 93 (cA [pC,HB] [pC] (u2 Bp)):=eR 17 (MB RM HO HH) func93 (jn [jk 851972 [pA 5 .Client [1,5,8,9,11,12,15,16,18,20,23,25,28,31]] [(14,15)]] [jq 2 13 8 12]) (by kernel_rfl)
theorem zv8:iA 150 (cA [bC] [bC,CA] Dl):=eR 34 (MB oK LO qI) func150 (jr [jq 2 26 7 25]) (by kernel_rfl)
theorem c95:iA 95 (cE [pC,fA] [pC,pH,TC,fA] (u2 Gy) [1,5,8,9,11,12,15,16,18,25,28,31,41,42]):=eR 73 (oJ RM sB HO zdu PO zv8 zlB) func95 ⟨[],[],[],[jq 2 23 16 22,jq 4 36 27 35,jq 8 57 52 56],[(12,[1000012])]⟩ (by kernel_rfl)
theorem c96:iA 96 (cA [KD,HB] [fA] (λx=>dI x.1 x.2)):=eC 30 (PA zgH) func96 (jl [jk 0 [] [(4,5),(9,29)]] [jk 4 [uA 5 fA] [(4,4),(9,29)]]) (u2 Kc) (by kernel_rfl) CQ.ok
theorem zgJ:iA 309 (cA [cG,HB] [fA] (λx=>some (fB x.1 x.2))):=eD 20 pn func309 (jl [jk 0 [] [(4,19)]] [jk 2 [uA 5 fA] [(4,4),(6,19)]]) (u2 Pr) (by kernel_rfl) zbc.ok
theorem zwf:iA 258 (cA [cG,HB,fA] [cG] (u3 Gz)):=eR 63 (xC sB HH zdh zgJ) func258 (jn [jk 3735564 [vA 7 .Credit] [(58,61)]] [jq 2 24 12 23]) (by kernel_rfl)
theorem zml:iA 214 (cA [kA] [xB,CA] Eb):=eR 140 (CB zgb zlT) func214 (jc [jk 3276815 [pA 2 .Frame [2,3,5,6,9,10],pA 4 .Frame [2,3,5,6,9,10]] [(3,3),(17,49),(52,131)],jk 4325396 [pA 2 .Frame [2,3,5,6,9,10],pA 4 .Frame [2,3,5,6,9,10]] [(3,3),(17,49),(68,131)],jk 6160411 [pA 2 .Frame [2,3,5,6,9,10],pA 4 .Frame [2,3,5,6,9,10]] [(3,3),(17,49),(96,131)]]) (by kernel_rfl)
theorem zmo:iA 310 (cA [pE,HB] [CA] (u2 Dm)):=eR 31 pn func310 (jm [jk 0 [] [(4,30)]] [jk 2 [uA 5 fA] [(4,4),(6,30)]] [jq 4 30 13 29]) (by kernel_rfl)
theorem zme:iA 311 (cA [cG,HB] [fA] (u2 By)):=eR 28 (CB zdh zgJ) func311 (jr [jq 2 15 9 14]) (by kernel_rfl)
theorem zwY:iA 259 (cA [vD,HB,fA] [CA] (u3 Fg)):=eR 19 (CB zmo zme) func259 (jr [jq 1 6 7 18]) (by kernel_rfl)
theorem zwQ:iA 312 (cA [kA,HB] [kA] (u2 Ha)):=eR 18 (CB iJ HH) func312 a0 (by kernel_rfl)
theorem zlG:iA 261 (cA [HB,fA,kA,kA,fA] [kA] (u5 Ec)):=eR 50 (xC sB iJ HH zwQ) func261 (jr [jq 1 34 12 33]) (by kernel_rfl)
theorem zmp:iA 260 (cA [oO,HB,fA,kA,kA,fA] [kA] (u6 Fh)):=eR 33 (MB pV zgo zlG) func260 (jr [jq 2 27 20 26]) (by kernel_rfl)
theorem zxl:iA 313 (cA [fA,fA] [CA] (u2 Cs)):=eR 17 (PA sB) func313 (jr [jq 1 4 5 16]) (by kernel_rfl)
theorem zv1:iA 342 (cA [kA,kA] [fA] (u2 Bq)):=eR 31 pn func342 (jl [jk 0 [uA 5 fA] [(6,6),(12,29)]] [jk 5 [uA 5 fA,uA 6 fA] [(12,29)]]) (by kernel_rfl)
theorem zgh:iA 314 (cA [kA,kA] [CA] (u2 Bk)):=eR 14 (PA zv1) func314 (jr [jq 1 4 5 13]) (by kernel_rfl)
theorem zwh:iA 262 (cA [oO,fA,HB,xB] [fA] (u4 Hb)):=eR 52 (oJ sB HH zgo sL zmp zxl zgh) func262 (jr [jq 1 31 9 30]) (by kernel_rfl)
theorem zmy:iA 317 (cA [kA,kA] [kA] (u2 Bz)):=eR 8 (PA QS) func317 a0 (by kernel_rfl)
theorem zgC:iA 267 (cA [kA] [kA] Bg):=eR 12 (MB LO US zmy) func267 a0 (by kernel_rfl)
theorem zgr:iA 268 (cA [fA,kA,kA,fA,kA] [kA] (u5 Ed)):=eR 48 (CB sB iJ) func268 (jr [jq 1 34 12 33]) (by kernel_rfl)
theorem zl9:iA 315 (cA [kA,fA,kA,kA,fA,kA] [kA] (u6 Fi)):=eR 35 (MB pV zgC zgr) func315 (jr [jq 3 30 23 29]) (by kernel_rfl)
theorem zxD:iA 263 (cA [kA,xB] [CA] (u2 Hc)):=eR 29 (MB sL zgh zl9) func263 (jr [jq 1 4 5 28]) (by kernel_rfl)
theorem zvR:iA 326 (cA [kA,kA,kA] [kA] (u3 Hd)):=eR 28 (CB US zmy) func326 (jr [jq 1 19 7 18]) (by kernel_rfl)
theorem zvK:iA 325 (cA [kA] [kA] Ct):=eR 9 (PA LO) func325 a0 (by kernel_rfl)
theorem zvz:iA 327 (cA [kA,fA] [kA] (u2 He)):=eR 22 (CB sB LO) func327 (jl [jk 0 [vA 5 .byte] [(6,6),(14,20)]] [jk 5 [vA 5 .byte,uA 6 fA] [(14,20)]]) (by kernel_rfl)
theorem zl2:iA 275 (cA [kA,kA,kA,fA] [kA] (u4 Fj)):=eR 22 (MB zvK zvR zvz) func275 a0 (by kernel_rfl)
theorem zxF:iA 345 (cA [] [iG] (λ_=>Hf)):=eR 14 pn func345 (jl [jk 0 [pA 1 .Win [1]] [(2,2),(4,12)]] [jk 3 [uA 2 fA,pA 1 .Win [1]] [(4,12)]]) (by kernel_rfl)
theorem zgz:iA 324 (cA [fA,kA] [BE] (u2 Cu)):=eR 20 (CB sB zxF) func324 (jr [jq 1 12 5 11]) (by kernel_rfl)
theorem zlw:iA 274 (cA [fA,kA,kA] [bC] (u3 Fk)):=eR 28 (CB sB zgz) func274 (jr [jq 1 19 7 18]) (by kernel_rfl)
theorem zxC:iA 316 (cA [HB] [dE] Cv):=eR 5 pn func316 a0 (by kernel_rfl)
theorem zwu:iA 264 (cA [kA,fA,HB,xB] [fD] (u4 Hg)):=eR 58 (oJ sB HH US sL zlw zl2 zxC) func264 (jr [jq 1 31 9 30]) (by kernel_rfl)
theorem zvJ:iA 265 (cA [pE,fD] [pE,fA] (u2 Bl)):=eR 48 (XE zgm zgG EO QO zdm zlJ) func265 (jr [jq 2 20 9 19,jq 6 38 28 37]) (by kernel_rfl)
theorem zgF:iA 266 (cA [kA,kA,kA] [vG] (u3 Dn)):=eR 17 pn func266 a0 (by kernel_rfl)
theorem zmm:iA 318 (cE [bC] [bC,xB,fA] Fl [1,8,11,14,17,18,20,21,24,25]):=eR 25 (xC oK SS qI zgi) func318 (jr [jq 1 12 5 11]) (by kernel_rfl)
theorem zvx:iA 269 (cE [fD] [fD,fG,TC] Hh [1,2,4,11,14,17,20,24,25]):=eR 53 (xC PO EO QO zmm) func269 ⟨[],[],[],[jq 2 24 11 23],[(8,[1000007])]⟩ (by kernel_rfl)
theorem zxm:iA 355 (cA [fA] [fA] Hi):=eR 8 pn func355 a0 (by kernel_rfl)
theorem zmc:iA 346 (cA [iG,fA] [CA] (u2 Br)):=eR 30 (xC sB zlu zlL zxm) func346 (jr [jq 1 12 5 11,jq 3 4 13 29]) (by kernel_rfl)
theorem zv6:iA 347 (cA [kA,fA,xB] [kA,CA] (u3 Hj)):=eR 42 (bE GO pV zgk zdp zgh) func347 (jr [(2,⟨[uA 28 CA],[(12,27)],[8]⟩)]) (by kernel_rfl)
theorem zxu:iA 348 (cA [iG,fA] [iG,CA] (u2 Cw)):=eR 73 (CB zma zmc) func348 ⟨[jk 4521999 [pA 6 .Win [1]] [(70,71)]],[jk 0 [pA 6 .Win [1]] [(7,9),(21,48)]],[jk 6 [uA 7 fA,uA 8 fA,pA 6 .Win [1]] [(9,9),(21,48)]],[jq 6 27 21 26],[]⟩ (by kernel_rfl)
theorem zwn:iA 328 (cA [BE,fA,xB] [BE,kA,fA] (u3 Cy)):=eR 64 (XE GO zdi zgE zmc zv6 zxu) func328 (jr [jq 2 30 14 29]) (by kernel_rfl)
theorem zl7:iA 276 (cA [bC,fA,xB] [bC,kA,fA] (u3 Ee)):=eR 174 (QM sB oK MO sL qI KM zgz zwn) func276 (jn [jk 5373966 [pA 9 .Chan [1,3,6,8,11,14]] [(83,85)]] [jq 2 40 22 39,jq 12 82 76 81,jq 15 97 88 96,jq 16 106 98 105,jq 23 139 127 138]) (by kernel_rfl)
theorem zms:iA 277 (cA [bC,fA] [kA,CA] (u2 Fm)):=eR 51 (PA qI) func277 (jr [jq 3 18 10 17,jq 7 45 34 44]) (by kernel_rfl)
theorem zv7:iA 343 (cA [dE,HB] [.v .Cand,CA] (λx=>tM x.1 x.2)):=eC 33 (CB zdn zdt) func343 (jl [jk 0 [pA 4 .Cand [2]] [(5,6),(11,31)]] [jk 4 [uA 6 fA,pA 4 .Cand [2]] [(5,5),(11,31)]]) (u2 Lb) (by kernel_rfl) KQ.ok
theorem zwH:iA 319 (cA [dE,fA,HB,kA] [dE,CA] (u4 Fn)):=eR 71 (bE sB KM zdk zdt zv7) func319 ⟨[jk 3801098 [pA 12 .Paths [2]] [(59,69)]],[jk 0 [pA 12 .Paths [2]] [(13,13),(44,69)]],[jk 6 [uA 13 fA,pA 12 .Paths [2]] [(44,69)]],[(2,⟨[uA 39 CA],[(20,38)],[1000010]⟩)],[]⟩ (by kernel_rfl)
theorem zxo:iA 344 (cA [bC] [bC,CA] Hk):=eR 38 (xC oK LO qI zgz) func344 (jr [jq 2 20 7 19]) (by kernel_rfl)
theorem zwB:iA 320 (cA [bC,fA,kA] [bC,fA] (u3 Hl)):=eR 57 (XE sB oK qI KM zgi zxo) func320 (jr [jq 2 33 13 32]) (by kernel_rfl)
theorem zwl:iA 321 (cA [dE,fA,HB,kA] [dE,CA] (u4 Fo)):=eR 77 (bE sB HH zdk zdn zmb) func321 (jm [jk 0 [pA 8 .Paths [2]] [(9,9),(11,11),(41,57)]] [jk 5 [uA 11 fA,pA 8 .Paths [2]] [(9,9),(41,57)]] [jq 1 35 12 34]) (by kernel_rfl)
theorem zwg:iA 270 (cE [fD,fA,HB,xB,kA] [fD,fG,TC,CA] (u5 Hm) [1,2,24,25]):=eR 241 (ZF GO SS PO HH EO QO zgF zl7 (bE zms zmm zwH zwB zwl)) func270 (jn [(5898256,⟨[vA 15 .Out,vA 16 .Note,pA 14 .Sess [1,2]],[(22,28),(92,197)],[18]⟩),jk 7077906 [vA 15 .Out,vA 16 .Note,pA 14 .Sess [1,2]] [(22,28),(110,197)],(7798804,⟨[vA 16 .Note,pA 14 .Sess [1,2,4,6,9,11,14,17]],[(120,134)],[1000022]⟩),jk 8847383 [vA 15 .Out,vA 16 .Note,pA 14 .Sess [1,2,20]] [(24,28),(137,197)],(9633817,⟨[vA 15 .Out,vA 16 .Note,pA 14 .Sess [1,2,20]],[(26,28),(148,197)],[1000024]⟩),jk 10158106 [vA 16 .Note] [(156,171)],(11862046,⟨[vA 15 .Out,vA 16 .Note,pA 14 .Sess [1,2,20]],[(182,197)],[1000027,1000026]⟩)] [jq 4 49 38 48,jq 34 220 215 219]) (by kernel_rfl)
theorem zvU:iA 323 (cA [xB] [fA] Ef):=eR 6 (PA zgb) func323 a0 (by kernel_rfl)
theorem zwL:iA 322 (cA [cG,HB,fA] [cG,CA] (u3 Eg)):=eR 44 (xC sB zdh zgJ zme) func322 (jr [jq 3 30 16 29]) (by kernel_rfl)
theorem zxj:iA 271 (aD [.ptr [], .plain] [.cells .Server,fG] [fG, .cells .Server] (u2 Hn) [(false,1)] [0] false):=eR 60 (MB zmo zwL zvU) func271 ⟨[jk 1703943 [pA 0 .Server []] [(7,8),(27,51)]],[jk 0 [vA 5 .Out,pA 0 .Server []] [(6,8),(10,58)],jk 1 [vA 5 .Out,pA 0 .Server []] [(7,8),(16,58)]],[jk 3 [vA 5 .Out,uA 6 fA,pA 0 .Server []] [(7,8),(10,58)]],[],[]⟩ (by kernel_rfl)
theorem zwW:iA 213 (cE [vD,fA,HB,kA] [vD,fG,TC] (u4 Ho) [7,8]):=eR 410 (ZF cT sB c84 c86 NO HH MO KM (ZF zgl zdm zml zwf zwY zmp zlG zwh (ZF zxD zwu zvJ zgF zgC zgr zvx zwg (PA zxj)))) func213 (jn [(4653068,⟨[vA 12 .Out,vA 13 .Note,pA 11 .Server [],pA 8 .Server [0,1,2,5,6]],[(9,10),(16,33),(75,404)],[1000014]⟩),jk 9437204 [vA 12 .Out,vA 13 .Note,pA 8 .Server [0,1,2,5,6],pA 11 .Server [0,1,5,6]] [(9,10),(19,33),(148,404)],jk 12058648 [vA 13 .Note,uA 19 fA,pA 8 .Server [0,1,2,5,6],pA 11 .Server [0,1,2,5,6]] [(9,10),(20,22),(185,279)],jk 19791907 [vA 12 .Out,vA 13 .Note,pA 11 .Server [0,1,2,5,6]] [(24,26),(303,320)],jk 21037096 [vA 12 .Out,vA 13 .Note,pA 8 .Server [0,1,2,5,6],pA 11 .Server [0,1,5,6]] [(9,10),(27,33),(325,404)],jk 23134253 [vA 29 .byte] [(354,354)],(24903730,⟨[vA 13 .Note,pA 11 .Server [0,1,5,6]],[(381,387)],[1000028]⟩),jk 25624630 [vA 13 .Note] [(392,404)]] [jq 4 50 38 49,(11,⟨[uA 92 CA],[(75,91)],[1000011]⟩),jq 19 174 148 173,jq 33 302 286 301,jq 40 340 330 339]) (by kernel_rfl)
theorem zvH:iA 273 (cA [kA,fA,xB] [xB,CA] (u3 Hp)):=eR 42 (MB zds sL zl9) func273 (jr [jq 1 17 10 16]) (by kernel_rfl)
theorem zwk:iA 215 (cE [pC,fA,xB] [pC,pH,TC] (u3 Hq) [1,5,8,9,11,12,15,16,41,42]):=eR 283 (ZF RM sB zds GO HO zdu SS PO (ZF MO sL KM zgl zgF zgC zgr zvH (xC zlw zl2 zl7 zms))) func215 (jn [(11272218,⟨[vA 11 .Note,pA 9 .Client [1,5,8,9,11,12,15,16]],[(173,197)],[1000014]⟩),jk 13434911 [vA 11 .Note,pA 9 .Client [1,5,8,9,11,12,15,16]] [(206,223)],jk 14811170 [vA 11 .Note] [(227,242)],(16056356,⟨[vA 10 .Frame,vA 11 .Note,pA 9 .Client [1,5,8,9,11,12,15,16]],[(19,21),(246,279)],[15]⟩),(16646182,⟨[vA 10 .Frame,vA 11 .Note,pA 9 .Client [1,5,8,9,11,12,15,16]],[(255,279)],[1000020,1000019]⟩)] [jq 4 38 26 37,jq 6 56 42 55,jq 15 131 123 130]) (by kernel_rfl)
theorem zxB:iA 152 (aD [.ptr [1,11,12,13], .plain, .plain, .plain] [OG,fA,HB,kA] [YE,OG] (u4 Hr) [(false,1)] [0,2,12,13,14] false):=eR 95 (bE c91 zgu zwW zml zwk) func152 a0 (by kernel_rfl)
theorem c97:iA 97 (aD [.ptr [1,11,12,13], .plain, .plain, .plain] [OG,fA,HB,kA] [OG] (u4 Cz) [] [1,11,12,13] false):=eR 18 (CB c90 zxB) func97 a0 (by kernel_rfl)
theorem zw9:iA 153 (cA [.v .Op] [CA] Do):=eR 22 (PA sB) func153 (jr [jq 1 2 3 21]) (by kernel_rfl)
theorem zwE:iA 154 (cA [kA,fA,fA] [kA,CA] (λx=>mJ x.1 x.2.1 x.2.2)):=eC 37 pn func154 (jr [jq 1 27 8 26]) (u3 Mx) (by kernel_rfl) jS.ok
theorem c98:iA 98 (cA [.sl .Op,YE,yS] [kA,CA] (u3 Fp)):=eR 235 (oJ zmh zw9 zwE QS pV LO zgk) func98 ⟨[jk 3407887 [vA 12 .byte] [(6,7),(13,15),(54,211)],jk 3801105 [vA 12 .byte] [(6,7),(13,15),(60,211)],jk 4849685 [vA 12 .byte] [(6,7),(13,15),(76,211)],jk 5832729 [vA 12 .byte] [(6,7),(13,15),(91,211)],jk 7012382 [vA 12 .byte] [(6,7),(15,15),(109,211)],jk 7929888 [vA 12 .byte] [(6,7),(15,15),(123,211)],jk 10747943 [vA 12 .byte] [(166,211)],jk 11534377 [vA 12 .byte] [(178,211)],jk 12320811 [vA 12 .byte] [(190,211)],jk 12779565 [vA 12 .byte] [(197,211)]],[jk 0 [vA 8 .bs] [(6,7),(9,15),(21,225)],jk 3 [vA 12 .byte] [(15,15),(136,163)]],[jk 5 [vA 8 .bs,uA 9 fA] [(6,7),(10,15),(21,225)],jk 34 [vA 12 .byte,uA 15 fA] [(136,163)]],[jq 8 41 31 40,jq 45 218 212 217],[]⟩ (by kernel_rfl)
theorem c99:iA 99 (cA [vD] [vD,TC] Hs):=eR 48 (XE cT c84 c86 NO zmd zls) func99 (jr [jq 2 17 9 16]) (by kernel_rfl)
theorem zwZ:iA 100 (cA [pC] [pC,TC] Ht):=eR 27 (MB RM HO zln) func100 a0 (by kernel_rfl)
theorem zvZ:iA 101 (cA [vD,fA] [vD,TC,fA] (u2 Hu)):=eR 55 (bE cT sB NO zlZ zlH) func101 (jr [jq 4 31 15 30]) (by kernel_rfl)
theorem zws:iA 164 (cA [bC] [yS] Hv):=eR 39 (PA qI) func164 (jc [jk 655366 [vA 3 .bs] [(11,18)],jk 1966089 [vA 3 .bs] [(31,37)]]) (by kernel_rfl)
theorem zwx:iA 102 (aD [.ptr [1,11,12,13], .plain] [OG,bC] [CA,OG] (u2 Fq) [(false,1)] [2,12,13,14] false):=eR 40 (PA zws) func102 a0 (by kernel_rfl)
theorem zxr:iA 103 (cA [aK,fA] [aK] (u2 Fr)):=eR 17 (MB c74 sB zgw) func103 (jn [jk 851972 [pA 5 .Dice [0]] [(14,15)]] [jq 2 13 8 12]) (by kernel_rfl)
theorem c50:iA 50 (aD [.ptr [1,11,12,13], .plain] [OG, .v .Event] [CA,OG] (u2 Hw) [(false,1)] [2,12,13,14] false):=eR 519 (ZF c84 c85 c86 c87 c88 c89 c90 c91 (ZF c92 c93 c94 c95 c96 c97 c98 c99 (xC zwZ zvZ zwx zxr))) func50 (jn [jk 3276805 [pA 6 .Wire []] [(4,4),(51,70)],jk 4784138 [pA 0 .World [1,11,12,13]] [(4,4),(7,38),(75,518)],jk 8126482 [pA 0 .World [1,11,12,13]] [(4,4),(13,38),(126,518)],jk 10027031 [pA 0 .World [1,11,12,13]] [(4,4),(17,38),(155,518)],jk 12058653 [pA 0 .World [1,11,12,13]] [(4,4),(21,38),(186,518)],jk 12910626 [pA 0 .World [1,11,12,13]] [(4,4),(22,38),(199,518)],jk 14286884 [pA 0 .World [1,11,12,13]] [(4,4),(22,38),(220,518)],jk 16056361 [pA 0 .World [1,11,12,13]] [(4,4),(26,38),(247,518)],jk 17170478 [pA 0 .World [1,11,12,13]] [(4,4),(27,38),(264,518)],jk 17825840 [pA 0 .World [1,11,12,13]] [(4,4),(27,38),(274,518)],jk 18546738 [pA 0 .World [1,11,12,13]] [(4,4),(27,38),(285,518)],jk 21430330 [pA 0 .World [1,11,12,13]] [(4,4),(30,38),(329,518)],jk 23265343 [pA 0 .World [1,11,12,13]] [(4,4),(32,38),(357,518)],jk 24641605 [pA 0 .World [1,11,12,13]] [(4,4),(34,38),(378,518)],jk 26476618 [pA 0 .World [1,11,12,13]] [(4,4),(36,38),(406,518)],jk 32178260 [pA 0 .World [1,11,12,13]] [(493,518)],jk 32505941 [pA 0 .World [1,11,12,13]] [(497,518)]] [jq 3 50 43 49,jq 50 298 291 297,jk 79 [uA 4 CA,pA 0 .World [1,11,12,13]] [(429,449)],jk 81 [uA 4 CA,pA 0 .World [1,11,12,13]] [(452,490)]]) (by kernel_rfl)
theorem c21:iA 21 (aD [.ptr [], .plain, .plain] [RD,fA,CA] [KD, .sl .Event,KD,RD] (u3 Hx) [(true,14),(false,1),(true,14)] [1,2,7,8,11,12,13,14,16,26,27,28] false):=eR 55 (XE c45 c46 PM c48 c49 c50) func21 ⟨[jk 3276813 [pA 10 .World [1,11,12,13], .drop 15] [(51,51)]],[jk 0 [vA 11 .Event,pA 0 .Cur [],pA 12 .int [],pA 10 .World [1,11,12,13]] [(13,15),(25,51)]],[jk 6 [vA 11 .Event,uA 13 fA,pA 0 .Cur [],pA 12 .int [],pA 10 .World [1,11,12,13]] [(14,15),(25,51)]],[jk 11 [uA 50 CA,pA 15 .World [1,11,12,13]] [(39,49)]],[]⟩ (by kernel_rfl)
theorem qG:iA 10 (aD [.ptr [], .plain] [RD,fA] [KD,RD] (u2 Jb) [(true,14)] [1,11,12,13] false):=eR 19 (CB c21 c22) func10 a0 (by kernel_rfl)
theorem c5:iA 5 (cE [kA] [KD] Hy [1,11,12,13]):=eR 11 (MB c9 qG LG) func5 a0 (by kernel_rfl)
theorem lC:iA 24 (cA [kA] [kA] (λx=>yA x)):=eC 6 pn func24 a0 Ps (by kernel_rfl) za6.ok
theorem c27:iA 27 (cA [yS] [yS] (λx=>PR x)):=eC 20 (PA lC) func27 (jl [jk 0 [vA 3 .bs] [(5,5),(9,18)]] [jk 3 [vA 3 .bs,uA 9 fA] [(5,5),(10,18)]]) Ni (by kernel_rfl) FT.ok
theorem zlv:iA 166 (cA [iG] [iG] (λx=>(λ(a0:Ap)=>lA a0) x)):=eC 10 pn func166 a0 Qa (by kernel_rfl) zas.ok
theorem zgv:iA 105 (cA [BE] [BE] (λx=>(λ(a0:Av)=>lA a0) x)):=eC 14 (CB lC zlv) func105 a0 Nv (by kernel_rfl) TT.ok
theorem uL:iA 54 (cA [bC] [bC] (λx=>(λ(a0:Am)=>lA a0) x)):=eC 20 (CB lC zgv) func54 a0 Nw (by kernel_rfl) AT.ok
theorem oV:iA 165 (cA [dE] [dE] (λx=>(λ(a0:Ah)=>lA a0) x)):=eC 31 (PA lC) func165 (jl [jk 0 [pA 3 .Paths [2]] [(5,5),(12,29)]] [jk 3 [uA 12 fA,pA 3 .Paths [2]] [(5,5),(13,29)]]) My (by kernel_rfl) zP.ok
theorem JO:iA 104 (cA [fD] [fD] (λx=>(λ(a0:Ai)=>lA a0) x)):=eC 20 (MB lC uL oV) func104 a0 Nx (by kernel_rfl) GT.ok
theorem c51:iA 51 (cA [pE] [pE] (λx=>(λ(a0:Ao)=>lA a0) x)):=eC 25 (PA JO) func51 (jl [jk 0 [pA 3 .Tab [1]] [(5,5),(12,23)]] [jk 3 [uA 12 fA,pA 3 .Tab [1]] [(5,5),(13,23)]]) Qb (by kernel_rfl) zar.ok
theorem c52:iA 52 (cA [cG] [cG] (λx=>(λ(a0:List Al)=>lA a0) x)):=eC 6 pn func52 a0 Ny (by kernel_rfl) fT.ok
theorem AV:iA 23 (cA [vD] [vD] (λx=>(λ(a0:Ac)=>lA a0) x)):=eC 26 (xC lC c27 c51 c52) func23 a0 Nz (by kernel_rfl) iT.ok
theorem c53:iA 53 (cA [xB] [xB] (λx=>(λ(a0:Ab)=>lA a0) x)):=eC 28 (PA lC) func53 a0 Oa (by kernel_rfl) tT.ok
theorem RO:iA 25 (cA [pC] [pC] (λx=>(λ(a0:Ae)=>lA a0) x)):=eC 20 (MB lC c53 uL) func25 a0 Ob (by kernel_rfl) kT.ok
theorem c26:iA 26 (cA [YE] [YE] (λx=>(λ(a0:List Ak)=>lA a0) x)):=eC 26 (PA lC) func26 (jl [jk 0 [vA 3 .Wire] [(5,5),(9,24)]] [jk 3 [vA 3 .Wire,uA 9 fA] [(5,5),(10,24)]]) Mz (by kernel_rfl) rP.ok
theorem c55:iA 55 (cA [vG] [vG] (λx=>(λ(a0:Ad)=>lA a0) x)):=eC 20 (PA lC) func55 a0 Oc (by kernel_rfl) ET.ok
theorem c28:iA 28 (cA [TC] [TC] (λx=>(λ(a0:List Ad)=>lA a0) x)):=eC 20 (PA c55) func28 (jl [jk 0 [vA 3 .Note] [(5,5),(9,18)]] [jk 3 [vA 3 .Note,uA 9 fA] [(5,5),(10,18)]]) Qc (by kernel_rfl) zaa.ok
theorem pJ:iA 12 (cA [KD] [KD] (λx=>(λ(a0:Aa)=>lA a0) x)):=eC 48 (XE AV lC RO c26 c27 c28) func12 (jl [jk 0 [pA 3 .World [1,2,3,4,7,8,9,11,12,13]] [(5,5),(23,34)]] [jk 3 [uA 23 fA,pA 3 .World [1,2,3,4,7,8,9,11,12,13]] [(5,5),(24,34)]]) Od (by kernel_rfl) uT.ok
theorem AB:iA 13 (cA [fA,fA,fA] [CA] (λx=>some (eA x.1 x.2.1 x.2.2))):=eD 15 pn func13 (jr [jq 1 6 7 14]) (u3 Og) (by kernel_rfl) zaR.ok
theorem c32:iA 32 (cA [oO] [CA] (λx=>some (UE x))):=eD 7 pn func32 a0 Pa (by kernel_rfl) za2.ok
theorem tV:iA 16 (cA [aK] [CA] (λx=>some (YB x))):=eD 12 (PA AB) func16 (jr [jq 1 2 3 11]) Oz (by kernel_rfl) zaF.ok
theorem c62:iA 62 (cA [pE] [fA] (λx=>aJ x)):=eC 20 pn func62 ⟨[jk 983047 [uA 3 fA] [(16,17)]],[jk 0 [uA 3 fA] [(5,5),(9,18)]],[jk 3 [uA 3 fA,uA 9 fA] [(5,5),(10,18)]],[],[]⟩ Pb (by kernel_rfl) zbk.ok
theorem KH:iA 40 (cA [kA] [CA] (λx=>some (mA x))):=eD 6 pn func40 a0 Om (by kernel_rfl) zap.ok
theorem LH:iA 19 (cA [kA,kA] [CA] (λx=>DB x.1 x.2)):=eC 10 pn func19 a0 (u2 Oi) (by kernel_rfl) zaU.ok
theorem zv9:iA 119 (cA [ME,ME] [CA] (λx=>some (zdb x.1 x.2))):=eD 26 pn func119 (jl [jk 0 [] [(4,6),(14,25)]] [jk 4 [uA 14 fA] [(4,6),(15,25)]]) (u2 Or) (by kernel_rfl) zam.ok
theorem c66:iA 66 (cA [BE,BE] [CA] (λx=>nO x.1 x.2)):=eC 42 (CB LH zv9) func66 (jr [jq 1 4 5 41]) (u2 Jy) (by kernel_rfl) lR.ok
theorem c39:iA 39 (cA [bC] [CA] (λx=>jO x)):=eC 40 (PA c66) func39 (jr [jq 1 2 3 39]) Ke (by kernel_rfl) oP.ok
theorem uV:iA 68 (cA [fA] [CA] (λx=>some (LA x))):=eD 9 pn func68 (jr [jq 1 2 3 8]) Nb (by kernel_rfl) QT.ok
theorem zgx:iA 186 (cA [ME,fA] [CA] (λx=>some (uC x.1 x.2))):=eD 21 (PA AB) func186 (jl [jk 0 [] [(4,4),(6,6),(9,16)]] [jk 2 [uA 9 fA] [(4,4),(6,6),(10,16)]]) (u2 Nc) (by kernel_rfl) wT.ok
theorem zmv:iA 187 (cA [iG,fA] [CA] (λx=>KF x.1 x.2)):=eC 17 pn func187 a0 (u2 Oo) (by kernel_rfl) zaJ.ok
theorem zlV:iA 122 (cA [iG] [CA] (λx=>some (RC x))):=eD 33 (MB AB zgx zmv) func122 (jm [jk 0 [] [(2,3),(17,23)]] [jk 4 [uA 3 fA] [(2,2),(17,23)]] [jq 1 13 4 12,jq 8 2 24 32]) Jx (by kernel_rfl) vR.ok
theorem c69:iA 69 (cA [BE] [CA] (λx=>some (JC x))):=eD 22 (CB AB zlV) func69 (jr [jq 1 2 3 21]) Oq (by kernel_rfl) zbx.ok
theorem c70:iA 70 (cA [bC] [CA] (λx=>zcK x)):=eC 42 (MB AB c66 c69) func70 (jr [jq 2 2 6 14,jq 3 28 15 27,jq 5 2 29 41]) Jz (by kernel_rfl) uR.ok
theorem qJ:iA 43 (cA [bC] [CA] (λx=>jC x)):=eC 45 (xC KH uV c69 c70) func43 (jr [jq 1 23 3 22,jq 3 2 24 44]) Ka (by kernel_rfl) SQ.ok
theorem KG:iA 37 (cA [HB] [CA] (λx=>some (GA x))):=eD 11 (PA AB) func37 (jr [jq 1 2 3 10]) Ou (by kernel_rfl) zaT.ok
theorem zdq:iA 118 (cA [dE] [CA] (λx=>some (gC x))):=eD 64 (MB AB KG KH) func118 (jm [jk 0 [] [(2,4),(6,6),(20,63)],jk 2 [] [(2,2),(6,6),(53,62)]] [jk 4 [uA 20 fA] [(2,4),(6,6),(21,63)],jk 9 [uA 53 fA] [(2,2),(6,6),(54,62)]] [jq 1 16 7 15,jq 6 47 25 46]) Kf (by kernel_rfl) dQ.ok
theorem aT:iA 63 (cA [fD] [CA] (λx=>AD x)):=eC 76 (XE AB LH c39 KH qJ zdq) func63 (jr [jq 1 24 3 23,jq 4 2 27 48,jq 5 2 49 75]) Kg (by kernel_rfl) gR.ok
theorem yV:iA 64 (cA [pE,kA] [fA] (λx=>zD x.1 x.2)):=eC 21 (PA LH) func64 (jl [jk 0 [] [(4,6),(10,20)]] [jk 2 [uA 10 fA] [(4,6),(11,20)]]) (u2 Pd) (by kernel_rfl) zaL.ok
theorem rV:iA 33 (cA [pE] [CA] (λx=>jG x)):=eC 42 (xC AB c62 aT yV) func33 (jm [jk 0 [] [(2,4),(25,41)]] [jk 4 [uA 25 fA] [(2,4),(26,41)]] [jq 1 21 5 20,jq 6 40 30 39]) Kh (by kernel_rfl) qR.ok
theorem c65:iA 65 (cA [cG,HB] [fA] (λx=>some (fB x.1 x.2))):=eD 20 pn func65 (jl [jk 0 [] [(4,6),(9,19)]] [jk 2 [uA 9 fA] [(4,6),(10,19)]]) (u2 Pe) (by kernel_rfl) zan.ok
theorem qV:iA 34 (cA [cG] [CA] (λx=>some (UC x))):=eD 43 (MB AB KG c65) func34 (jm [jk 0 [] [(2,4),(10,42)]] [jk 4 [uA 10 fA] [(2,4),(11,42)]] [jq 6 41 15 40]) Ki (by kernel_rfl) wP.ok
theorem YS:iA 35 (cA [kA] [CA] (λx=>some (vC x))):=eD 6 (PA AB) func35 a0 Pf (by kernel_rfl) za9.ok
theorem vV:iA 15 (cA [vD] [CA] (λx=>CC x)):=eC 62 (XE AB tV c32 rV qV YS) func15 (jm [jk 0 [] [(2,2),(4,4),(39,46)],jk 2 [] [(2,2),(6,6),(51,61)]] [jk 4 [uA 39 fA] [(2,2),(4,4),(40,46)],jk 10 [uA 51 fA] [(2,2),(6,6),(52,61)]] [jq 1 35 7 34]) Kj (by kernel_rfl) MP.ok
theorem c36:iA 36 (cA [zbK] [CA] (λx=>some (lE x))):=eD 17 (PA KG) func36 (jr [jq 1 2 3 16]) Pp (by kernel_rfl) zaK.ok
theorem c17:iA 17 (cA [YE] [CA] (λx=>some (fE x))):=eD 18 (PA c36) func17 (jl [jk 0 [] [(2,2),(4,4),(7,14)]] [jk 2 [uA 7 fA] [(2,2),(4,4),(8,14)]]) Ky (by kernel_rfl) vQ.ok
theorem c38:iA 38 (cA [xB,xB] [CA] (λx=>CN x.1 x.2)):=eC 80 (PA LH) func38 (jr [jq 1 4 5 79]) (u2 Kk) (by kernel_rfl) sP.ok
theorem c41:iA 41 (cA [PJ] [CA] (λx=>some (NC x))):=eD 39 (PA AB) func41 (jr [jq 3 3 10 27,jq 4 2 28 38]) Kl (by kernel_rfl) xQ.ok
theorem DO:iA 120 (cA [fA] [CA] (λx=>some (PB x))):=eD 5 (PA AB) func120 a0 Pg (by kernel_rfl) zaQ.ok
theorem zwD:iA 121 (cA [fA,fA] [CA] (λx=>some (UF x.1 x.2))):=eD 17 pn func121 (jc [jq 655366 10 12 12]) (u2 Nf) (by kernel_rfl) PT.ok
theorem nJ:iA 67 (cA [xB] [CA] (λx=>FC x)):=eC 165 (bE AB c38 KH DO zwD) func67 (jn [jk 524293 [uA 4 CA,pA 3 .Frame []] [(12,158)],jk 1703944 [uA 4 CA,pA 3 .Frame []] [(30,158)],jk 3997707 [uA 4 CA,pA 3 .Frame []] [(65,158)],jk 7405582 [uA 4 CA,pA 3 .Frame [2,5,6]] [(117,158)]] [jq 5 4 18 25,jq 8 4 42 60,jq 11 4 83 112,jq 14 4 132 158,jq 15 2 159 164]) Km (by kernel_rfl) YP.ok
theorem c42:iA 42 (cA [pC] [CA] (λx=>zbD x)):=eC 74 (xC LH KH qJ nJ) func42 (jr [jq 1 35 3 34,jq 3 2 36 73]) Kn (by kernel_rfl) SP.ok
theorem zV:iA 18 (cA [pC] [CA] (λx=>KC x)):=eC 161 (ZF AB YS KG c38 c39 KH c41 c42 (PA qJ)) func18 (jr [jq 1 20 5 19,jq 7 2 33 58,jq 9 2 61 92,jq 11 2 95 117,jq 13 2 120 160]) Ko (by kernel_rfl) OP.ok
theorem c44:iA 44 (cA [kA,fA] [CA] (λx=>some (LC x.1 x.2))):=eD 14 pn func44 (jr [jq 1 4 5 13]) (u2 Nd) (by kernel_rfl) KT.ok
theorem c20:iA 20 (cA [vG] [CA] (λx=>some (nC x))):=eD 57 (MB AB KG c44) func20 (jr [jq 1 2 3 56]) Kb (by kernel_rfl) mR.ok
theorem c7:iA 7 (cA [KD] [CA] (λx=>eE x)):=eC 101 (oJ AB vV tV c17 zV LH c20) func7 (jm [jk 0 [] [(2,4),(51,78)],jk 2 [] [(2,2),(6,6),(82,89)],jk 4 [] [(2,2),(8,8),(93,100)]] [jk 6 [uA 51 fA] [(2,4),(52,78)],jk 12 [uA 82 fA] [(2,2),(6,6),(83,89)],jk 18 [uA 93 fA] [(2,2),(8,8),(94,100)]] [jq 1 31 9 30,jq 3 47 32 46,jq 8 77 56 76]) Kz (by kernel_rfl) kQ.ok
theorem zlA:iA 108 (cA [pC] [pC] Cb):=eR 11 (PA lC) func108 a0 (by kernel_rfl)
theorem zlS:iA 113 (cA [fA,fA,kA] [vG] (u3 Ch)):=eR 12 (PA lC) func113 a0 (by kernel_rfl)
theorem zlE:iA 167 (cA [bC,fA] [bC] (u2 Bw)):=eR 34 (MB AB qJ uL) func167 (jn [jk 1835012 [pA 5 .Chan [1,3,6,8,11,14]] [(29,32)]] [jq 2 28 8 27]) (by kernel_rfl)
theorem zvV:iA 171 (cA [PJ,fA] [CA] (u2 Cf)):=eR 21 (CB AB c41) func171 (jr [jq 1 4 5 20]) (by kernel_rfl)
theorem zlP:iA 107 (cA [PJ,fA] [PJ,fA] (u2 Cm)):=eR 28 (PA zvV) func107 a0 (by kernel_rfl)
theorem zlC:iA 168 (cA [fA] [PJ] Bc):=eR 10 (PA AB) func168 a0 (by kernel_rfl)
theorem qK:iA 225 (cA [kA,fA,fA] [kA] (λx=>JB x.1 x.2.1 x.2.2)):=eC 35 pn func225 (jm [jk 0 [vA 7 .byte] [(8,8),(21,33)]] [jk 5 [vA 7 .byte,uA 8 fA] [(21,33)]] [jq 2 17 12 16]) (u3 Ld) (by kernel_rfl) bS.ok
theorem zgA:iA 221 (cA [fA] [kA] Bj):=eR 8 (CB AB qK) func221 a0 (by kernel_rfl)
theorem hJ:iA 224 (cA [yS] [kA] (λx=>XC x)):=eC 18 pn func224 (jl [jk 0 [vA 3 .byte] [(5,5),(9,16)]] [jk 3 [vA 3 .byte,uA 9 fA] [(5,5),(10,16)]]) Lf (by kernel_rfl) NQ.ok
theorem zgc:iA 284 (cA [fA,kA,fA,fA] [kA] (u4 Eh)):=eR 37 (bE AB KH uV hJ qK) func284 (jr [jq 1 26 9 25]) (by kernel_rfl)
theorem zxt:iA 365 (cA [] [ME] (λ_=>some (rE))):=eD 2 pn func365 a0 (λ_=>Pt) (by kernel_rfl) zbh.ok
theorem zwV:iA 359 (cA [] [zU] (λ_=>some (rO))):=eD 3 (PA zxt) func359 a0 (λ_=>Pu) (by kernel_rfl) zax.ok
theorem zlF:iA 361 (cA [zU] [CA] (λx=>some (BG x))):=eD 20 (CB AB zgx) func361 (jr [jq 1 2 3 19]) Le (by kernel_rfl) fR.ok
theorem zxA:iA 299 (cA [kA,fA,fA] [kA,CA] (λx=>mJ x.1 x.2.1 x.2.2)):=eC 36 pn func299 (jr [jq 1 27 8 26]) (u3 Lg) (by kernel_rfl) gS.ok
theorem zmn:iA 244 (cA [kA,fA,fA] [fA,fA,CA] (λx=>YG x.1 x.2.1 x.2.2)):=eC 45 (PA zxA) func244 (jm [jk 0 [uA 11 fA] [(13,13),(31,40)]] [jk 8 [uA 11 fA,uA 31 fA] [(13,13),(32,40)]] [jq 1 19 14 18]) (u3 Lh) (by kernel_rfl) TR.ok
theorem zmz:iA 368 (cA [fA,fA] [fA] (λx=>WD x.1 x.2)):=eC 23 pn func368 (jr [jq 2 12 7 11]) (u2 Li) (by kernel_rfl) sS.ok
theorem zwa:iA 367 (cA [kA] [ME] (λx=>XL x)):=eC 79 (CB zmn zmz) func367 (jl [jk 0 [vA 3 .int] [(4,4),(14,28)],jk 2 [vA 3 .int] [(5,9),(29,77)]] [jk 5 [uA 4 fA,vA 3 .int] [(14,28)],jk 9 [uA 5 fA,vA 3 .int] [(6,9),(29,77)]]) Lj (by kernel_rfl) NP.ok
theorem zw0:iA 369 (cA [fA] [fA] (λx=>some (dM x))):=eD 14 pn func369 (jr [jq 1 9 4 8]) Jj (by kernel_rfl) VM.ok
theorem zxN:iA 370 (cA [fA,fA] [fA] (λx=>some (HF x.1 x.2))):=eD 9 pn func370 a0 (u2 Pv) (by kernel_rfl) za8.ok
theorem zwT:iA 366 (cA [ME,kA] [ME] (λx=>OK x.1 x.2)):=eC 151 (bE zgx zwa zmz zw0 zxN) func366 (jm [jk 0 [uA 7 fA,uA 8 fA,uA 9 fA,uA 10 fA,uA 11 fA,uA 12 fA,uA 13 fA,uA 14 fA] [(15,19),(60,124)],jk 2 [vA 5 .int] [(20,21),(135,149)]] [jk 7 [uA 7 fA,uA 8 fA,uA 9 fA,uA 10 fA,uA 11 fA,uA 12 fA,uA 13 fA,uA 14 fA,uA 15 fA] [(16,19),(60,124)],jk 16 [uA 135 fA,vA 5 .int] [(20,21),(136,149)]] [jq 2 32 25 31]) (u2 Lk) (by kernel_rfl) JP.ok
theorem zlz:iA 362 (cN [ME,kA] [ME,kA] (λx=>VS x.1 x.2)):=eC 17 (PA zwT) func362 (jl [jk 0 [uA 0 ME,uA 1 kA] [(6,14)]] [jk 1 [uA 0 ME,uA 1 kA] [(6,14)]]) (u2 Ll) (by kernel_rfl) WO.ok
theorem zwA:iA 358 (cA [zU,kA] [zU] (λx=>zb7 x.1 x.2)):=eC 50 (xC lC hJ zlF zlz) func358 (jr [jq 1 17 7 16]) (u2 Lm) (by kernel_rfl) FQ.ok
theorem zwz:iA 363 (cA [fA] [kA] (λx=>JM x)):=eC 25 (CB AB qK) func363 (jl [jk 0 [vA 3 .byte] [(8,17)]] [jk 4 [vA 3 .byte] [(8,17)]]) Ln (by kernel_rfl) fS.ok
theorem zwt:iA 364 (cA [ME] [kA] (λx=>HK x)):=eC 18 (PA qK) func364 (jl [jk 0 [vA 3 .byte] [(5,5),(9,16)]] [jk 3 [vA 3 .byte,uA 9 fA] [(5,5),(10,16)]]) Lo (by kernel_rfl) AP.ok
theorem zxH:iA 357 (cA [zU] [kA] (λx=>zbR x)):=eC 23 (bE hJ zlF zlz zwz zwt) func357 a0 Lp (by kernel_rfl) ZP.ok
theorem zlr:iA 351 (cA [kA] [kA] (λx=>some (wE x))):=eD 10 (MB zxH zwA zwV) func351 a0 Lq (by kernel_rfl) pS.ok
theorem zxG:iA 350 (cA [kA] [kA] (λx=>some (SD x))):=eD 21 (CB lC zlr) func350 ⟨[jk 720902 [vA 3 .byte] [(12,13)]],[jk 0 [vA 3 .byte] [(14,19)]],[jk 6 [vA 3 .byte] [(14,19)]],[],[]⟩ Lr (by kernel_rfl) FP.ok
theorem zwG:iA 352 (cA [kA, .v .byte] [kA] (λx=>NU x.1 x.2)):=eC 23 pn func352 (jl [jk 0 [vA 5 .byte] [(7,7),(11,21)]] [jk 3 [vA 5 .byte,uA 11 fA] [(7,7),(12,21)]]) (u2 Ls) (by kernel_rfl) LQ.ok
theorem lV:iA 334 (cA [kA,kA] [kA] (λx=>some (IC x.1 x.2))):=eD 27 (xC hJ zxG zlr zwG) func334 (jr [jq 1 13 6 12]) (u2 Lt) (by kernel_rfl) YR.ok
theorem zvQ:iA 360 (cA [kA,kA,fA] [kA] (u3 Hz)):=eR 23 (xC AB hJ qK lV) func360 (jr [jq 1 14 7 13]) (by kernel_rfl)
theorem zvB:iA 356 (cA [kA,kA,fA] [kA] (u3 Ia)):=eR 39 (MB AB lC zvQ) func356 (jm [jk 0 [vA 7 .byte] [(8,8),(23,34)]] [jk 5 [vA 7 .byte,uA 8 fA] [(23,34)]] [jq 1 21 9 20]) (by kernel_rfl)
theorem zl0:iA 349 (cA [kA,kA,kA] [kA] (u3 Ei)):=eR 46 (PA zvB) func349 (jm [jk 0 [vA 7 .byte] [(8,9),(30,44)]] [jk 5 [vA 7 .byte,uA 30 fA] [(8,9),(31,44)]] [jq 1 22 10 21]) (by kernel_rfl)
theorem OS:iA 223 (cA [fA,xB] [kA] (u2 Cg)):=eR 36 (bE nJ uV DO hJ zgc) func223 (jr [jq 1 18 5 17]) (by kernel_rfl)
theorem zdj:iA 287 (cA [kA,kA] [kA] (u2 Ca)):=eR 15 (CB lC lV) func287 a0 (by kernel_rfl)
theorem zvE:iA 333 (cE [kA,fA,kA,fA,fA,fA,kA] [xB,CA] (u7 Dp) [2,5,6,9,10]):=eR 61 (QM lC nJ uV DO OS zgc zdj zl0) func333 (jr [(2,⟨[uA 43 CA],[(26,42)],[19,23,24]⟩)]) (by kernel_rfl)
theorem zvT:iA 283 (cE [BE,fA,kA,fA,kA] [BE,xB,fA] (u5 Ej) [1,4,7,10,11,14,15]):=eR 75 (MB c69 zgv zvE) func283 (jr [jq 7 47 41 46]) (by kernel_rfl)
theorem zdo:iA 220 (cE [bC,fA,kA] [bC,xB,fA] (u3 Bs) [1,3,6,8,11,14,17,20,21,24,25]):=eR 38 (MB qJ uL zvT) func220 a0 (by kernel_rfl)
theorem zxz:iA 169 (cE [bC] [bC,xB,fA] Fv [1,3,6,8,11,14,17,20,21,24,25]):=eR 27 (xC qJ uL zdo zgA) func169 (jr [jq 1 13 5 12]) (by kernel_rfl)
theorem zgj:iA 222 (cA [kA,kA] [vG] (u2 Ek)):=eR 10 (PA lC) func222 a0 (by kernel_rfl)
theorem mV:iA 170 (cA [bC,xB] [vG] (u2 Bt)):=eR 13 (CB zgj OS) func170 a0 (by kernel_rfl)
theorem zw2:iA 106 (cE [pC,fA] [pC,pH,TC] (u2 Gj) [1,5,8,9,11,12,15,16,41,42]):=eR 70 (QM RO zlP zlA zlS zlE zlC zxz mV) func106 ⟨[jk 3080203 [pA 7 .Client [1,5,8,9,11,12,15,16,18,20,23,25,28,31]] [(48,50)]],[],[],[],[(15,[1000011])]⟩ (by kernel_rfl)
theorem zwo:iA 109 (cA [pC] [xB] Fs):=eR 9 (PA lC) func109 a0 (by kernel_rfl)
theorem c56:iA 56 (cE [pC,fA] [pC,pH,TC] (u2 Eu) [1,5,8,9,11,12,15,16,41,42]):=eR 77 (ZF AB zV lC RO c53 zw2 zlP zlA (PA zwo)) func56 (jr [jq 2 24 12 23,jq 10 56 57 63]) (by kernel_rfl)
theorem zww:iA 173 (cA [fA] [HB] (λx=>some (aC x))):=eD 12 (PA AB) func173 a0 Ox (by kernel_rfl) zbI.ok
theorem zgd:iA 111 (cA [] [HB] (λ_=>some (LD))):=eD 2 (PA zww) func111 a0 (λ_=>Oy) (by kernel_rfl) zb6.ok
theorem zga:iA 172 (cA [xB] [kA] Be):=eR 73 (MB nJ hJ qK) func172 a0 (by kernel_rfl)
theorem zlQ:iA 110 (cA [HB,HB,xB] [zbK] (u3 Fy)):=eR 12 (PA zga) func110 a0 (by kernel_rfl)
theorem c57:iA 57 (cA [pC,pH] [YE] (u2 Ci)):=eR 25 (CB zlQ zgd) func57 (jl [jk 0 [vA 5 .Wire] [(7,7),(11,23)]] [jk 3 [vA 5 .Wire,uA 11 fA] [(7,7),(12,23)]]) (by kernel_rfl)
theorem zwj:iA 226 (cA [fD] [fD] Et):=eR 19 (MB lC aT JO) func226 a0 (by kernel_rfl)
theorem zmx:iA 285 (cA [dE,fA] [dE] (u2 Ds)):=eR 31 (PA oV) func285 ⟨[jk 1441799 [pA 5 .Paths [2]] [(23,28)]],[jk 0 [pA 5 .Paths [2]] [(7,7),(15,29)]],[jk 3 [uA 15 fA,pA 5 .Paths [2]] [(7,7),(16,29)]],[],[]⟩ (by kernel_rfl)
theorem zvP:iA 227 (cA [dE,fA] [dE] (u2 Dh)):=eR 18 (xC AB zdq oV zmx) func227 (jr [jq 1 12 5 11]) (by kernel_rfl)
theorem zvD:iA 174 (cA [fD,fA] [fD] (u2 Is)):=eR 39 (XE AB aT JO zlE zwj zvP) func174 (jr [jq 2 19 8 18]) (by kernel_rfl)
theorem zvy:iA 112 (cA [pE,fA] [pE] (u2 Iu)):=eR 49 (xC AB rV c51 zvD) func112 ⟨[(2621450,⟨[pA 5 .Tab [1]],[(41,46)],[1000007]⟩)],[jk 0 [pA 5 .Tab [1]] [(7,7),(24,47)]],[jk 5 [uA 24 fA,pA 5 .Tab [1]] [(7,7),(25,47)]],[jq 1 15 8 14,jq 8 40 31 39],[]⟩ (by kernel_rfl)
theorem c58:iA 58 (cE [vD,fA] [vD,TC] (u2 Iv) [7]):=eR 68 (XE AB vV AV yV zvy zlS) func58 ⟨[jk 3670028 [vA 7 .Note] [(57,64)]],[(0,⟨[vA 7 .Note],[(9,10),(32,65)],[1000006]⟩)],[jk 7 [vA 7 .Note,uA 32 fA] [(9,10),(33,65)]],[jq 2 20 13 19,jq 10 56 41 55],[]⟩ (by kernel_rfl)
theorem c29:iA 29 (cE [KD] [KD,YE] Bm [1,9,11,12,13,14]):=eR 79 (bE c7 pJ c56 c57 c58) func29 (jm [jk 0 [vA 5 .Wire,pA 4 .World [1,2,3,4,7,8,9,11,12,13]] [(6,9),(31,61)]] [jk 7 [vA 5 .Wire,uA 31 fA,pA 4 .World [1,2,3,4,7,8,9,11,12,13]] [(6,9),(32,61)]] [jq 2 21 14 20]) (by kernel_rfl)
theorem c61:iA 61 (cA [YE,zbK] [YE] (u2 Ix)):=eR 19 (CB c17 c26) func61 a0 (by kernel_rfl)
theorem c31:iA 31 (cA [KD,YE] [KD] (u2 Bb)):=eR 23 (CB pJ c61) func31 (jl [jk 0 [pA 5 .World [1,2,3,4,7,8,9,11,12,13]] [(7,7),(12,21)]] [jk 3 [uA 12 fA,pA 5 .World [1,2,3,4,7,8,9,11,12,13]] [(7,7),(13,21)]]) (by kernel_rfl)
theorem c59:iA 59 (cA [KD,HB] [fA] (λx=>dI x.1 x.2)):=eC 24 (PA zgd) func59 (jl [jk 0 [] [(4,4),(6,6),(13,23)]] [jk 4 [uA 13 fA] [(4,4),(6,6),(14,23)]]) (u2 Kd) (by kernel_rfl) mQ.ok
theorem zvG:iA 175 (cA [cG,HB,fA] [cG] (u3 Ie)):=eR 52 (bE AB qV KG c52 c65) func175 (jn [jk 1900551 [vA 7 .Credit] [(30,50)],jk 2883593 [vA 7 .Credit] [(45,50)]] [jq 2 23 11 22]) (by kernel_rfl)
theorem zlK:iA 183 (aD [.ptr [], .plain] [za5,fA] [kA,za5] (u2 Bi) [(false,1)] [0] false):=eR 26 (PA lC) func183 a0 (by kernel_rfl)
theorem zxI:iA 182 (aD [.ptr [], .plain] [za5,fA] [fA,za5] (u2 Cj) [(false,1)] [] false):=eR 18 (CB zlK zmn) func182 a0 (by kernel_rfl)
theorem zmr:iA 116 (cN [kA] [xB,CA] Da):=eR 70 (XE LH nJ DO zga zxI zlK) func116 (jn [jk 589829 [pA 4 .bs [],pA 5 .Frame [2,3,5,6,9,10]] [(13,57)],jk 1114120 [pA 4 .bs [],pA 5 .Frame [2,3,5,6,9,10]] [(26,57)],jk 1835017 [pA 4 .bs [],pA 5 .Frame [2,3,5,6,9,10]] [(29,30)],jk 2686991 [pA 4 .bs [],pA 5 .Frame [2,3,5,6,9,10]] [(42,43)],jk 2883601 [pA 4 .bs [],pA 5 .Frame [2,3,5,6,9,10]] [(48,57)]] [jq 6 17 18 25,(21,⟨[uA 67 CA],[(58,66)],[1000005]⟩)]) (by kernel_rfl)
theorem zly:iA 179 (cA [pE,HB] [CA] (u2 Db)):=eR 25 pn func179 (jm [jk 0 [] [(4,4),(6,6),(10,24)]] [jk 2 [uA 10 fA] [(4,4),(6,6),(11,24)]] [jq 4 23 14 22]) (by kernel_rfl)
theorem zmq:iA 243 (cA [cG,HB] [fA] (u2 By)):=eR 28 (CB qV c65) func243 (jr [jq 2 15 9 14]) (by kernel_rfl)
theorem zmw:iA 228 (cA [vD,HB,fA] [CA] (u3 Fz)):=eR 19 (CB zly zmq) func228 (jr [jq 1 6 7 18]) (by kernel_rfl)
theorem zvC:iA 286 (cA [kA,fA] [kA] (λx=>some (mE x.1 x.2))):=eD 22 (xC AB lC qK lV) func286 (jr [jq 1 13 5 12]) (u2 Lu) (by kernel_rfl) UQ.ok
theorem zmt:iA 229 (cA [aK] [aK,kA] (λx=>FD x)):=eC 30 (MB tV lC zvC) func229 (jr [jq 2 18 11 17]) Nh (by kernel_rfl) tU.ok
theorem zwC:iA 288 (cA [kA,HB] [kA] (u2 If)):=eR 17 (MB lC KG qK) func288 a0 (by kernel_rfl)
theorem zf9:iA 231 (cA [HB,fA,kA,kA,fA] [kA] (u5 Em)):=eR 46 (XE AB KG KH hJ qK zwC) func231 (jr [jq 1 33 11 32]) (by kernel_rfl)
theorem zl8:iA 230 (cA [oO,HB,fA,kA,kA,fA] [kA] (u6 Ga)):=eR 32 (MB c32 zf9 zdj) func230 (jr [jq 2 27 20 26]) (by kernel_rfl)
theorem zlI:iA 232 (cA [kA] [vG] (λx=>CD x)):=eC 6 (PA lC) func232 a0 Nk (by kernel_rfl) DT.ok
theorem zxv:iA 176 (cE [vD,fA,HB,xB] [vD,fG,TC] (u4 Jn) [7,8]):=eR 82 (oJ lC zgj zmw zmt zl8 zf9 zlI) func176 (jr [jq 1 33 16 32]) (by kernel_rfl)
theorem zxE:iA 289 (cA [fA,fA] [CA] (u2 Cs)):=eR 17 (PA AB) func289 (jr [jq 1 4 5 16]) (by kernel_rfl)
theorem zlq:iA 304 (cA [kA,kA] [fA] (u2 Bq)):=eR 31 pn func304 (jl [jk 0 [uA 5 fA] [(6,6),(14,29)]] [jk 5 [uA 5 fA,uA 14 fA] [(6,6),(15,29)]]) (by kernel_rfl)
theorem zgf:iA 290 (cA [kA,kA] [CA] (u2 Bk)):=eR 14 (PA zlq) func290 (jr [jq 1 4 5 13]) (by kernel_rfl)
theorem zxn:iA 233 (cA [oO,fA,HB,xB] [fA] (u4 Ig)):=eR 52 (oJ AB c32 KG nJ zl8 zxE zgf) func233 (jr [jq 1 31 9 30]) (by kernel_rfl)
theorem zlR:iA 294 (cA [kA,kA] [kA] (u2 Bz)):=eR 8 (PA lV) func294 a0 (by kernel_rfl)
theorem zvN:iA 335 (cA [kA,kA,fA] [kA,CA] (λx=>some (VG x.1 x.2.1 x.2.2))):=eD 48 (xC AB lC hJ lV) func335 (jm [jk 0 [vA 8 .byte,vA 9 .byte] [(10,10),(26,43)]] [jk 6 [vA 8 .byte,vA 9 .byte,uA 10 fA] [(26,43)]] [jq 1 23 11 22]) (u3 Mg) (by kernel_rfl) TQ.ok
theorem zdl:iA 293 (cA [kA, .v .str] [kA] (λx=>OE x.1 x.2)):=eC 15 (PA zvN) func293 a0 (u2 Nj) (by kernel_rfl) aU.ok
theorem zgt:iA 238 (cA [kA] [kA] Bg):=eR 11 (MB YS zdl zlR) func238 a0 (by kernel_rfl)
theorem zgq:iA 239 (cA [fA,kA,kA,fA,kA] [kA] (u5 Dc)):=eR 44 (xC AB KH hJ qK) func239 (jr [jq 1 33 11 32]) (by kernel_rfl)
theorem zlN:iA 291 (cA [kA,fA,kA,kA,fA,kA] [kA] (u6 Dq)):=eR 34 (MB zgt zgq zdj) func291 (jr [jq 3 30 23 29]) (by kernel_rfl)
theorem zxb:iA 234 (cA [kA,xB] [CA] (u2 Ih)):=eR 29 (MB nJ zgf zlN) func234 (jr [jq 1 4 5 28]) (by kernel_rfl)
theorem zwF:iA 292 (cA [HB] [dE] Cv):=eR 5 pn func292 a0 (by kernel_rfl)
theorem zvS:iA 302 (cA [kA,kA,kA] [kA] (u3 Ii)):=eR 26 (xC YS KH hJ zlR) func302 (jr [jq 1 19 7 18]) (by kernel_rfl)
theorem zxa:iA 301 (cA [kA] [kA] Ct):=eR 8 (PA zdl) func301 a0 (by kernel_rfl)
theorem zwy:iA 303 (cA [kA,fA] [kA] (u2 Ij)):=eR 20 (MB AB lC zdl) func303 (jl [jk 0 [vA 5 .byte] [(6,6),(12,18)]] [jk 5 [vA 5 .byte,uA 6 fA] [(12,18)]]) (by kernel_rfl)
theorem zlO:iA 247 (cA [kA,kA,kA,fA] [kA] (u4 Gb)):=eR 21 (MB zxa zvS zwy) func247 a0 (by kernel_rfl)
theorem zxs:iA 338 (cA [] [iG] (λ_=>Jo)):=eR 3 pn func338 a0 (by kernel_rfl)
theorem zgD:iA 300 (cA [fA,kA] [BE] (u2 Dd)):=eR 19 (MB AB lC zxs) func300 (jr [jq 1 12 5 11]) (by kernel_rfl)
theorem zlM:iA 246 (cA [fA,kA,kA] [bC] (u3 Gc)):=eR 27 (xC lC KH uV zgD) func246 (jr [jq 1 19 7 18]) (by kernel_rfl)
theorem zwU:iA 235 (cA [kA,fA,HB,xB] [fD] (u4 En)):=eR 59 (QM AB lC YS KG nJ zlM zlO zwF) func235 (jr [jq 1 32 10 31]) (by kernel_rfl)
theorem zwX:iA 236 (cA [pE,fD] [pE,fA] (u2 Bl)):=eR 51 (XE rV c51 c62 aT yV JO) func236 (jr [jq 2 9 10 21,jq 6 30 31 41]) (by kernel_rfl)
theorem zgy:iA 237 (cA [kA,kA,kA] [vG] (u3 Dr)):=eR 14 (PA lC) func237 a0 (by kernel_rfl)
theorem zmg:iA 295 (cE [bC] [bC,xB,fA] Gd [1,3,6,8,11,14,17,20,21,24,25]):=eR 25 (xC qJ uL zdo zgA) func295 (jr [jq 1 12 5 11]) (by kernel_rfl)
theorem zwc:iA 240 (cA [fD] [fD,fG,TC] Eo):=eR 49 (xC aT JO mV zmg) func240 ⟨[],[],[],[jq 2 24 11 23],[(8,[1000007])]⟩ (by kernel_rfl)
theorem zmj:iA 241 (cA [pE,fA,fD] [pE,CA] (u3 Bu)):=eR 38 (MB rV c51 JO) func241 (jr [jq 2 24 11 23]) (by kernel_rfl)
theorem zwv:iA 177 (cE [vD,fA,HB,xB] [vD,fG,TC] (u4 Jp) [7,8]):=eR 181 (ZF LH lC yV zf9 zxn zxb zwU zwX (bE zgy zgt zgq zwc zmj)) func177 (jn [jk 3604486 [vA 11 .Note,pA 8 .Server [0,1,2,5,6],pA 4 .Server []] [(9,10),(12,15),(56,130)]] [jq 1 47 21 46,jq 14 158 142 157]) (by kernel_rfl)
theorem zwM:iA 354 (cA [iG,fA] [CA] (u2 Ck)):=eR 31 (MB AB zlV zmv) func354 (jr [jq 1 12 5 11,jq 3 4 13 30]) (by kernel_rfl)
theorem zxq:iA 339 (cA [iG,fA] [iG,CA] (u2 De)):=eR 57 (CB zlv zwM) func339 (jl [jk 0 [pA 6 .Win [1]] [(7,7),(22,38)]] [jk 5 [uA 7 fA,pA 6 .Win [1]] [(22,38)]]) (by kernel_rfl)
theorem zxh:iA 340 (cA [kA,fA,xB] [kA,CA] (u3 Ik)):=eR 41 (bE OS zgc zdj zgf zl0) func340 (jr [(2,⟨[uA 28 CA],[(12,27)],[8]⟩)]) (by kernel_rfl)
theorem zvY:iA 305 (cA [BE,fA,xB] [BE,kA,fA] (u3 Eq)):=eR 59 (bE c69 zgv OS zxq zxh) func305 (jr [jq 2 31 15 30]) (by kernel_rfl)
theorem zl6:iA 248 (cE [bC,fA,xB] [bC,kA,fA] (u3 Df) [1,14,15]):=eR 157 (QM AB qJ uL nJ DO zgD zlq zvY) func248 (jn [jk 6684686 [pA 13 .Ep []] [(103,104)],jk 6881296 [pA 13 .Ep []] [(106,112)],(8978455,⟨[pA 9 .Chan [1,14]],[(127,136),(139,154)],[1000014]⟩),jk 9633817 [pA 9 .Chan [1,8,11,14]] [(148,150)],jk 9895963 [pA 9 .Chan [1,14]] [(127,136),(153,154)]] [jq 2 37 19 36,jq 5 11 45 54,jq 6 12 55 67,jq 7 85 68 84,jq 9 98 87 97,jq 23 147 141 146]) (by kernel_rfl)
theorem zlY:iA 249 (cA [bC,fA] [kA,CA] (u2 Ge)):=eR 50 (CB lC qJ) func249 (jr [jq 3 10 11 19,jq 7 34 35 46]) (by kernel_rfl)
theorem zlD:iA 336 (cA [dE,HB] [fA] (λx=>NI x.1 x.2)):=eC 21 pn func336 (jl [jk 0 [] [(4,6),(10,20)]] [jk 2 [uA 10 fA] [(4,6),(11,20)]]) (u2 Lc) (by kernel_rfl) PQ.ok
theorem zwi:iA 296 (cA [dE,fA,HB,kA] [dE,CA] (u4 Gf)):=eR 65 (bE AB LH zdq oV zlD) func296 (jr [jq 3 49 17 48]) (by kernel_rfl)
theorem zv5:iA 353 (cA [bC] [bC,CA] Il):=eR 38 (xC qJ uL zdl zgD) func353 (jr [jq 2 20 7 19]) (by kernel_rfl)
theorem zw7:iA 337 (cA [bC,fA,kA] [bC,fA] (u3 Im)):=eR 58 (XE AB LH qJ uL zgA zv5) func337 (jr [jq 2 33 13 32,jq 7 55 47 54]) (by kernel_rfl)
theorem zxi:iA 297 (cE [fD,fA,kA] [fD,fG,TC] (u3 Jq) [24,25]):=eR 75 (xC lC mV zmg zw7) func297 ⟨[(2162695,⟨[vA 11 .Note],[(34,47)],[1000009]⟩)],[],[],[],[(12,[1000013])]⟩ (by kernel_rfl)
theorem zwd:iA 298 (cA [dE,fA,HB,kA] [dE,CA] (u4 Gg)):=eR 64 (QM AB lC KG KH zdq oV zmx zlD) func298 (jr [jq 1 34 11 33,jq 4 49 40 48]) (by kernel_rfl)
theorem zvO:iA 242 (cE [fD,fA,HB,xB,kA] [fD,fG,TC,CA] (u5 Gh) [24,25]):=eR 180 (ZF lC KG aT JO mV zdo OS zgy (bE zl6 zlY zwi zxi zwd)) func242 (jn [(5242894,⟨[vA 20 .Note,vA 21 .Out,pA 14 .Sess []],[(22,26),(82,136)],[16]⟩),jk 6225936 [vA 20 .Note,vA 21 .Out,pA 14 .Sess []] [(22,26),(97,136)],(6946834,⟨[vA 20 .Note,pA 14 .Sess [1,2,4,17]],[(107,118)],[1000022]⟩),jk 7798805 [vA 20 .Note,vA 21 .Out,pA 14 .Sess []] [(24,26),(121,136)]] [jq 2 44 33 43,jq 26 159 154 158]) (by kernel_rfl)
theorem zxg:iA 178 (cE [vD,fA,HB,xB] [vD,fG,TC] (u4 Jr) [7,8]):=eR 93 (oJ lC yV zmw zmt zlI zmj zvO) func178 (jn [jk 2949127 [vA 13 .byte] [],(4653067,⟨[vA 16 .Note,pA 4 .Server [5]],[(18,18),(72,89)],[1000012]⟩)] [jq 2 34 24 33]) (by kernel_rfl)
theorem zwe:iA 181 (cA [xB] [fA] Dt):=eR 6 (PA zga) func181 a0 (by kernel_rfl)
theorem zvA:iA 180 (cA [cG,HB,fA] [cG,CA] (u3 Du)):=eR 41 (bE AB qV c52 c65 zmq) func180 (jr [jq 3 29 15 28]) (by kernel_rfl)
theorem zwO:iA 114 (cE [vD,fA,HB,kA] [vD,fG,TC] (u4 In) [7,8]):=eR 129 (ZF AB vV AV KG zmr DO zvG zxv (bE zwv zxg zly zvA zwe)) func114 ⟨[jk 3342346 [vA 14 .Out,vA 15 .Note,pA 11 .Server []] [(54,92)],jk 3538955 [vA 14 .Out,vA 15 .Note,pA 11 .Server []] [(58,92)],jk 4390925 [vA 14 .Out,vA 15 .Note,pA 11 .Server []] [(71,92)],jk 5242895 [vA 14 .Out,vA 15 .Note,pA 11 .Server []] [(84,92)],jk 6881301 [pA 11 .Server []] [(19,20),(106,120)]],[jk 1 [vA 16 .Out,pA 11 .Server []] [(18,20),(96,125)],jk 2 [vA 16 .Out,pA 11 .Server []] [(18,20),(98,124)]],[jk 17 [vA 16 .Out,uA 96 fA,pA 11 .Server []] [(18,20),(97,125)]],[jq 2 35 23 34],[]⟩ (by kernel_rfl)
theorem zw4:iA 115 (cA [fG] [YE] Dv):=eR 24 (CB zlQ zgd) func115 (jl [jk 0 [vA 3 .Wire] [(5,5),(9,22)]] [jk 3 [vA 3 .Wire,uA 9 fA] [(5,5),(10,22)]]) (by kernel_rfl)
theorem zxK:iA 245 (cA [kA,fA,xB] [xB,CA] (u3 Er)):=eR 47 (MB lC nJ zlN) func245 (jr [jq 1 16 9 15]) (by kernel_rfl)
theorem zwI:iA 184 (cA [pC,fA,xB] [pC,pH,TC] (u3 Dg)):=eR 77 (ZF lC RO c53 zlC zgj zgt zgq zxK (CB zlM zlO)) func184 a0 (by kernel_rfl)
theorem zwS:iA 185 (cE [pC,fA,xB] [pC,pH,TC] (u3 Cl) [1,5,8,9,11,12,15,16,41,42]):=eR 152 (QM lC RO mV zdo OS zgy zl6 zlY) func185 ⟨[(3538954,⟨[vA 15 .Note,pA 9 .Client [1,5,8,9,11,12,15,16]],[(55,76)],[1000010]⟩),jk 5505037 [vA 15 .Note,pA 9 .Client [1,5,8,9,11,12,15,16]] [(85,100)],(6750224,⟨[vA 15 .Note],[(104,116)],[11]⟩)],[],[],[],[(23,[1000017])]⟩ (by kernel_rfl)
theorem zvL:iA 117 (cE [pC,fA,xB] [pC,pH,TC] (u3 Es) [1,5,8,9,11,12,15,16,41,42]):=eR 68 (QM AB zV LH RO nJ DO zwI zwS) func117 (jr [jq 1 21 9 20,jq 3 38 24 37,jq 5 58 46 57]) (by kernel_rfl)
theorem c60:iA 60 (cE [KD,fA,HB,kA] [KD,YE] (u4 Bf) [1,9,11,12,13,14]):=eR 95 (ZF c7 pJ AB KG c57 zwO zw4 zmr (PA zvL)) func60 (jr [jq 2 33 21 32]) (by kernel_rfl)
theorem c30:iA 30 (cA [KD,YE] [KD] (u2 Jf)):=eR 74 (oJ c7 pJ c26 c31 c36 c59 c60) func30 (jm [jk 0 [pA 4 .World [1,2,3,4,7,8,9,11,12,13]] [(7,7),(21,29)],jk 2 [vA 8 .Wire,pA 5 .World [1,2,3,4,7,8,9,11,12,13]] [(9,12),(32,72)],jk 3 [vA 8 .Wire,pA 5 .World [1,2,3,4,7,8,9,11,12,13]] [(10,12),(42,72)]] [jk 5 [uA 21 fA,pA 4 .World [1,2,3,4,7,8,9,11,12,13]] [(7,7),(22,29)],jk 12 [vA 8 .Wire,uA 9 fA,pA 5 .World [1,2,3,4,7,8,9,11,12,13]] [(10,12),(32,72)]] [jq 12 39 32 38]) (by kernel_rfl)
theorem c14:iA 14 (cA [KD] [KD] Jg):=eR 25 (bE c7 pJ c29 c30 c31) func14 (jr [jq 1 12 5 11]) (by kernel_rfl)
theorem c6:iA 6 (cA [KD,fA] [KD] (u2 Jh)):=eR 21 (MB pJ AB c14) func6 (jl [jk 0 [pA 5 .World [1,2,3,4,7,8,9,11,12,13]] [(6,6),(13,19)]] [jk 5 [uA 6 fA,pA 5 .World [1,2,3,4,7,8,9,11,12,13]] [(13,19)]]) (by kernel_rfl)
theorem c8:iA 8 (cA [KD] [CA] (λx=>zff x)):=eC 24 (PA c7) func8 (jm [jk 0 [] [(2,2),(4,4),(11,23)]] [jk 4 [uA 11 fA] [(2,2),(4,4),(12,23)]] [jq 6 22 15 21]) La (by kernel_rfl) tQ.ok
theorem c3:iA 3 (cA [kA] [CA] (λx=>some ((λ(a0:List UInt8)=>zkL a0) x))):=eD 29 (bE c4 c5 c6 c7 c8) func3 (jr [(5,⟨[uA 2 CA],[(11,28)],[1000003,1000004]⟩)]) Na (by kernel_rfl) RQ.ok
end Go.D

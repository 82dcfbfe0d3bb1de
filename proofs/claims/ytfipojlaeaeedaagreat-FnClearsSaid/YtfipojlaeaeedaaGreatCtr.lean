/-
 The functions of the program: each computes what is said of it.
-/
import Derived.Test.YtfipojlaeaeedaaGreatN15
import Derived.Test.YtfipojlaeaeedaaGreatProg
import Derived.KernelRfl
set_option linter.all false
namespace Go.D
open Go.Proofs
open Tryz
def tnT:TypeId→Option TN:=λt=>UB t [(3, .int),(5, .byte),(22, .bs),(52, .Frame),(63, .Client),(81, .Sess),(88, .Cand),(94, .Credit),(101, .Note),(120, .Wire),(158, .Op),(222, .Out)]
theorem zei:Tryz.prog.follows .mixedOrders=true:=by kernel_rfl
def TL:List (TypeId×TN):=[(3, .int),(5, .byte),(22, .bs),(52, .Frame),(63, .Client),(81, .Sess),(88, .Cand),(94, .Credit),(101, .Note),(120, .Wire),(158, .Op),(222, .Out)]
theorem zfH:LU prog TL=true:=by kernel_rfl
variable [OP TL]
def a0:An:=⟨[],[],[],[],[]⟩
abbrev u2{A B R:Type}(f:A→B→R):A×B→R:=λx=>f x.1 x.2
abbrev u3{A B C R:Type}(f:A→B→C→R):A×B×C→R:=λx=>f x.1 x.2.1 x.2.2
abbrev u4{A B C D R:Type}(f:A→B→C→D→R):A×B×C×D→R:=λx=>f x.1 x.2.1 x.2.2.1 x.2.2.2
abbrev u5{A B C D E R:Type}(f:A→B→C→D→E→R):A×B×C×D×E→R:=λx=>f x.1 x.2.1 x.2.2.1 x.2.2.2.1 x.2.2.2.2
abbrev u6{A B C D E F R:Type}(f:A→B→C→D→E→F→R):A×B×C×D×E×F→R:=λx=>f x.1 x.2.1 x.2.2.1 x.2.2.2.1 x.2.2.2.2.1 x.2.2.2.2.2
abbrev u7{A B C D E F G R:Type}(f:A→B→C→D→E→F→G→R):A×B×C×D×E×F×G→R:=λx=>f x.1 x.2.1 x.2.2.1 x.2.2.2.1 x.2.2.2.2.1 x.2.2.2.2.2.1 x.2.2.2.2.2.2
abbrev u8{A B C D E F G H R:Type}(f:A→B→C→D→E→F→G→H→R):A×B×C×D×E×F×G×H→R:=λx=>f x.1 x.2.1 x.2.2.1 x.2.2.2.1 x.2.2.2.2.1 x.2.2.2.2.2.1 x.2.2.2.2.2.2.1 x.2.2.2.2.2.2.2
def Ph:List (Nat×OA)→Prop
 | []=>True
 | (g,ci) :: l=>cB prog g ci∧Ph l
theorem pn:Ph []:=trivial
theorem ph{n:Nat}:∀(l:List (Nat×OA)),(l.all λp=>Nat.blt p.1 1048576)=true→Ph l→rE ⟨prog,λt=>UB t TL,λf=>sE f l,n,pI⟩
 | [],_,_=>zmH
 | (g,ci) :: l,h,k=>by
  simp only[List.all_cons,Bool.and_eq_true]at h;have hg:g % 1048576=g:=Nat.mod_eq_of_lt (by simpa[Nat.blt_eq]using h.1);exact zll (by rw[hg];exact k.1) (ph l h.2 k.2)
def cQ (n m : Nat) (l : List (Nat × OA)) (fn : Func) (ks : List WA) (ats : List Ty) : Bool := (l.all λp => Nat.blt p.1 1048576) && (fn.body.isSome && !(fn.name == "runtime.NumGoroutine") && Nat.beq n fn.ntmps && GB ks ats && Nat.ble m fn.ntmps)
theorem eC{f:Nat}{fn:Func}{ks:List WA}{ats rts:List Ty}{F:RA ats→Option (RA rts)}{sh:List (Bool×Nat)}{own:List Nat}(n:Nat){l:List (Nat×OA)}
  (hp:Ph l) (hf:prog.funcs[f]?=some fn) (an:An) (Raw:RA ats→Option (RA rts))
  (he:(cQ n ks.length l fn ks ats,λx=>PP ⟨prog,λt=>UB t TL,λf=>sE f l,n,pI⟩ fn (fn.body.getD .skip) an ks own sh rts (SA ats x))=(true,Raw))
  (ZW:∀{x},rA ats x→∀{r},F x=some r→Raw x=some r):cB prog f (QB ks ats rts F sh own false):=by
 obtain⟨h0,h1⟩:=Prod.mk.inj he;obtain⟨ha,hb⟩:=Bool.and_eq_true_iff.1 h0;exact evC n zei zfH (ph l ha hp) hf an Raw hb (λx=>congrFun h1 x) λ_ _ hb h=>ZW hb h
theorem eR{f:Nat}{fn:Func}{ks:List WA}{ats rts:List Ty}{F:RA ats→Option (RA rts)}{sh:List (Bool×Nat)}{own:List Nat}(n:Nat){l:List (Nat×OA)}
  (hp:Ph l) (hf:prog.funcs[f]?=some fn) (an:An)
  (he:(cQ n ks.length l fn ks ats,λx=>PP ⟨prog,λt=>UB t TL,λf=>sE f l,n,pI⟩ fn (fn.body.getD .skip) an ks own sh rts (SA ats x))=(true,F)):
  cB prog f (QB ks ats rts F sh own false):=eC n hp hf an F he λ_ _ h=>h
theorem eP{f:Nat}{fn:Func}{m:Nat}{ats rts:List Ty}{F:RA ats→Option (RA rts)}{sh:List (Bool×Nat)}(n:Nat){l:List (Nat×OA)}
  (hp:Ph l) (hf:prog.funcs[f]?=some fn) (an:An) (Raw:RA ats→Option (RA rts))
  (he:(cQ n m l fn (JC m) ats,λx=>KU ⟨prog,λt=>UB t TL,λf=>sE f l,n,pI⟩ fn (fn.body.getD .skip) an (JC m) rts (SA ats x))=(true,Raw))
  (ZW:∀{x},rA ats x→∀{r},F x=some r→Raw x=some r):cB prog f (QB (JC m) ats rts F sh [] true):=by
 obtain⟨h0,h1⟩:=Prod.mk.inj he;obtain⟨ha,hb⟩:=Bool.and_eq_true_iff.1 h0;exact evP n zei zfH (ph l ha hp) hf an Raw hb (λx=>congrFun h1 x) λ_ _ hb h=>ZW hb h
theorem eQ{f:Nat}{fn:Func}{m:Nat}{ats rts:List Ty}{F:RA ats→Option (RA rts)}{sh:List (Bool×Nat)}(n:Nat){l:List (Nat×OA)}
  (hp:Ph l) (hf:prog.funcs[f]?=some fn) (an:An)
  (he:(cQ n m l fn (JC m) ats,λx=>KU ⟨prog,λt=>UB t TL,λf=>sE f l,n,pI⟩ fn (fn.body.getD .skip) an (JC m) rts (SA ats x))=(true,F)):
  cB prog f (QB (JC m) ats rts F sh [] true):=eP n hp hf an F he λ_ _ h=>h
theorem eD{f:Nat}{fn:Func}{ks:List WA}{ats rts:List Ty}{G:RA ats→RA rts}{sh:List (Bool×Nat)}{own:List Nat}(n:Nat){l:List (Nat×OA)}
  (hp:Ph l) (hf:prog.funcs[f]?=some fn) (an:An) (Raw:RA ats→Option (RA rts))
  (he:(cQ n ks.length l fn ks ats,λx=>PP ⟨prog,λt=>UB t TL,λf=>sE f l,n,pI⟩ fn (fn.body.getD .skip) an ks own sh rts (SA ats x))=(true,Raw))
  (ZW:∀{x},rA ats x→Raw x=some (G x)):cB prog f (QB ks ats rts (λx=>some (G x)) sh own false):=eC n hp hf an Raw he λhb _ h=>(ZW hb).trans h
abbrev pA:Ty:= .sl .byte
abbrev xA:Ty:= .v .bool
abbrev HB:Ty:= .cells .Cur
abbrev eA:Ty:= .v .int
abbrev TI:Ty:= .v .Dice
abbrev tD:Ty:= .sl .int
abbrev yP:Ty:= .v .Jar
abbrev mF:Ty:= .v .Tab
abbrev nF:Ty:= .v .Ep
abbrev wC:Ty:= .v .Chan
abbrev EB:Ty:= .v .Addr
abbrev iH:Ty:= .v .Win
abbrev fF:Ty:= .v .Paths
abbrev VD:Ty:= .v .Sess
abbrev eF:Ty:= .sl .Credit
abbrev vE:Ty:= .v .Server
abbrev VT:Ty:= .sl .bs
abbrev CC:Ty:= .v .Client
abbrev TH:Ty:= .v .Note
abbrev GC:Ty:= .v .World
abbrev tC:Ty:= .v .Frame
abbrev bH:Ty:= .sl .Wire
abbrev TD:Ty:= .sl .Note
abbrev GM:Ty:= .v .Timer
abbrev BJ:Ty:= .sl .Frame
abbrev bF:Ty:= .cells .World
abbrev PI:Ty:= .sl .Out
abbrev qP:Ty:= .v .Hash
def tnS:TN→Nat×List Nat
 | .Addr=>(2,[])
 | .Cand=>(4,[2])
 | .Chan=>(15,[1,3,6,8,11,14])
 | .Client=>(41,[1,5,8,9,11,12,15,16,18,20,23,25,28,31])
 | .Dice=>(2,[0])
 | .Ep=>(5,[1,4])
 | .Frame=>(11,[2,3,5,6,9,10])
 | .Hash=>(3,[0,1])
 | .Jar=>(1,[0])
 | .Note=>(12,[3,4,7,8])
 | .Paths=>(3,[2])
 | .Server=>(7,[0,1,2,5,6])
 | .Sess=>(24,[1,2,4,6,9,11,14,17,20])
 | .Tab=>(2,[1])
 | .Timer=>(4,[])
 | .Win=>(2,[1])
 | .Wire=>(5,[4])
 | .World=>(14,[1,2,3,4,7,8,9,11,12,13])
 | _=>(0,[])
def kV:Ty→Bool×Nat
 | .v n=>match(tnS n).1 with
  | 0=>(false,1)
  | k=>(true,k)
 | _=>(false,1)
def tyO:Nat→List Ty→List Nat
 | _,[]=>[]
 | p, .v n :: l=>(tnS n).2.map (λi=>p+i)++tyO (p+(kV (.v n)).2) l
 | p,_ :: l=>p :: tyO (p+1) l
abbrev CT(n:Nat)(c:OA):=cB prog n c
abbrev cA(a r:List Ty)(F:RA a→Option (RA r)):=QB (JC a.length) a r F (r.map kV) (tyO 0 r) false
abbrev cN(a r:List Ty)(F:RA a→Option (RA r)):=QB (JC a.length) a r F (r.map kV) [] false
abbrev cE(a r:List Ty)(F:RA a→Option (RA r))(o:List Nat):=QB (JC a.length) a r F (r.map kV) o false
abbrev qA:=tB.slot
abbrev nA:=tB.box
abbrev vA:=tB.own
def jk(n:Nat)(a:List tB)(b:List (Nat×Nat)):Nat×JI:=(n,⟨a,b,[]⟩)
def jq(n s a b:Nat):Nat×JI:=(n,⟨[.slot s (.v .bool)],[(a,b)],[]⟩)
def jr(r:List (Nat×JI)):An:=⟨[],[],[],r,[]⟩
def jl(b l:List (Nat×JI)):An:=⟨[],b,l,[],[]⟩
def jc(c:List (Nat×JI)):An:=⟨c,[],[],[],[]⟩
def jm(b l r:List (Nat×JI)):An:=⟨[],b,l,r,[]⟩
def jn(c r:List (Nat×JI)):An:=⟨c,[],[],r,[]⟩
theorem YA{g0:Nat}{k0:OA}(h0:cB prog g0 k0):Ph [(g0,k0)]:=⟨h0,trivial⟩
theorem DB{g0:Nat}{k0:OA}{g1:Nat}{k1:OA}(h0:cB prog g0 k0)(h1:cB prog g1 k1):Ph [(g0,k0),(g1,k1)]:=⟨h0,h1,trivial⟩
theorem KB{g0:Nat}{k0:OA}{g1:Nat}{k1:OA}{g2:Nat}{k2:OA}(h0:cB prog g0 k0)(h1:cB prog g1 k1)(h2:cB prog g2 k2):Ph [(g0,k0),(g1,k1),(g2,k2)]:=⟨h0,h1,h2,trivial⟩
theorem jC{g0:Nat}{k0:OA}{g1:Nat}{k1:OA}{g2:Nat}{k2:OA}{g3:Nat}{k3:OA}(h0:cB prog g0 k0)(h1:cB prog g1 k1)(h2:cB prog g2 k2)(h3:cB prog g3 k3):Ph [(g0,k0),(g1,k1),(g2,k2),(g3,k3)]:=⟨h0,h1,h2,h3,trivial⟩
theorem ZE{g0:Nat}{k0:OA}{g1:Nat}{k1:OA}{g2:Nat}{k2:OA}{g3:Nat}{k3:OA}{g4:Nat}{k4:OA}(h0:cB prog g0 k0)(h1:cB prog g1 k1)(h2:cB prog g2 k2)(h3:cB prog g3 k3)(h4:cB prog g4 k4):Ph [(g0,k0),(g1,k1),(g2,k2),(g3,k3),(g4,k4)]:=⟨h0,h1,h2,h3,h4,trivial⟩
theorem yF{g0:Nat}{k0:OA}{g1:Nat}{k1:OA}{g2:Nat}{k2:OA}{g3:Nat}{k3:OA}{g4:Nat}{k4:OA}{g5:Nat}{k5:OA}(h0:cB prog g0 k0)(h1:cB prog g1 k1)(h2:cB prog g2 k2)(h3:cB prog g3 k3)(h4:cB prog g4 k4)(h5:cB prog g5 k5):Ph [(g0,k0),(g1,k1),(g2,k2),(g3,k3),(g4,k4),(g5,k5)]:=⟨h0,h1,h2,h3,h4,h5,trivial⟩
theorem tG{g0:Nat}{k0:OA}{g1:Nat}{k1:OA}{g2:Nat}{k2:OA}{g3:Nat}{k3:OA}{g4:Nat}{k4:OA}{g5:Nat}{k5:OA}{g6:Nat}{k6:OA}(h0:cB prog g0 k0)(h1:cB prog g1 k1)(h2:cB prog g2 k2)(h3:cB prog g3 k3)(h4:cB prog g4 k4)(h5:cB prog g5 k5)(h6:cB prog g6 k6):Ph [(g0,k0),(g1,k1),(g2,k2),(g3,k3),(g4,k4),(g5,k5),(g6,k6)]:=⟨h0,h1,h2,h3,h4,h5,h6,trivial⟩
theorem pc8{g0:Nat}{k0:OA}{g1:Nat}{k1:OA}{g2:Nat}{k2:OA}{g3:Nat}{k3:OA}{g4:Nat}{k4:OA}{g5:Nat}{k5:OA}{g6:Nat}{k6:OA}{g7:Nat}{k7:OA}(h0:cB prog g0 k0)(h1:cB prog g1 k1)(h2:cB prog g2 k2)(h3:cB prog g3 k3)(h4:cB prog g4 k4)(h5:cB prog g5 k5)(h6:cB prog g6 k6)(h7:cB prog g7 k7):Ph [(g0,k0),(g1,k1),(g2,k2),(g3,k3),(g4,k4),(g5,k5),(g6,k6),(g7,k7)]:=⟨h0,h1,h2,h3,h4,h5,h6,h7,trivial⟩
theorem UF{g0:Nat}{k0:OA}{g1:Nat}{k1:OA}{g2:Nat}{k2:OA}{g3:Nat}{k3:OA}{g4:Nat}{k4:OA}{g5:Nat}{k5:OA}{g6:Nat}{k6:OA}{g7:Nat}{k7:OA}{l:List (Nat×OA)}(h0:cB prog g0 k0)(h1:cB prog g1 k1)(h2:cB prog g2 k2)(h3:cB prog g3 k3)(h4:cB prog g4 k4)(h5:cB prog g5 k5)(h6:cB prog g6 k6)(h7:cB prog g7 k7)(h:Ph l):Ph ((g0,k0) :: (g1,k1) :: (g2,k2) :: (g3,k3) :: (g4,k4) :: (g5,k5) :: (g6,k6) :: (g7,k7) :: l):=⟨h0,h1,h2,h3,h4,h5,h6,h7,h⟩
theorem c4:CT 4 (cA [pA] [xA] (λx=>some (big x))):=eD 6 pn func4 a0 Mg (by kernel_rfl) wT.ok
theorem zK:CT 22 (QB (JC 1) [pA] [HB] Bi [(false,1)] [] true):=eQ 32 pn func22 (jm [jk 0 [qA 3 eA] [(4,4),(8,27)]] [jk 3 [qA 3 eA,qA 4 eA] [(8,27)]] [jq 3 15 8 14]) (by kernel_rfl)
theorem c63:CT 63 (QB [.ptr []] [HB] [eA,HB] Bf [(false,1)] [] false):=eR 58 pn func63 (jc [jk 2228229 [qA 3 eA,nA 0 .Cur []] [(35,56)]]) (by kernel_rfl)
theorem VP:CT 100 (QB [.ptr [], .plain] [HB,eA] [pA,HB] (u2 Bb) [(false,1)] [0] false):=eR 20 (YA c63) func100 (jl [jk 0 [vA 5 .byte,nA 0 .Cur []] [(6,6),(8,18)]] [jk 3 [vA 5 .byte,qA 6 eA,nA 0 .Cur []] [(8,18)]]) (by kernel_rfl)
theorem tE:CT 26 (QB [.ptr [], .plain] [HB,eA] [eA,HB] (u2 Ap) [(false,1)] [] false):=eR 31 (YA c63) func26 a0 (by kernel_rfl)
theorem cV:CT 130 (cA [TI] [TI] (λx=>MH x)):=eC 10 pn func130 a0 Kd (by kernel_rfl) rO.ok
theorem aB:CT 34 (cA [eA,eA,eA] [xA] (λx=>some (gA x.1 x.2.1 x.2.2))):=eD 15 pn func34 (jr [jq 1 6 7 14]) (u3 Kn) (by kernel_rfl) cT.ok
theorem tV:CT 69 (cA [TI] [xA] (λx=>some (zC x))):=eD 12 (YA aB) func69 (jr [jq 1 2 3 11]) Ll (by kernel_rfl) ER.ok
theorem SG:CT 75 (cA [pA,eA,eA] [pA] (λx=>bC x.1 x.2.1 x.2.2)):=eC 35 pn func75 (jm [jk 0 [vA 7 .byte] [(8,8),(21,33)]] [jk 5 [vA 7 .byte,qA 8 eA] [(21,33)]] [jq 2 17 12 16]) (u3 Md) (by kernel_rfl) IS.ok
theorem zoi:CT 163 (cA [eA] [pA] (λx=>lJ x)):=eC 27 (YA SG) func163 (jm [jk 0 [vA 3 .byte] [(12,21)]] [jk 4 [vA 3 .byte] [(12,21)]] [jq 1 9 4 8]) Gd (by kernel_rfl) WM.ok
theorem zop:CT 164 (cA [] [tD] (λ_=>some (dD))):=eD 2 pn func164 a0 (λ_=>Me) (by kernel_rfl) yS.ok
theorem zom:CT 210 (cA [tD] [xA] (λx=>some (tU x))):=eD 19 (YA aB) func210 (jl [jk 0 [] [(2,15)]] [jk 2 [qA 3 eA] [(2,2),(4,15)]]) Ge (by kernel_rfl) rL.ok
theorem zoy:CT 211 (cA [] [tD] (λ_=>some (mG))):=eD 2 pn func211 a0 (λ_=>Mf) (by kernel_rfl) zT.ok
theorem zgh:CT 234 (cA [pA,eA,eA] [eA,eA,xA] (λx=>QF x.1 x.2.1 x.2.2)):=eC 48 pn func234 (jm [jk 0 [qA 9 eA] [(10,10),(29,43)]] [jk 5 [qA 9 eA,qA 10 eA] [(29,43)]] [jq 1 28 11 27]) (u3 Gf) (by kernel_rfl) HM.ok
theorem zgc:CT 213 (cA [eA,eA] [eA] (λx=>RC x.1 x.2)):=eC 24 pn func213 (jr [jq 2 13 8 12]) (u2 Gg) (by kernel_rfl) gN.ok
theorem zn7:CT 212 (cA [pA] [tD] (λx=>CI x)):=eC 84 (DB zgc zgh) func212 (jl [jk 0 [vA 3 .int] [(4,7),(18,33)],jk 2 [vA 3 .int] [(8,12),(34,82)]] [jk 5 [vA 3 .int,qA 4 eA] [(5,7),(18,33)],jk 10 [vA 3 .int,qA 8 eA] [(9,12),(34,82)]]) Gh (by kernel_rfl) TK.ok
theorem zpc:CT 165 (cA [tD,pA] [tD] (λx=>OH x.1 x.2)):=eC 156 (jC zom zoy zn7 zgc) func165 (jm [jk 0 [qA 8 eA,qA 9 eA,qA 10 eA,qA 11 eA,qA 12 eA,qA 13 eA,qA 14 eA,qA 15 eA] [(16,18),(60,128)],jk 2 [vA 5 .int] [(20,20),(138,154)]] [jk 8 [qA 8 eA,qA 9 eA,qA 10 eA,qA 11 eA,qA 12 eA,qA 13 eA,qA 14 eA,qA 15 eA,qA 16 eA] [(17,18),(60,128)],jk 22 [qA 20 eA,vA 5 .int] [(138,154)]] [jq 2 31 24 30]) (u2 Gi) (by kernel_rfl) XK.ok
theorem zn3:CT 166 (cA [tD] [pA] (λx=>JH x)):=eC 17 (YA SG) func166 (jl [jk 0 [vA 3 .byte] [(4,4),(6,15)]] [jk 3 [vA 3 .byte,qA 4 eA] [(6,15)]]) Gj (by kernel_rfl) vM.ok
theorem zgd:CT 118 (cA [pA] [pA] (λx=>some (fD x))):=eD 33 (jC zoi zop zpc zn3) func118 (jl [(0,⟨[vA 4 .int],[(5,5),(18,30)],[3]⟩)] [jk 6 [vA 4 .int,qA 5 eA] [(18,30)]]) Gk (by kernel_rfl) eN.ok
theorem znO:CT 117 (cA [pA] [pA] (λx=>some (MC x))):=eD 23 (YA zgd) func117 ⟨[jk 851974 [vA 3 .byte] [(14,15)]],[jk 0 [vA 3 .byte] [(16,21)]],[jk 6 [vA 3 .byte] [(16,21)]],[],[]⟩ Gm (by kernel_rfl) aL.ok
theorem JN:CT 74 (cA [pA,pA] [pA] (λx=>some (YC x.1 x.2))):=eD 49 (DB znO zgd) func74 (jm [jk 0 [vA 6 .byte,vA 7 .byte] [(8,8),(22,41)]] [jk 7 [vA 6 .byte,vA 7 .byte,qA 8 eA] [(22,41)]] [jq 1 16 9 15]) (u2 Gn) (by kernel_rfl) OM.ok
theorem mV:CT 38 (cA [pA,eA] [pA] (λx=>some (aC x.1 x.2))):=eD 24 (KB aB JN SG) func38 (jr [jq 1 13 5 12]) (u2 Gp) (by kernel_rfl) fM.ok
theorem bV:CT 134 (cA [TI] [TI,pA] (λx=>iI x)):=eC 27 (KB mV tV cV) func134 (jr [jq 2 14 7 13]) Ke (by kernel_rfl) VO.ok
theorem zo6:CT 230 (cA [pA,pA,eA] [pA,xA] (λx=>some (mH x.1 x.2.1 x.2.2))):=eD 52 (DB aB JN) func230 (jm [jk 0 [vA 8 .byte,vA 9 .byte] [(10,10),(27,46)]] [jk 6 [vA 8 .byte,vA 9 .byte,qA 10 eA] [(27,46)]] [jq 1 23 11 22]) (u3 Gs) (by kernel_rfl) lM.ok
theorem tK:CT 197 (cA [pA, .v .str] [pA] (λx=>BG x.1 x.2)):=eC 15 (YA zo6) func197 a0 (u2 Kf) (by kernel_rfl) CO.ok
theorem zf8:CT 199 (cA [pA] [yP] (λx=>some (jG x))):=eD 10 (YA tK) func199 a0 Kg (by kernel_rfl) JO.ok
theorem zfR:CT 200 (cA [eA] [mF] (λx=>some (PE x))):=eD 9 (YA aB) func200 a0 Kh (by kernel_rfl) zO.ok
theorem zb1:CT 107 (cA [yP] [xA] (λx=>some (UE x))):=eD 7 pn func107 a0 Lm (by kernel_rfl) kS.ok
theorem iV:CT 36 (cA [mF] [eA] (λx=>qF x)):=eC 22 pn func36 ⟨[jk 1179655 [qA 3 eA] [(19,20)]],[jk 0 [qA 3 eA] [(4,20)]],[jk 3 [qA 3 eA,qA 4 eA] [(5,20)]],[],[]⟩ Ln (by kernel_rfl) HS.ok
theorem zgk:CT 159 (cA [nF] [xA] (λx=>some (sF x))):=eD 30 pn func159 (jr [jq 1 2 3 29]) Dq (by kernel_rfl) uL.ok
theorem zf5:CT 113 (cA [wC] [xA] (λx=>some (RE x))):=eD 38 (YA zgk) func113 (jr [jq 1 2 3 37]) Em (by kernel_rfl) KK.ok
theorem yH:CT 25 (cA [eA] [EB] (λx=>some (uB x))):=eD 12 (YA aB) func25 a0 La (by kernel_rfl) PS.ok
theorem zgl:CT 233 (cA [iH,eA] [xA] (λx=>uF x.1 x.2)):=eC 19 pn func233 a0 (u2 Ks) (by kernel_rfl) vS.ok
theorem zgs:CT 209 (cA [iH] [xA] (λx=>some (FE x))):=eD 46 (DB aB zgl) func209 (jm [jk 0 [] [(2,3),(15,25)],jk 2 [] [(2,2),(4,4),(39,45)]] [jk 4 [qA 3 eA] [(2,2),(15,25)],jk 11 [qA 4 eA] [(2,2),(39,45)]] [jq 1 14 5 13,jq 8 35 26 34]) Dp (by kernel_rfl) wM.ok
theorem zbS:CT 160 (cA [nF] [xA] (λx=>some (HE x))):=eD 22 (DB aB zgs) func160 (jr [jq 1 2 3 21]) Kt (by kernel_rfl) DS.ok
theorem qG:CT 114 (cA [wC] [xA] (λx=>IC x)):=eC 74 (KB aB zgk zbS) func114 (jn [jk 1376261 [] [(2,3),(22,54)],jk 1572871 [qA 3 eA] []] [jq 1 19 4 18,jq 7 45 25 44,jq 9 54 46 53,jq 13 2 59 73]) Dr (by kernel_rfl) PL.ok
theorem zH:CT 72 (cA [pA,pA] [xA] (λx=>PB x.1 x.2)):=eC 10 pn func72 a0 (u2 Kq) (by kernel_rfl) NR.ok
theorem IE:CT 44 (cA [EB] [xA] (λx=>some (bB x))):=eD 11 (YA aB) func44 (jr [jq 1 2 3 10]) Ky (by kernel_rfl) vR.ok
theorem uV:CT 77 (cA [fF] [xA] (λx=>some (jD x))):=eD 65 (DB aB IE) func77 (jm [jk 0 [] [(2,5),(16,64)],jk 2 [] [(2,2),(5,5),(51,64)]] [jk 4 [qA 3 eA] [(2,2),(4,5),(16,64)],jk 10 [qA 5 eA] [(2,2),(51,64)]] [jq 1 15 6 14,jq 7 50 28 49]) En (by kernel_rfl) yL.ok
theorem rK:CT 158 (cA [VD] [xA] (λx=>qE x)):=eC 77 (yF yH aB zH uV zf5 qG) func158 (jr [jq 1 30 3 29,jq 4 2 33 54,jq 5 2 55 76]) Eo (by kernel_rfl) VL.ok
theorem AH:CT 37 (cA [mF,pA] [eA] (λx=>xC x.1 x.2)):=eC 22 (YA zH) func37 (jl [jk 0 [] [(4,21)]] [jk 2 [qA 5 eA] [(4,4),(6,21)]]) (u2 Lo) (by kernel_rfl) LR.ok
theorem zbW:CT 108 (cA [mF] [xA] (λx=>oH x)):=eC 47 (jC aB iV AH rK) func108 (jm [jk 0 [] [(2,3),(21,46)]] [jk 4 [qA 3 eA] [(2,2),(21,46)]] [jq 1 20 4 19,jq 6 46 28 45]) Eq (by kernel_rfl) sM.ok
theorem fQ:CT 49 (cA [eF] [xA] (λx=>some (iD x))):=eD 61 (DB aB IE) func49 (jm [jk 0 [] [(2,4),(8,60)],jk 2 [] [(2,2),(4,4),(45,60)]] [jk 4 [qA 3 eA] [(2,2),(4,4),(8,60)],jk 9 [qA 4 eA] [(2,2),(45,60)]] [jq 6 44 14 43]) Er (by kernel_rfl) MK.ok
theorem DN:CT 109 (cA [pA] [xA] (λx=>some (mC x))):=eD 6 (YA aB) func109 a0 Lp (by kernel_rfl) rS.ok
theorem sJ:CT 68 (cA [vE] [xA] (λx=>lD x)):=eC 67 (yF aB fQ tV zb1 zbW DN) func68 (jm [jk 0 [] [(2,3),(34,47)],jk 2 [] [(2,2),(4,4),(48,66)]] [jk 4 [qA 3 eA] [(2,2),(34,47)],jk 9 [qA 4 eA] [(2,2),(48,66)]] [jq 1 33 5 32]) Lq (by kernel_rfl) MQ.ok
theorem znK:CT 172 (cA [VT,pA,eA] [vE] (λx=>iS x.1 x.2.1 x.2.2)):=eC 45 (jC sJ bV zf8 zfR) func172 (jl [jk 0 [nA 9 .Server [0,1,2,5,6]] [(10,10),(23,39)]] [jk 4 [qA 10 eA,nA 9 .Server [0,1,2,5,6]] [(23,39)]]) (u3 Ki) (by kernel_rfl) ON.ok
theorem zos:CT 173 (cA [pA] [pA] (λx=>MT x)):=eC 15 pn func173 (jc [jk 589828 [vA 3 .byte] [(10,11)]]) Kj (by kernel_rfl) uO.ok
theorem c97:CT 97 (cA [eA,pA,EB] [CC] (λx=>AI x.1 x.2.1 x.2.2)):=eC 27 (KB aB IE DN) func97 (jr [jq 1 19 7 18]) (u3 Kk) (by kernel_rfl) SN.ok
theorem YU:CT 136 (cA [pA] [TH] (λx=>FH x)):=eC 7 pn func136 a0 Kl (by kernel_rfl) QN.ok
theorem zoZ:CT 125 (cA [pA,pA,pA,eA] [GC] (λx=>WS x.1 x.2.1 x.2.2.1 x.2.2.2)):=eC 46 (tG yH mV sJ c97 YU znK zos) func125 a0 (u4 Km) (by kernel_rfl) bO.ok
theorem c90:CT 90 (QB [.ptr []] [HB] [GC,HB] Gu [(true,14)] [1,2,3,4,7,8,9,11,12,13] false):=eR 13 (KB tE VP zoZ) func90 a0 (by kernel_rfl)
theorem qV:CT 58 (QB [.ptr [], .plain] [HB,eA] [xA,HB] (u2 Bc) [(false,1)] [] false):=eR 9 (YA tE) func58 a0 (by kernel_rfl)
theorem qI:CT 59 (QB [.ptr [], .plain] [HB,tD] [eA,HB] (u2 Ax) [(false,1)] [] false):=eR 12 (YA tE) func59 a0 (by kernel_rfl)
theorem znJ:CT 174 (QB [.ptr []] [HB] [.v .Op,HB] Ch [(true,4)] [3] false):=eR 25 (KB tE qI VP) func174 (jc [jk 655364 [nA 0 .Cur [],nA 3 .Op [3]] [(11,16)]]) (by kernel_rfl)
theorem zfN:CT 175 (cA [eA] [eA] Bt):=eR 9 pn func175 a0 (by kernel_rfl)
theorem zn9:CT 126 (QB [.ptr [], .plain] [HB,eA] [.sl .Op,HB] (u2 Hj) [(false,1)] [0] false):=eR 53 (KB tE znJ zfN) func126 (jm [jk 0 [vA 5 .Op,qA 6 eA,nA 0 .Cur []] [(7,9),(15,43)],jk 2 [nA 0 .Cur [],nA 8 .Op [3]] [(9,9),(21,33)],jk 4 [vA 5 .Op] [(6,6),(44,51)]] [jk 4 [vA 5 .Op,qA 6 eA,qA 7 eA,nA 0 .Cur []] [(8,9),(15,43)],jk 8 [qA 9 eA,nA 0 .Cur [],nA 8 .Op [3]] [(21,33)],jk 13 [vA 5 .Op,qA 6 eA] [(44,51)]] [jq 8 29 21 28]) (by kernel_rfl)
theorem zo9:CT 127 (QB [.ptr []] [HB] [eA,pA,HB] Hk [(false,1),(false,1)] [1] false):=eR 25 (KB tE qI VP) func127 a0 (by kernel_rfl)
theorem gV:CT 216 (cA [eA,pA,eA,eA] [pA] (u4 Bn)):=eR 37 (DB aB SG) func216 (jr [jq 1 26 9 25]) (by kernel_rfl)
theorem oK:CT 161 (cA [eA] [xA] (λx=>some (NC x))):=eD 5 (YA aB) func161 a0 Lt (by kernel_rfl) UR.ok
theorem zb4:CT 162 (cA [eA,eA] [xA] (λx=>some (gG x.1 x.2))):=eD 19 pn func162 (jr [jq 3 14 9 13]) (u2 Kc) (by kernel_rfl) wO.ok
theorem zps:CT 256 (cA [pA,pA,eA] [pA] (u3 Hl)):=eR 23 (KB aB JN SG) func256 (jr [jq 1 14 7 13]) (by kernel_rfl)
theorem znF:CT 231 (cA [pA,pA,eA] [pA] (u3 Hm)):=eR 41 (DB aB zps) func231 (jm [jk 0 [vA 7 .byte] [(8,8),(24,35)]] [jk 5 [vA 7 .byte,qA 8 eA] [(24,35)]] [jq 1 21 9 20]) (by kernel_rfl)
theorem zb6:CT 198 (cA [pA,pA,pA] [pA] (u3 Bu)):=eR 49 (YA znF) func198 (jm [jk 0 [vA 7 .byte] [(9,9),(30,47)]] [jk 6 [vA 7 .byte,qA 9 eA] [(30,47)]] [jq 2 23 11 22]) (by kernel_rfl)
theorem oI:CT 115 (cA [tC] [xA] (λx=>some (HD x))):=eD 174 (KB aB oK zb4) func115 (jr [jq 2 2 6 61,jq 3 87 62 86,jq 7 2 92 117,jq 9 2 120 145,jq 11 2 148 173]) Eu (by kernel_rfl) HL.ok
theorem sK:CT 177 (cA [eA,tC] [pA] (u2 Bg)):=eR 40 (jC aB oI oK gV) func177 (jr [jq 1 19 6 18]) (by kernel_rfl)
theorem UP:CT 196 (cA [pA,pA] [pA] (u2 Bl)):=eR 17 (YA JN) func196 a0 (by kernel_rfl)
theorem zgn:CT 176 (cA [pA,eA,pA,eA,eA,eA,pA] [tC,xA] (u7 Ci)):=eR 72 (yF oK zb4 sK UP zb6 gV) func176 (jm [jk 0 [nA 17 .Frame [2,3,5,6,9,10]] [(18,18),(56,64)]] [jk 6 [qA 18 eA,nA 17 .Frame [2,3,5,6,9,10]] [(56,64)]] [jq 2 43 24 42]) (by kernel_rfl)
theorem zou:CT 128 (cA [pA,eA,eA,pA,eA,eA,eA,pA] [.sl .Op] (u8 Hn)):=eR 65 (jC aB SG zgn sK) func128 (jr [jq 2 37 31 36]) (by kernel_rfl)
theorem c91:CT 91 (QB [.ptr [], .plain, .ptr [], .plain] [HB,GC, .cells .int,xA] [.v .Event,HB, .cells .int] (u4 Ho) [(true,6)] [4] false):=eR 239 (tG tE qV qI VP zn9 zo9 zou) func91 (jn [jk 5111823 [nA 0 .Cur [],nA 9 .Event [4,5]] [(79,86)],jq 6225941 95 97 97,jk 6225942 [nA 9 .Event [4],nA 0 .Cur []] [(10,15),(98,204)],jk 6881305 [nA 0 .Cur [],nA 9 .Event [4]] [(10,14),(106,155)],jk 8060956 [qA 11 pA] [(124,129)],(10027040,⟨[nA 9 .Event [4]],[(154,155)],[14]⟩),jk 10223650 [nA 9 .Event [4,5],nA 0 .Cur []] [(15,15),(158,204)],jk 10420260 [nA 9 .Event [4,5],nA 0 .Cur []] [(15,15),(161,204)],jk 10616870 [nA 9 .Event [4,5],nA 0 .Cur []] [(15,15),(164,204)],jk 11010089 [nA 9 .Event [4,5],nA 0 .Cur []] [(15,15),(170,204)],jk 11206699 [nA 9 .Event [4,5],nA 0 .Cur []] [(15,15),(173,204)],jk 11599918 [nA 0 .Cur [],nA 9 .Event [4,5]] [(15,15),(179,204)],jk 11796527 [nA 9 .Event [4,5],nA 0 .Cur []] [(181,184)],jk 12124210 [nA 9 .Event [4,5],nA 0 .Cur []] [(15,15),(187,204)],jq 13434934 205 207 208,jq 13434935 205 208 208,jk 13434936 [nA 9 .Event [4],nA 0 .Cur [],nA 8 .Event [4,5]] [(10,15),(64,204),(209,237)],jq 14090299 215 217 217,jk 14090300 [nA 9 .Event [4],nA 0 .Cur [],nA 8 .Event [4,5]] [(10,15),(64,204),(218,237)],jq 14876736 227 229 229,jk 14876737 [nA 9 .Event [4],nA 0 .Cur [],nA 8 .Event [4,5]] [(10,15),(64,204),(230,237)],jk 15138883 [nA 9 .Event [4],nA 0 .Cur [],nA 8 .Event [4,5]] [(10,15),(64,204),(233,237)],jq 15335493 234 236 236,jk 15335494 [nA 9 .Event [4],nA 0 .Cur [],nA 8 .Event [4,5]] [(10,15),(64,204),(237,237)]] [jk 2 [qA 34 xA,nA 0 .Cur []] [(23,33)],jk 7 [qA 59 xA,nA 0 .Cur []] [(47,58)],jk 13 [qA 78 xA,nA 0 .Cur []] [(71,77)],jk 26 [qA 123 xA,nA 0 .Cur []] [(117,122)]]) (by kernel_rfl)
theorem zga:CT 235 (cA [iH] [iH] (λx=>(λ(a0:Ao)=>LA a0) x)):=eC 10 pn func235 a0 Gv (by kernel_rfl) dM.ok
theorem eV:CT 218 (cA [nF] [nF] (λx=>(λ(a0:Av)=>LA a0) x)):=eC 15 (YA zga) func218 a0 Gw (by kernel_rfl) cM.ok
theorem zpe:CT 219 (cA [nF,xA] [nF] (λx=>oU x.1 x.2)):=eC 27 (YA eV) func219 a0 (u2 Gx) (by kernel_rfl) rM.ok
theorem xH:CT 181 (cA [wC] [wC] (λx=>(λ(a0:Ak)=>LA a0) x)):=eC 26 (DB eV zpe) func181 a0 Gy (by kernel_rfl) NL.ok
theorem nV:CT 78 (cA [.v .Cand] [.v .Cand] (λx=>GI x)):=eC 12 pn func78 a0 Lv (by kernel_rfl) nR.ok
theorem dV:CT 153 (cA [fF] [fF] (λx=>(λ(a0:Aj)=>LA a0) x)):=eC 27 (YA nV) func153 (jl [jk 0 [nA 3 .Paths [2]] [(4,4),(8,25)]] [jk 3 [qA 4 eA,nA 3 .Paths [2]] [(8,25)]]) Gz (by kernel_rfl) DL.ok
theorem nK:CT 217 (cA [VD] [VD] (λx=>(λ(a0:Al)=>LA a0) x)):=eC 24 (DB dV xH) func217 a0 Ha (by kernel_rfl) EL.ok
theorem zb7:CT 178 (cA [mF] [mF] (λx=>(λ(a0:Am)=>LA a0) x)):=eC 27 (YA nK) func178 (jl [jk 0 [nA 3 .Tab [1]] [(4,4),(8,25)]] [jk 3 [qA 4 eA,nA 3 .Tab [1]] [(8,25)]]) Hb (by kernel_rfl) lL.ok
theorem CN:CT 129 (cA [vE] [vE] (λx=>(λ(a0:Ac)=>LA a0) x)):=eC 42 (DB cV zb7) func129 (jl [jk 0 [nA 3 .Server [0,1,2,5,6]] [(4,4),(22,40)]] [jk 3 [qA 4 eA,nA 3 .Server [0,1,2,5,6]] [(22,40)]]) Hc (by kernel_rfl) zL.ok
theorem znY:CT 131 (cA [bH] [bH] (λx=>(λ(a0:List Aq)=>LA a0) x)):=eC 34 pn func131 (jl [jk 0 [vA 3 .Wire] [(4,4),(6,32)]] [jk 3 [vA 3 .Wire,qA 4 eA] [(6,32)]]) Hd (by kernel_rfl) mL.ok
theorem zoa:CT 179 (cA [TH] [TH] (λx=>(λ(a0:Af)=>LA a0) x)):=eC 24 pn func179 a0 He (by kernel_rfl) ML.ok
theorem znN:CT 132 (cA [TD] [TD] (λx=>(λ(a0:List Af)=>LA a0) x)):=eC 21 (YA zoa) func132 (jl [jk 0 [vA 3 .Note] [(4,4),(6,19)]] [jk 3 [vA 3 .Note,qA 4 eA] [(6,19)]]) Hf (by kernel_rfl) oM.ok
theorem XU:CT 180 (cA [tC] [tC] (λx=>(λ(a0:Ab)=>LA a0) x)):=eC 34 pn func180 a0 Hg (by kernel_rfl) gM.ok
theorem pJ:CT 133 (cA [CC] [CC] (λx=>(λ(a0:Ad)=>LA a0) x)):=eC 24 (DB XU xH) func133 a0 Hh (by kernel_rfl) pL.ok
theorem c92:CT 92 (cA [GC] [GC] (λx=>(λ(a0:Aa)=>LA a0) x)):=eC 59 (ZE CN cV znY znN pJ) func92 (jl [jk 0 [nA 3 .World [1,2,3,4,7,8,9,11,12,13]] [(4,4),(21,38)],jk 2 [nA 3 .World [1,2,3,4,7,8,9,11,12,13]] [(5,5),(39,57)]] [jk 3 [qA 4 eA,nA 3 .World [1,2,3,4,7,8,9,11,12,13]] [(21,38)],jk 7 [qA 5 eA,nA 3 .World [1,2,3,4,7,8,9,11,12,13]] [(39,57)]]) Hi (by kernel_rfl) wL.ok
theorem c93:CT 93 (cA [.v .Event] [xA] (λx=>some (WJ x))):=eD 33 (YA aB) func93 (jr [jq 1 2 3 32]) Ko (by kernel_rfl) jR.ok
theorem zfQ:CT 111 (cA [GM] [xA] (λx=>some (ID x))):=eD 37 (YA aB) func111 (jr [jq 3 2 9 36]) Es (by kernel_rfl) iL.ok
theorem znH:CT 112 (cA [tC] [xA] (λx=>some (OE x))):=eD 62 pn func112 (jr [jq 1 2 3 61]) Et (by kernel_rfl) DK.ok
theorem rJ:CT 71 (cA [CC] [xA] (λx=>wE x)):=eC 204 (UF aB IE zH DN zfQ znH zf5 qG (YA oI)) func71 (jr [jq 1 36 3 35,jq 4 2 40 70,jq 8 2 78 108,jq 9 122 109 121,jq 12 2 126 133,jq 13 2 134 203]) Ev (by kernel_rfl) eL.ok
theorem fV:CT 182 (cA [eA] [GM] Bo):=eR 10 (YA aB) func182 a0 (by kernel_rfl)
theorem zfZ:CT 183 (cA [CC] [tC] Cj):=eR 10 pn func183 a0 (by kernel_rfl)
theorem zoH:CT 135 (cA [CC,eA,pA] [CC,BJ,TD,eA] (u3 Hp)):=eR 57 (ZE aB rJ pJ fV zfZ) func135 (jr [jq 2 26 14 25]) (by kernel_rfl)
theorem pV:CT 45 (cA [] [EB] (λ_=>some (jE))):=eD 2 (YA yH) func45 a0 (λ_=>Lb) (by kernel_rfl) vT.ok
theorem zbU:CT 222 (cA [tC] [pA] Bv):=eR 91 (DB SG oI) func222 ⟨[jk 2097161 [vA 3 .byte] [(4,4),(15,31),(34,89)],jk 3276815 [vA 3 .byte] [(15,31),(52,89)],jk 4325394 [vA 3 .byte] [(15,31),(68,89)]],[jk 1 [vA 3 .byte] [(4,4),(43,49)]],[jk 10 [vA 3 .byte,qA 4 eA] [(43,49)]],[],[]⟩ (by kernel_rfl)
theorem zf2:CT 188 (cA [EB,EB,tC] [.v .Wire] (u3 Ck)):=eR 12 (YA zbU) func188 a0 (by kernel_rfl)
theorem zb2:CT 184 (cA [CC,BJ] [bH] (u2 Bw)):=eR 26 (DB pV zf2) func184 (jl [jk 0 [vA 5 .Wire] [(6,6),(8,24)]] [jk 3 [vA 5 .Wire,qA 6 eA] [(8,24)]]) (by kernel_rfl)
theorem zbQ:CT 140 (QB [.ptr [1,7,11,12,13], .plain, .plain] [bF,bH,TD] [bF] (u3 Bj) [] [1,7,11,12,13] false):=eR 41 pn func140 ⟨[jk 1179653 [nA 0 .World [1,7,11,12,13]] [(19,31)]],[jk 0 [nA 0 .World [1,7,11,12,13]] [(6,31)]],[jk 1 [qA 6 eA,nA 0 .World [1,7,11,12,13]] [(7,31)]],[],[]⟩ (by kernel_rfl)
theorem zoY:CT 137 (QB [.ptr [1,7,11,12,13], .plain, .plain, .plain, .plain] [bF,eA,CC,BJ,TD] [bF] (u5 Bp) [] [1,7,11,12,13] false):=eR 23 (DB zbQ zb2) func137 a0 (by kernel_rfl)
theorem zoB:CT 220 (cA [nF,eA,pA,eA,pA] [nF,tC,eA] (u5 Hq)):=eR 78 (yF zbS oK zb4 zgn gV eV) func220 (jr [jq 2 41 18 40,jq 4 50 44 49]) (by kernel_rfl)
theorem FN:CT 185 (cE [wC,eA,pA] [wC,tC,eA] (u3 Bk) [1,8,11,14,17,18,20,21,24,25]):=eR 40 (KB qG xH zoB) func185 (jc [(2228231,⟨[nA 9 .Chan [1,8,11,14]],[(35,36)],[1000010]⟩)]) (by kernel_rfl)
theorem zb9:CT 221 (cA [pA,pA] [TH] (u2 Bx)):=eR 12 pn func221 a0 (by kernel_rfl)
theorem wK:CT 186 (cA [wC,tC] [TH] (u2 Be)):=eR 13 (DB sK zb9) func186 a0 (by kernel_rfl)
theorem zow:CT 138 (cE [CC,eA,pA] [CC,BJ,TD,eA] (u3 Hr) [1,5,8,9,11,12,15,16,18,25,28,31,41,42]):=eR 75 (ZE aB rJ pJ FN wK) func138 ⟨[],[],[],[jq 2 29 17 28],[(11,[1000012])]⟩ (by kernel_rfl)
theorem zpq:CT 187 (cE [VD,pA] [VD,PI,TD,eA] (u2 Hs) [1,2,4,11,14,17,20,24,25]):=eR 71 (jC rK FN wK nK) func187 ⟨[],[],[],[jq 2 22 15 21],[(11,[1000010])]⟩ (by kernel_rfl)
theorem zpd:CT 139 (cA [vE,eA,eA,pA] [vE,PI,TD,eA] (u4 Ht)):=eR 66 (jC aB sJ CN zpq) func139 (jn [(3604489,⟨[nA 12 .Server [0,1,2,5,6]],[(56,61)],[1000013]⟩)] [jq 2 26 19 25]) (by kernel_rfl)
theorem zge:CT 141 (cA [PI] [bH] Cl):=eR 28 (DB pV zf2) func141 (jl [jk 0 [vA 3 .Wire] [(4,4),(6,26)]] [jk 3 [vA 3 .Wire,qA 4 eA] [(6,26)]]) (by kernel_rfl)
theorem zoN:CT 236 (cA [GM,eA] [xA] (u2 Hu)):=eR 21 (DB aB zfQ) func236 (jr [jq 1 4 5 20]) (by kernel_rfl)
theorem znR:CT 223 (cA [GM,eA] [GM,eA] (u2 Cm)):=eR 29 (YA zoN) func223 (jc [jk 1310728 [qA 6 eA] []]) (by kernel_rfl)
theorem c61:CT 61 (cA [CC] [CC] Bh):=eR 10 (YA c97) func61 a0 (by kernel_rfl)
theorem zf1:CT 224 (cA [wC,eA] [wC] (u2 Co)):=eR 34 (KB aB qG xH) func224 (jn [jk 1835012 [nA 5 .Chan [1,3,6,8,11,14]] [(29,32)]] [jq 2 28 8 27]) (by kernel_rfl)
theorem zbV:CT 226 (cA [eA] [pA] By):=eR 10 (DB aB SG) func226 a0 (by kernel_rfl)
theorem zfX:CT 192 (cE [wC] [wC,tC,eA] Cp [1,8,11,14,17,18,20,21,24,25]):=eR 27 (jC qG xH FN zbV) func192 (jr [jq 1 13 5 12]) (by kernel_rfl)
theorem zpl:CT 189 (cE [CC,eA] [CC,BJ,TD] (u2 Hv) [1,5,8,9,11,12,15,16,41,42]):=eR 159 (UF aB c61 rJ pJ XU fV zfZ wK (KB zfX znR zf1)) func189 (jn [jk 4587533 [vA 8 .Frame] [(71,75)],jk 5373967 [vA 8 .Frame] [(83,88)],jk 8585241 [nA 7 .Client [1,5,8,9,11,12,15,16,18,20,23,25,28,31]] [(132,134)],(9371676,⟨[vA 8 .Frame,vA 9 .Note,nA 7 .Client [1,5,8,9,11,12,15,16]],[(144,155)],[1000015,1000014]⟩)] [jq 4 33 21 32,jq 11 70 64 69,jq 13 82 76 81]) (by kernel_rfl)
theorem zfP:CT 201 (cA [VD] [VD] Cq):=eR 21 (DB rK nK) func201 a0 (by kernel_rfl)
theorem zf4:CT 154 (cA [fF,eA] [fF] (u2 Cs)):=eR 47 (jC aB uV nV dV) func154 ⟨[jk 2228233 [nA 5 .Paths [2]] [(35,45)]],[jk 0 [nA 5 .Paths [2]] [(6,6),(20,45)]],[jk 5 [qA 6 eA,nA 5 .Paths [2]] [(20,45)]],[jq 1 14 7 13],[]⟩ (by kernel_rfl)
theorem zo5:CT 237 (cA [VD,eA] [VD] (u2 Hw)):=eR 39 (yF aB zf4 rK zfP nK zf1) func237 (jr [jq 2 19 8 18]) (by kernel_rfl)
theorem zok:CT 225 (cA [mF,eA] [mF] (u2 Hx)):=eR 52 (jC aB zbW zb7 zo5) func225 ⟨[(2883594,⟨[nA 5 .Tab [1]],[(45,50)],[1000007]⟩)],[jk 0 [nA 5 .Tab [1]] [(6,7),(21,50)]],[jk 5 [qA 6 eA,nA 5 .Tab [1]] [(7,7),(21,50)]],[jq 1 15 8 14,jq 8 44 35 43],[]⟩ (by kernel_rfl)
theorem zgi:CT 202 (cA [VD] [TH] Ct):=eR 10 pn func202 a0 (by kernel_rfl)
theorem znI:CT 190 (cA [vE,eA] [vE,TD] (u2 Hy)):=eR 79 (yF aB AH sJ CN zgi zok) func190 ⟨[jk 4325388 [vA 7 .Note] [(67,76)]],[jk 0 [vA 7 .Note] [(8,9),(28,76)]],[jk 7 [vA 7 .Note,qA 8 eA] [(9,9),(28,76)]],[jq 3 20 13 19,jq 10 66 46 65],[]⟩ (by kernel_rfl)
theorem zor:CT 142 (QB [.ptr [1,7,11,12,13]] [bF] [bH,bF] Hz [(false,1)] [0,2,3,4,5,8,9,12,13,14] false):=eR 86 (KB zb2 zpl znI) func142 (jl [jk 0 [vA 3 .Wire,nA 0 .World [1,7,11,12,13]] [(4,7),(19,59)]] [jk 4 [vA 3 .Wire,qA 4 eA,nA 0 .World [1,7,11,12,13]] [(5,7),(19,59)]]) (by kernel_rfl)
theorem zo8:CT 143 (cA [CC,EB] [CC] (u2 Ia)):=eR 17 (KB IE rJ pJ) func143 (jn [jk 851972 [nA 5 .Client [1,5,8,9,11,12,15,16,18,20,23,25,28,31]] [(14,15)]] [jq 2 13 8 12]) (by kernel_rfl)
theorem zoM:CT 191 (cA [wC] [wC,xA] Ib):=eR 34 (KB qG xH tK) func191 (jr [jq 2 26 7 25]) (by kernel_rfl)
theorem zoK:CT 144 (cE [CC,eA] [CC,BJ,TD,eA] (u2 Ic) [1,5,8,9,11,12,15,16,18,25,28,31,41,42]):=eR 73 (tG aB rJ pJ fV wK zoM zfX) func144 ⟨[],[],[],[jq 2 23 16 22,jq 4 36 27 35,jq 8 57 52 56],[(12,[1000012])]⟩ (by kernel_rfl)
theorem jV:CT 35 (cA [GC,EB] [eA] (λx=>nE x.1 x.2)):=eC 30 (YA pV) func35 (jl [jk 0 [] [(4,5),(9,29)]] [jk 4 [qA 5 eA] [(4,4),(9,29)]]) (u2 Dy) (by kernel_rfl) JL.ok
theorem lV:CT 50 (cA [eF,EB] [eA] (λx=>some (gB x.1 x.2))):=eD 20 pn func50 (jl [jk 0 [] [(4,19)]] [jk 2 [qA 5 eA] [(4,4),(6,19)]]) (u2 Lw) (by kernel_rfl) sS.ok
theorem c95:CT 95 (cA [eF,EB,eA] [eF] (u3 Cu)):=eR 63 (jC aB IE fQ lV) func95 (jn [jk 3735564 [vA 7 .Credit] [(58,61)]] [jq 2 24 12 23]) (by kernel_rfl)
theorem zgt:CT 228 (cA [pA] [tC,xA] Cv):=eR 140 (DB zbU zgh) func228 (jc [jk 3276815 [nA 2 .Frame [2,3,5,6,9,10],nA 4 .Frame [2,3,5,6,9,10]] [(3,3),(17,49),(52,131)],jk 4325396 [nA 2 .Frame [2,3,5,6,9,10],nA 4 .Frame [2,3,5,6,9,10]] [(3,3),(17,49),(68,131)],jk 6160411 [nA 2 .Frame [2,3,5,6,9,10],nA 4 .Frame [2,3,5,6,9,10]] [(3,3),(17,49),(96,131)]]) (by kernel_rfl)
theorem zfY:CT 261 (cA [mF,EB] [xA] (u2 Cw)):=eR 31 pn func261 (jm [jk 0 [] [(4,30)]] [jk 2 [qA 5 eA] [(4,4),(6,30)]] [jq 4 30 13 29]) (by kernel_rfl)
theorem zgq:CT 152 (cA [eF,EB] [eA] (u2 Cy)):=eR 28 (DB fQ lV) func152 (jr [jq 2 15 9 14]) (by kernel_rfl)
theorem zoS:CT 238 (cA [vE,EB,eA] [xA] (u3 Cz)):=eR 19 (DB zgq zfY) func238 (jr [jq 1 6 7 18]) (by kernel_rfl)
theorem zoc:CT 262 (cA [pA,EB] [pA] (u2 Ie)):=eR 18 (DB IE SG) func262 a0 (by kernel_rfl)
theorem zfV:CT 240 (cA [EB,eA,pA,pA,eA] [pA] (u5 Bz)):=eR 50 (jC aB IE SG zoc) func240 (jr [jq 1 34 12 33]) (by kernel_rfl)
theorem zf7:CT 239 (cA [yP,EB,eA,pA,pA,eA] [pA] (u6 Da)):=eR 33 (KB zb1 UP zfV) func239 (jr [jq 2 27 20 26]) (by kernel_rfl)
theorem zpk:CT 263 (cA [eA,eA] [xA] (u2 If)):=eR 17 (YA aB) func263 (jr [jq 1 4 5 16]) (by kernel_rfl)
theorem zpo:CT 277 (cA [pA,pA] [eA] (u2 Ig)):=eR 31 pn func277 (jl [jk 0 [qA 5 eA] [(6,6),(12,29)]] [jk 5 [qA 5 eA,qA 6 eA] [(12,29)]]) (by kernel_rfl)
theorem zbX:CT 264 (cA [pA,pA] [xA] (u2 Ca)):=eR 14 (YA zpo) func264 (jr [jq 1 4 5 13]) (by kernel_rfl)
theorem zpb:CT 241 (cA [yP,eA,EB,tC] [eA] (u4 Ih)):=eR 52 (tG aB IE zb1 oI zf7 zpk zbX) func241 (jr [jq 1 31 9 30]) (by kernel_rfl)
theorem zgr:CT 266 (cA [pA,pA] [pA] (u2 Db)):=eR 8 (YA JN) func266 a0 (by kernel_rfl)
theorem zbY:CT 246 (cA [pA] [pA] Cb):=eR 12 (KB DN tK zgr) func246 a0 (by kernel_rfl)
theorem zbZ:CT 247 (cA [eA,pA,pA,eA,pA] [pA] (u5 Cc)):=eR 48 (DB aB SG) func247 (jr [jq 1 34 12 33]) (by kernel_rfl)
theorem zfO:CT 265 (cA [pA,eA,pA,pA,eA,pA] [pA] (u6 Dc)):=eR 35 (KB UP zbY zbZ) func265 (jr [jq 3 30 23 29]) (by kernel_rfl)
theorem znS:CT 242 (cA [pA,tC] [xA] (u2 Ii)):=eR 29 (KB oI zbX zfO) func242 (jr [jq 1 4 5 28]) (by kernel_rfl)
theorem znM:CT 273 (cA [pA,pA,pA] [pA] (u3 Ij)):=eR 28 (DB DN zgr) func273 (jr [jq 1 19 7 18]) (by kernel_rfl)
theorem zoD:CT 272 (cA [pA] [pA] Ik):=eR 9 (YA tK) func272 a0 (by kernel_rfl)
theorem zn8:CT 274 (cA [pA,eA] [pA] (u2 Il)):=eR 22 (DB aB tK) func274 (jl [jk 0 [vA 5 .byte] [(6,6),(14,20)]] [jk 5 [vA 5 .byte,qA 6 eA] [(14,20)]]) (by kernel_rfl)
theorem zgb:CT 253 (cA [pA,pA,pA,eA] [pA] (u4 Dd)):=eR 22 (KB zoD znM zn8) func253 a0 (by kernel_rfl)
theorem zoR:CT 279 (cA [] [iH] (λ_=>Im)):=eR 14 pn func279 (jl [jk 0 [nA 1 .Win [1]] [(2,2),(4,12)]] [jk 3 [qA 2 eA,nA 1 .Win [1]] [(4,12)]]) (by kernel_rfl)
theorem zb8:CT 271 (cA [eA,pA] [nF] (u2 Cd)):=eR 20 (DB aB zoR) func271 (jr [jq 1 12 5 11]) (by kernel_rfl)
theorem zgj:CT 252 (cA [eA,pA,pA] [wC] (u3 De)):=eR 28 (DB aB zb8) func252 (jr [jq 1 19 7 18]) (by kernel_rfl)
theorem c98:CT 98 (cA [EB] [fF] Df):=eR 5 pn func98 a0 (by kernel_rfl)
theorem zpj:CT 243 (cA [pA,eA,EB,tC] [VD] (u4 In)):=eR 58 (tG aB IE c98 DN oI zgj zgb) func243 (jr [jq 1 31 9 30]) (by kernel_rfl)
theorem zph:CT 244 (cA [mF,VD] [mF,eA] (u2 Io)):=eR 48 (yF iV AH zbW rK zb7 nK) func244 (jr [jq 2 20 9 19,jq 6 38 28 37]) (by kernel_rfl)
theorem zcc:CT 245 (cA [pA,pA,pA] [TH] (u3 Bq)):=eR 17 pn func245 a0 (by kernel_rfl)
theorem zgo:CT 267 (cE [wC] [wC,tC,eA] Dg [1,8,11,14,17,18,20,21,24,25]):=eR 25 (jC qG xH FN zbV) func267 (jr [jq 1 12 5 11]) (by kernel_rfl)
theorem zo2:CT 248 (cE [VD] [VD,PI,TD] Ip [1,2,4,11,14,17,20,24,25]):=eR 53 (jC rK wK nK zgo) func248 ⟨[],[],[],[jq 2 24 11 23],[(8,[1000007])]⟩ (by kernel_rfl)
theorem znT:CT 284 (cA [eA] [eA] Iq):=eR 8 pn func284 a0 (by kernel_rfl)
theorem zgf:CT 280 (cA [iH,eA] [xA] (u2 Dh)):=eR 30 (jC aB zgs zgl znT) func280 (jr [jq 1 12 5 11,jq 3 4 13 29]) (by kernel_rfl)
theorem zoE:CT 281 (cA [pA,eA,tC] [pA,xA] (u3 Ir)):=eR 42 (ZE sK UP zb6 gV zbX) func281 (jr [(2,⟨[qA 28 xA],[(12,27)],[8]⟩)]) (by kernel_rfl)
theorem zn6:CT 282 (cA [iH,eA] [iH,xA] (u2 Is)):=eR 73 (DB zga zgf) func282 ⟨[jk 4521999 [nA 6 .Win [1]] [(70,71)]],[jk 0 [nA 6 .Win [1]] [(7,9),(21,48)]],[jk 6 [qA 7 eA,qA 8 eA,nA 6 .Win [1]] [(9,9),(21,48)]],[jq 6 27 21 26],[]⟩ (by kernel_rfl)
theorem zoW:CT 275 (cA [nF,eA,tC] [nF,pA,eA] (u3 Ce)):=eR 64 (yF zbS sK eV zgf zoE zn6) func275 (jr [jq 2 30 14 29]) (by kernel_rfl)
theorem zgp:CT 254 (cA [wC,eA,tC] [wC,pA,eA] (u3 Di)):=eR 174 (pc8 aB zH qG oI oK xH zb8 zoW) func254 (jn [jk 5373966 [nA 9 .Chan [1,3,6,8,11,14]] [(83,85)]] [jq 2 40 22 39,jq 12 82 76 81,jq 15 97 88 96,jq 16 106 98 105,jq 23 139 127 138]) (by kernel_rfl)
theorem zf6:CT 255 (cA [wC,eA] [pA,xA] (u2 Dj)):=eR 51 (YA qG) func255 (jr [jq 3 18 10 17,jq 7 45 34 44]) (by kernel_rfl)
theorem c46:CT 46 (cA [fF,EB] [.v .Cand,xA] (λx=>tN x.1 x.2)):=eC 33 (DB uV nV) func46 (jl [jk 0 [nA 4 .Cand [2]] [(5,6),(11,31)]] [jk 4 [qA 6 eA,nA 4 .Cand [2]] [(5,5),(11,31)]]) (u2 Fh) (by kernel_rfl) RL.ok
theorem zoL:CT 268 (cA [fF,eA,EB,pA] [fF,xA] (u4 Iu)):=eR 71 (ZE aB c46 zH nV dV) func268 ⟨[jk 3801098 [nA 12 .Paths [2]] [(59,69)]],[jk 0 [nA 12 .Paths [2]] [(13,13),(44,69)]],[jk 6 [qA 13 eA,nA 12 .Paths [2]] [(44,69)]],[(2,⟨[qA 39 xA],[(20,38)],[1000010]⟩)],[]⟩ (by kernel_rfl)
theorem zon:CT 278 (cA [wC] [wC,xA] Iv):=eR 38 (jC qG xH tK zb8) func278 (jr [jq 2 20 7 19]) (by kernel_rfl)
theorem znG:CT 269 (cA [wC,eA,pA] [wC,eA] (u3 Iw)):=eR 57 (yF aB zH qG xH zbV zon) func269 (jr [jq 2 33 13 32]) (by kernel_rfl)
theorem c99:CT 99 (cA [fF,eA,EB,pA] [fF,xA] (u4 Dk)):=eR 77 (ZE aB IE uV dV zf4) func99 (jm [jk 0 [nA 8 .Paths [2]] [(9,9),(11,11),(41,57)]] [jk 5 [qA 11 eA,nA 8 .Paths [2]] [(9,9),(41,57)]] [jq 1 35 12 34]) (by kernel_rfl)
theorem zoQ:CT 249 (cE [VD,eA,EB,tC,pA] [VD,PI,TD,xA] (u5 Ix) [1,2,24,25]):=eR 241 (UF IE c99 rK sK FN wK nK zcc (ZE zgp zf6 zgo zoL znG)) func249 (jn [(5898256,⟨[vA 15 .Out,vA 16 .Note,nA 14 .Sess [1,2]],[(22,28),(92,197)],[18]⟩),jk 7077906 [vA 15 .Out,vA 16 .Note,nA 14 .Sess [1,2]] [(22,28),(110,197)],(7798804,⟨[vA 16 .Note,nA 14 .Sess [1,2,4,6,9,11,14,17]],[(120,134)],[1000022]⟩),jk 8847383 [vA 15 .Out,vA 16 .Note,nA 14 .Sess [1,2,20]] [(24,28),(137,197)],(9633817,⟨[vA 15 .Out,vA 16 .Note,nA 14 .Sess [1,2,20]],[(26,28),(148,197)],[1000024]⟩),jk 10158106 [vA 16 .Note] [(156,171)],(11862046,⟨[vA 15 .Out,vA 16 .Note,nA 14 .Sess [1,2,20]],[(182,197)],[1000027,1000026]⟩)] [jq 4 49 38 48,jq 34 220 215 219]) (by kernel_rfl)
theorem zob:CT 270 (cA [tC] [eA] Iy):=eR 6 (YA zbU) func270 a0 (by kernel_rfl)
theorem c96:CT 96 (cA [eF,EB,eA] [eF,xA] (u3 Dl)):=eR 44 (jC aB fQ lV zgq) func96 (jr [jq 3 30 16 29]) (by kernel_rfl)
theorem zol:CT 250 (QB [.ptr [5], .plain] [.cells .Server,PI] [PI, .cells .Server] (u2 Iz) [(false,1)] [0,6] false):=eR 60 (KB c96 zfY zob) func250 ⟨[jk 1703943 [nA 0 .Server [5]] [(7,8),(27,51)]],[jk 0 [vA 5 .Out,nA 0 .Server [5]] [(6,8),(10,58)],jk 1 [vA 5 .Out,nA 0 .Server [5]] [(7,8),(16,58)]],[jk 3 [vA 5 .Out,qA 6 eA,nA 0 .Server [5]] [(7,8),(10,58)]],[],[]⟩ (by kernel_rfl)
theorem znU:CT 227 (cE [vE,eA,EB,pA] [vE,PI,TD] (u4 Ja) [5,7,8]):=eR 410 (UF aB AH IE sJ zH c95 CN bV (UF YU oK zb9 zgt zoS zf7 zfV zpb (UF znS zpj zph zcc zbY zbZ zo2 zoQ (YA zol)))) func227 (jn [(4653068,⟨[vA 12 .Out,vA 13 .Note,nA 8 .Server [0,1,2,5,6],nA 11 .Server [0,1,5,6]],[(9,10),(16,33),(75,404)],[1000014]⟩),jk 9437204 [vA 12 .Out,vA 13 .Note,nA 8 .Server [0,1,2,5,6],nA 11 .Server [0,1,5,6]] [(9,10),(19,33),(148,404)],jk 12058648 [vA 13 .Note,qA 19 eA,nA 8 .Server [0,1,2,5,6],nA 11 .Server [0,1,2,5,6]] [(9,10),(20,22),(185,279)],jk 19791907 [vA 12 .Out,vA 13 .Note,nA 11 .Server [0,1,2,5,6]] [(24,26),(303,320)],jk 21037096 [vA 12 .Out,vA 13 .Note,nA 8 .Server [0,1,2,5,6],nA 11 .Server [0,1,5,6]] [(9,10),(27,33),(325,404)],jk 23134253 [vA 29 .byte] [(354,354)],(24903730,⟨[vA 13 .Note,nA 11 .Server [0,1,5,6]],[(381,387)],[1000028]⟩),jk 25624630 [vA 13 .Note] [(392,404)]] [jq 4 50 38 49,jq 11 92 75 91,jq 19 174 148 173,jq 33 302 286 301,jq 40 340 330 339]) (by kernel_rfl)
theorem zot:CT 251 (cA [pA,eA,tC] [tC,xA] (u3 Jb)):=eR 42 (KB oI XU zfO) func251 (jr [jq 1 17 10 16]) (by kernel_rfl)
theorem zpp:CT 229 (cE [CC,eA,tC] [CC,BJ,TD] (u3 Jc) [1,5,8,9,11,12,15,16,41,42]):=eR 283 (UF aB rJ zH oI pJ oK sK XU (UF fV FN wK zb9 zcc zbY zbZ zot (jC zgj zgb zgp zf6))) func229 (jn [(11272218,⟨[vA 11 .Note,nA 9 .Client [1,5,8,9,11,12,15,16]],[(173,197)],[1000014]⟩),jk 13434911 [vA 11 .Note,nA 9 .Client [1,5,8,9,11,12,15,16]] [(206,223)],jk 14811170 [vA 11 .Note] [(227,242)],(16056356,⟨[vA 10 .Frame,vA 11 .Note,nA 9 .Client [1,5,8,9,11,12,15,16]],[(19,21),(246,279)],[15]⟩),(16646182,⟨[vA 10 .Frame,vA 11 .Note,nA 9 .Client [1,5,8,9,11,12,15,16]],[(255,279)],[1000020,1000019]⟩)] [jq 4 38 26 37,jq 6 56 42 55,jq 15 131 123 130]) (by kernel_rfl)
theorem zn4:CT 193 (QB [.ptr [1,7,11,12,13], .plain, .plain, .plain] [bF,eA,EB,pA] [bH,bF] (u4 Jd) [(false,1)] [0,2,8,12,13,14] false):=eR 95 (ZE zge zb2 znU zgt zpp) func193 a0 (by kernel_rfl)
theorem zo0:CT 145 (QB [.ptr [1,7,11,12,13], .plain, .plain, .plain] [bF,eA,EB,pA] [bF] (u4 Bm) [] [1,7,11,12,13] false):=eR 18 (DB zbQ zn4) func145 a0 (by kernel_rfl)
theorem znZ:CT 194 (cA [.v .Op] [xA] Je):=eR 22 (YA aB) func194 (jr [jq 1 2 3 21]) (by kernel_rfl)
theorem zoF:CT 195 (cA [pA,eA,eA] [pA,xA] (λx=>nJ x.1 x.2.1 x.2.2)):=eC 37 pn func195 (jr [jq 1 27 8 26]) (u3 Jf) (by kernel_rfl) VM.ok
theorem zpn:CT 146 (cA [.sl .Op,bH,VT] [pA,xA] (u3 Jg)):=eR 235 (tG JN zfN znZ zoF UP tK zb6) func146 ⟨[jk 3407887 [vA 12 .byte] [(6,7),(13,15),(54,211)],jk 3801105 [vA 12 .byte] [(6,7),(13,15),(60,211)],jk 4849685 [vA 12 .byte] [(6,7),(13,15),(76,211)],jk 5832729 [vA 12 .byte] [(6,7),(13,15),(91,211)],jk 7012382 [vA 12 .byte] [(6,7),(15,15),(109,211)],jk 7929888 [vA 12 .byte] [(6,7),(15,15),(123,211)],jk 10747943 [vA 12 .byte] [(166,211)],jk 11534377 [vA 12 .byte] [(178,211)],jk 12320811 [vA 12 .byte] [(190,211)],jk 12779565 [vA 12 .byte] [(197,211)]],[jk 0 [vA 8 .bs] [(6,7),(9,15),(21,225)],jk 3 [vA 12 .byte] [(15,15),(136,163)]],[jk 5 [vA 8 .bs,qA 9 eA] [(6,7),(10,15),(21,225)],jk 34 [vA 12 .byte,qA 15 eA] [(136,163)]],[jq 8 41 31 40,jq 45 218 212 217],[]⟩ (by kernel_rfl)
theorem zoV:CT 147 (cA [vE] [vE,TD] Jh):=eR 48 (yF sJ CN bV YU zf8 zfR) func147 (jr [jq 2 17 9 16]) (by kernel_rfl)
theorem znL:CT 148 (cA [CC] [CC,TD] Ji):=eR 27 (KB c61 rJ pJ) func148 a0 (by kernel_rfl)
theorem zoT:CT 149 (cA [vE,eA] [vE,TD,eA] (u2 Jj)):=eR 55 (ZE aB sJ CN zfP zgi) func149 (jr [jq 4 31 15 30]) (by kernel_rfl)
theorem zox:CT 203 (cA [wC] [VT] Jk):=eR 39 (YA qG) func203 (jc [jk 655366 [vA 3 .bs] [(11,18)],jk 1966089 [vA 3 .bs] [(31,37)]]) (by kernel_rfl)
theorem zn1:CT 150 (QB [.ptr [1,7,11,12,13], .plain] [bF,wC] [xA,bF] (u2 Dm) [(false,1)] [2,8,12,13,14] false):=eR 40 (YA zox) func150 a0 (by kernel_rfl)
theorem zod:CT 151 (cA [TI,eA] [TI] (u2 Dn)):=eR 17 (KB aB tV cV) func151 (jn [jk 851972 [nA 5 .Dice [0]] [(14,15)]] [jq 2 13 8 12]) (by kernel_rfl)
theorem c94:CT 94 (QB [.ptr [1,7,11,12,13], .plain] [bF, .v .Event] [xA,bF] (u2 Jl) [(false,1)] [2,8,12,13,14] false):=eR 519 (UF yH jV bV zoH YU zoY zow zpd (UF zbQ zge zor zo8 zoK zo0 zpn zoV (jC znL zoT zn1 zod))) func94 (jn [jk 3276805 [nA 6 .Wire []] [(4,4),(51,70)],jk 4784138 [nA 0 .World [1,7,11,12,13]] [(4,4),(7,38),(75,518)],jk 8126482 [nA 0 .World [1,7,11,12,13]] [(4,4),(13,38),(126,518)],jk 10027031 [nA 0 .World [1,7,11,12,13]] [(4,4),(17,38),(155,518)],jk 12058653 [nA 0 .World [1,7,11,12,13]] [(4,4),(21,38),(186,518)],jk 12910626 [nA 0 .World [1,7,11,12,13]] [(4,4),(22,38),(199,518)],jk 14286884 [nA 0 .World [1,7,11,12,13]] [(4,4),(22,38),(220,518)],jk 16056361 [nA 0 .World [1,7,11,12,13]] [(4,4),(26,38),(247,518)],jk 17170478 [nA 0 .World [1,7,11,12,13]] [(4,4),(27,38),(264,518)],jk 17825840 [nA 0 .World [1,7,11,12,13]] [(4,4),(27,38),(274,518)],jk 18546738 [nA 0 .World [1,7,11,12,13]] [(4,4),(27,38),(285,518)],jk 21430330 [nA 0 .World [1,7,11,12,13]] [(4,4),(30,38),(329,518)],jk 23265343 [nA 0 .World [1,7,11,12,13]] [(4,4),(32,38),(357,518)],jk 24641605 [nA 0 .World [1,7,11,12,13]] [(4,4),(34,38),(378,518)],jk 26476618 [nA 0 .World [1,7,11,12,13]] [(4,4),(36,38),(406,518)],jk 32178260 [nA 0 .World [1,7,11,12,13]] [(493,518)],jk 32505941 [nA 0 .World [1,7,11,12,13]] [(497,518)]] [jq 3 50 43 49,jq 50 298 291 297,jk 79 [qA 4 xA,nA 0 .World [1,7,11,12,13]] [(429,449)],jk 81 [qA 4 xA,nA 0 .World [1,7,11,12,13]] [(452,490)]]) (by kernel_rfl)
theorem c57:CT 57 (QB [.ptr [], .plain] [HB,eA] [GC,HB] (u2 Jq) [(true,14)] [1,7,11,12,13] false):=eR 35 (tG tE qV c90 c91 c92 c93 c94) func57 ⟨[jk 2097162 [nA 5 .World [1,7,11,12,13], .drop 9] [(33,33)]],[jk 0 [nA 0 .Cur [],nA 6 .int [],nA 5 .World [1,7,11,12,13]] [(7,9),(16,33)]],[jk 4 [qA 7 eA,nA 0 .Cur [],nA 6 .int [],nA 5 .World [1,7,11,12,13]] [(8,9),(16,33)]],[(8,⟨[qA 32 xA,nA 9 .World [1,7,11,12,13]],[(27,31)],[1000008]⟩)],[]⟩ (by kernel_rfl)
theorem c60:CT 60 (QB [.ptr [], .plain] [HB,eA] [eF,HB] (u2 Do) [(false,1)] [0] false):=eR 36 (ZE yH tE qI c95 c96) func60 (jl [jk 0 [vA 5 .Credit,nA 0 .Cur []] [(6,7),(13,34)]] [jk 3 [vA 5 .Credit,qA 6 eA,nA 0 .Cur []] [(7,7),(13,34)]]) (by kernel_rfl)
theorem c62:CT 62 (QB [.ptr []] [HB] [fF,HB] Jo [(true,3)] [2] false):=eR 34 (ZE yH tE c98 c99 VP) func62 (jl [jk 0 [nA 0 .Cur [],nA 3 .Paths [2]] [(4,5),(14,32)]] [jk 4 [qA 4 eA,qA 5 eA,nA 0 .Cur [],nA 3 .Paths [2]] [(14,32)]]) (by kernel_rfl)
theorem NN:CT 23 (QB [.ptr []] [HB] [GC,HB] Br [(true,14)] [1,7,11,12,13] false):=eR 114 (tG tE c57 qV qI c60 c61 c62) func23 (jc [jk 917512 [nA 0 .Cur [],nA 3 .World [1,7,11,12,13]] [(16,112)],jk 1507338 [nA 0 .Cur [],nA 3 .World [1,7,11,12,13]] [(25,112)],jk 1900556 [nA 3 .World [1,7,11,12,13],nA 0 .Cur []] [(31,112)],jk 2818062 [nA 3 .World [1,7,11,12,13],nA 0 .Cur []] [(45,112)],jk 3145744 [nA 0 .Cur [],nA 3 .World [1,7,11,12,13]] [(50,112)],jk 3670034 [nA 0 .Cur [],nA 3 .World [1,7,11,12,13]] [(58,112)],jk 4128788 [nA 0 .Cur [],nA 3 .World [1,7,11,12,13]] [(65,112)],jk 4915222 [nA 0 .Cur [],nA 3 .World [1,7,11,12,13]] [(77,112)],jk 5570584 [nA 3 .World [1,7,11,12,13],nA 0 .Cur []] [(87,112)],jk 6357018 [nA 0 .Cur [],nA 3 .World [1,7,11,12,13]] [(99,112)],jk 6815771 [nA 0 .Cur [],nA 3 .World [1,7,11,12,13]] [(105,112)]]) (by kernel_rfl)
theorem ZP:CT 24 (QB [.ptr []] [HB] [eA,HB] Bs [(false,1)] [] false):=eR 6 (YA qI) func24 a0 (by kernel_rfl)
theorem c5:CT 5 (cE [pA] [GC,eA] Jr [1,7,11,12,13]):=eR 13 (KB zK NN ZP) func5 a0 (by kernel_rfl)
theorem c6:CT 6 (cE [pA] [GC,eA] Js [1,7,11,12,13]):=eR 13 (KB zK NN ZP) func6 a0 (by kernel_rfl)
theorem c7:CT 7 (cE [pA] [GC,eA,EB] Jt [1,7,11,12,13]):=eR 19 (ZE zK NN ZP yH tE) func7 a0 (by kernel_rfl)
theorem c8:CT 8 (cE [pA] [GC,eA] Ju [1,7,11,12,13]):=eR 13 (KB zK NN ZP) func8 a0 (by kernel_rfl)
theorem znX:CT 101 (QB [.ptr []] [HB] [EB,HB] Jm [(true,2)] [] false):=eR 17 (jC yH tE qV c63) func101 a0 (by kernel_rfl)
theorem zov:CT 102 (QB [.ptr []] [HB] [eA,HB] Gt [(false,1)] [] false):=eR 6 (YA qI) func102 a0 (by kernel_rfl)
theorem c64:CT 64 (QB [.ptr []] [HB] [EB,HB] Jn [(true,2)] [] false):=eR 20 (jC tE qI znX zov) func64 (jc [jk 524293 [nA 0 .Cur [],nA 3 .Addr []] [(10,18)],jk 851975 [nA 0 .Cur [],nA 3 .Addr []] [(15,18)]]) (by kernel_rfl)
theorem c27:CT 27 (QB [.ptr []] [HB] [eF,HB] Jp [(false,1)] [0] false):=eR 60 (jC tE qI c60 c64) func27 (jc [jk 1114120 [vA 3 .Credit,nA 0 .Cur []] [(19,58)],jk 1638410 [vA 3 .Credit,nA 0 .Cur []] [(27,58)],jk 2228236 [vA 3 .Credit,nA 0 .Cur []] [(36,58)],jk 3276814 [vA 3 .Credit] [(52,58)]]) (by kernel_rfl)
theorem c9:CT 9 (cA [pA] [eF,EB] Jv):=eR 14 (jC zK yH tE c27) func9 a0 (by kernel_rfl)
theorem LC:CT 28 (cA [eA,eA,eA] [xA] (λx=>some (gA x.1 x.2.1 x.2.2))):=eD 15 pn func28 (jr [jq 1 6 7 14]) (u3 Kp) (by kernel_rfl) SR.ok
theorem c79:CT 79 (cA [yP] [xA] (λx=>some (UE x))):=eD 7 pn func79 a0 Lf (by kernel_rfl) jS.ok
theorem c53:CT 53 (cA [TI] [xA] (λx=>some (zC x))):=eD 12 (YA LC) func53 (jr [jq 1 2 3 11]) Le (by kernel_rfl) zR.ok
theorem c30:CT 30 (cA [mF] [eA] (λx=>qF x)):=eC 20 pn func30 ⟨[jk 983047 [qA 3 eA] [(16,17)]],[jk 0 [qA 3 eA] [(5,5),(9,18)]],[jk 3 [qA 3 eA,qA 9 eA] [(5,5),(10,18)]],[],[]⟩ Lg (by kernel_rfl) CS.ok
theorem MN:CT 85 (cA [pA] [xA] (λx=>some (IB x))):=eD 6 pn func85 a0 Ku (by kernel_rfl) bR.ok
theorem AK:CT 51 (cA [pA,pA] [xA] (λx=>PB x.1 x.2)):=eC 10 pn func51 a0 (u2 Kr) (by kernel_rfl) ZR.ok
theorem zoe:CT 168 (cA [tD,tD] [xA] (λx=>some (RU x.1 x.2))):=eD 26 pn func168 (jl [jk 0 [] [(4,6),(14,25)]] [jk 4 [qA 14 eA] [(4,6),(15,25)]]) (u2 Kx) (by kernel_rfl) OQ.ok
theorem zfU:CT 120 (cA [nF,nF] [xA] (λx=>YJ x.1 x.2)):=eC 42 (DB AK zoe) func120 (jr [jq 1 4 5 41]) (u2 Dt) (by kernel_rfl) mM.ok
theorem c84:CT 84 (cA [wC] [xA] (λx=>UJ x)):=eC 40 (YA zfU) func84 (jr [jq 1 2 3 39]) Ea (by kernel_rfl) FK.ok
theorem zoJ:CT 122 (cA [eA] [xA] (λx=>some (LP x))):=eD 9 pn func122 (jr [jq 1 2 3 8]) Jx (by kernel_rfl) yO.ok
theorem zcb:CT 214 (cA [tD,eA] [xA] (λx=>some (MB x.1 x.2))):=eD 21 (YA LC) func214 (jl [jk 0 [] [(4,4),(6,6),(9,16)]] [jk 2 [qA 9 eA] [(4,4),(6,6),(10,16)]]) (u2 Jy) (by kernel_rfl) ZN.ok
theorem zof:CT 215 (cA [iH,eA] [xA] (λx=>uF x.1 x.2)):=eC 17 pn func215 a0 (u2 Kv) (by kernel_rfl) IR.ok
theorem znW:CT 171 (cA [iH] [xA] (λx=>some (FE x))):=eD 33 (KB LC zcb zof) func171 (jm [jk 0 [] [(2,3),(17,23)]] [jk 4 [qA 3 eA] [(2,2),(17,23)]] [jq 1 13 4 12,jq 8 2 24 32]) Ds (by kernel_rfl) uM.ok
theorem zf9:CT 123 (cA [nF] [xA] (λx=>some (HE x))):=eD 22 (DB LC znW) func123 (jr [jq 1 2 3 21]) Kw (by kernel_rfl) RS.ok
theorem zoP:CT 124 (cA [wC] [xA] (λx=>sU x)):=eC 42 (KB LC zfU zf9) func124 (jr [jq 2 2 6 14,jq 3 28 15 27,jq 5 2 29 41]) Du (by kernel_rfl) tM.ok
theorem c88:CT 88 (cA [wC] [xA] (λx=>IC x)):=eC 45 (jC MN zoJ zf9 zoP) func88 (jr [jq 1 23 3 22,jq 3 2 24 44]) Dv (by kernel_rfl) ZL.ok
theorem KN:CT 41 (cA [EB] [xA] (λx=>some (bB x))):=eD 11 (YA LC) func41 (jr [jq 1 2 3 10]) Kz (by kernel_rfl) WR.ok
theorem zoh:CT 167 (cA [fF] [xA] (λx=>some (jD x))):=eD 64 (KB LC KN MN) func167 (jm [jk 0 [] [(2,4),(6,6),(20,63)],jk 2 [] [(2,2),(6,6),(53,62)]] [jk 4 [qA 20 eA] [(2,4),(6,6),(21,63)],jk 9 [qA 53 eA] [(2,2),(6,6),(54,62)]] [jq 1 16 7 15,jq 6 47 25 46]) Eb (by kernel_rfl) nL.ok
theorem zn2:CT 119 (cA [VD] [xA] (λx=>qE x)):=eC 76 (yF LC AK c84 MN c88 zoh) func119 (jr [jq 1 24 3 23,jq 4 2 27 48,jq 5 2 49 75]) Ec (by kernel_rfl) kM.ok
theorem oV:CT 31 (cA [mF,pA] [eA] (λx=>xC x.1 x.2)):=eC 21 (YA AK) func31 (jl [jk 0 [] [(4,6),(10,20)]] [jk 2 [qA 10 eA] [(4,6),(11,20)]]) (u2 Lh) (by kernel_rfl) KR.ok
theorem c80:CT 80 (cA [mF] [xA] (λx=>oH x)):=eC 42 (jC LC c30 oV zn2) func80 (jm [jk 0 [] [(2,4),(25,41)]] [jk 4 [qA 25 eA] [(2,4),(26,41)]] [jq 1 21 5 20,jq 6 40 30 39]) Ed (by kernel_rfl) qM.ok
theorem c48:CT 48 (cA [eF,EB] [eA] (λx=>some (gB x.1 x.2))):=eD 20 pn func48 (jl [jk 0 [] [(4,6),(9,19)]] [jk 2 [qA 9 eA] [(4,6),(10,19)]]) (u2 Li) (by kernel_rfl) PQ.ok
theorem c47:CT 47 (cA [eF] [xA] (λx=>some (iD x))):=eD 43 (KB LC KN c48) func47 (jm [jk 0 [] [(2,4),(10,42)]] [jk 4 [qA 10 eA] [(2,4),(11,42)]] [jq 6 41 15 40]) Ee (by kernel_rfl) NK.ok
theorem c81:CT 81 (cA [pA] [xA] (λx=>some (mC x))):=eD 6 (YA LC) func81 a0 Lj (by kernel_rfl) pS.ok
theorem c52:CT 52 (cA [vE] [xA] (λx=>lD x)):=eC 62 (yF LC c47 c53 c79 c80 c81) func52 (jm [jk 0 [] [(2,2),(4,4),(39,46)],jk 2 [] [(2,2),(6,6),(51,61)]] [jk 4 [qA 39 eA] [(2,2),(4,4),(40,46)],jk 10 [qA 51 eA] [(2,2),(6,6),(52,61)]] [jq 1 35 7 34]) Ef (by kernel_rfl) bL.ok
theorem c82:CT 82 (cA [.v .Wire] [xA] (λx=>some (nH x))):=eD 17 (YA KN) func82 (jr [jq 1 2 3 16]) Lu (by kernel_rfl) JR.ok
theorem c54:CT 54 (cA [bH] [xA] (λx=>some (AG x))):=eD 18 (YA c82) func54 (jl [jk 0 [] [(2,2),(4,4),(7,14)]] [jk 2 [qA 7 eA] [(2,2),(4,4),(8,14)]]) Ey (by kernel_rfl) AL.ok
theorem c83:CT 83 (cA [tC,tC] [xA] (λx=>EJ x.1 x.2)):=eC 80 (YA AK) func83 (jr [jq 1 4 5 79]) (u2 Eg) (by kernel_rfl) HK.ok
theorem c86:CT 86 (cA [GM] [xA] (λx=>some (ID x))):=eD 39 (YA LC) func86 (jr [jq 3 3 10 27,jq 4 2 28 38]) Eh (by kernel_rfl) BL.ok
theorem zpf:CT 169 (cA [eA] [xA] (λx=>some (NC x))):=eD 5 (YA LC) func169 a0 Lk (by kernel_rfl) RR.ok
theorem zoq:CT 170 (cA [eA,eA] [xA] (λx=>some (gG x.1 x.2))):=eD 17 pn func170 (jc [jq 655366 10 12 12]) (u2 Kb) (by kernel_rfl) xO.ok
theorem zoA:CT 121 (cA [tC] [xA] (λx=>kT x)):=eC 165 (ZE LC c83 MN zpf zoq) func121 (jn [jk 524293 [qA 4 xA,nA 3 .Frame []] [(12,158)],jk 1703944 [qA 4 xA,nA 3 .Frame []] [(30,158)],jk 3997707 [qA 4 xA,nA 3 .Frame []] [(65,158)],jk 7405582 [qA 4 xA,nA 3 .Frame [2,5,6]] [(117,158)]] [jq 5 4 18 25,jq 8 4 42 60,jq 11 4 83 112,jq 14 4 132 158,jq 15 2 159 164]) Ei (by kernel_rfl) jL.ok
theorem c87:CT 87 (cA [CC] [xA] (λx=>YS x)):=eC 74 (jC AK MN c88 zoA) func87 (jr [jq 1 35 3 34,jq 3 2 36 73]) Ej (by kernel_rfl) gL.ok
theorem c55:CT 55 (cA [CC] [xA] (λx=>wE x)):=eC 161 (UF LC KN c81 c83 c84 MN c86 c87 (YA c88)) func55 (jr [jq 1 20 5 19,jq 7 2 33 58,jq 9 2 61 92,jq 11 2 95 117,jq 13 2 120 160]) Ek (by kernel_rfl) dL.ok
theorem c89:CT 89 (cA [pA,eA] [xA] (λx=>some (kF x.1 x.2))):=eD 14 pn func89 (jr [jq 1 4 5 13]) (u2 Ka) (by kernel_rfl) lO.ok
theorem c56:CT 56 (cA [TH] [xA] (λx=>some (aE x))):=eD 57 (KB LC KN c89) func56 (jr [jq 1 2 3 56]) Dx (by kernel_rfl) nM.ok
theorem YP:CT 21 (cA [GC] [xA] (λx=>mE x)):=eC 101 (tG LC AK c52 c53 c54 c55 c56) func21 (jm [jk 0 [] [(2,4),(51,78)],jk 2 [] [(2,2),(6,6),(82,89)],jk 4 [] [(2,2),(8,8),(93,100)]] [jk 6 [qA 51 eA] [(2,4),(52,78)],jk 12 [qA 82 eA] [(2,2),(6,6),(83,89)],jk 18 [qA 93 eA] [(2,2),(8,8),(94,100)]] [jq 1 31 9 30,jq 3 47 32 46,jq 8 77 56 76]) Ez (by kernel_rfl) qL.ok
theorem c76:CT 76 (cA [eA] [EB] (λx=>some (uB x))):=eD 12 (YA LC) func76 a0 Lc (by kernel_rfl) eT.ok
theorem c42:CT 42 (cA [] [EB] (λ_=>some (jE))):=eD 2 (YA c76) func42 a0 (λ_=>Ld) (by kernel_rfl) FT.ok
theorem c29:CT 29 (cA [GC,EB] [eA] (λx=>nE x.1 x.2)):=eC 24 (YA c42) func29 (jl [jk 0 [] [(4,4),(6,6),(13,23)]] [jk 4 [qA 13 eA] [(4,4),(6,6),(14,23)]]) (u2 Dz) (by kernel_rfl) tL.ok
theorem dQ:CT 18 (cA [eF,EB] [xA] (λx=>some (lE x.1 x.2))):=eD 23 (DB c47 c48) func18 a0 (u2 Ly) (by kernel_rfl) BQ.ok
theorem c67:CT 67 (cA [pA,eA,eA] [pA] (λx=>bC x.1 x.2.1 x.2.2)):=eC 35 pn func67 (jm [jk 0 [vA 7 .byte] [(8,8),(21,33)]] [jk 5 [vA 7 .byte,qA 8 eA] [(21,33)]] [jq 2 17 12 16]) (u3 Fl) (by kernel_rfl) PM.ok
theorem c65:CT 65 (cA [pA] [pA] (λx=>fI x)):=eC 6 pn func65 a0 Lz (by kernel_rfl) nS.ok
theorem zoo:CT 208 (cA [] [tD] (λ_=>some (dD))):=eD 2 pn func208 a0 (λ_=>Ma) (by kernel_rfl) zS.ok
theorem zoI:CT 157 (cA [] [qP] (λ_=>some (ZJ))):=eD 3 (YA zoo) func157 a0 (λ_=>Mb) (by kernel_rfl) pR.ok
theorem zfS:CT 204 (cA [qP] [xA] (λx=>some (QE x))):=eD 20 (DB LC zcb) func204 (jr [jq 1 2 3 19]) Fm (by kernel_rfl) iM.ok
theorem zb5:CT 105 (cA [VT] [pA] (λx=>YH x)):=eC 18 pn func105 (jl [jk 0 [vA 3 .byte] [(5,5),(9,16)]] [jk 3 [vA 3 .byte,qA 9 eA] [(5,5),(10,16)]]) Fn (by kernel_rfl) WL.ok
theorem znV:CT 283 (cA [pA,eA,eA] [pA,xA] (λx=>nJ x.1 x.2.1 x.2.2)):=eC 36 pn func283 (jr [jq 1 27 8 26]) (u3 Fo) (by kernel_rfl) TM.ok
theorem zo3:CT 276 (cA [pA,eA,eA] [eA,eA,xA] (λx=>QF x.1 x.2.1 x.2.2)):=eC 45 (YA znV) func276 (jm [jk 0 [qA 11 eA] [(13,13),(31,40)]] [jk 8 [qA 11 eA,qA 31 eA] [(13,13),(32,40)]] [jq 1 19 14 18]) (u3 Fp) (by kernel_rfl) KM.ok
theorem zfW:CT 258 (cA [eA,eA] [eA] (λx=>RC x.1 x.2)):=eC 23 pn func258 (jr [jq 2 12 7 11]) (u2 Fq) (by kernel_rfl) iN.ok
theorem zog:CT 257 (cA [pA] [tD] (λx=>CI x)):=eC 79 (DB zfW zo3) func257 (jl [jk 0 [vA 3 .int] [(4,4),(14,28)],jk 2 [vA 3 .int] [(5,9),(29,77)]] [jk 5 [qA 4 eA,vA 3 .int] [(14,28)],jk 9 [qA 5 eA,vA 3 .int] [(6,9),(29,77)]]) Fr (by kernel_rfl) cL.ok
theorem zoO:CT 259 (cA [eA] [eA] (λx=>some (HI x))):=eD 14 pn func259 (jr [jq 1 9 4 8]) Cg (by kernel_rfl) wJ.ok
theorem zpi:CT 260 (cA [eA,eA] [eA] (λx=>some (gE x.1 x.2))):=eD 9 pn func260 a0 (u2 Mc) (by kernel_rfl) oS.ok
theorem zoj:CT 232 (cA [tD,pA] [tD] (λx=>OH x.1 x.2)):=eC 151 (ZE zcb zog zfW zoO zpi) func232 (jm [jk 0 [qA 7 eA,qA 8 eA,qA 9 eA,qA 10 eA,qA 11 eA,qA 12 eA,qA 13 eA,qA 14 eA] [(15,19),(60,124)],jk 2 [vA 5 .int] [(20,21),(135,149)]] [jk 7 [qA 7 eA,qA 8 eA,qA 9 eA,qA 10 eA,qA 11 eA,qA 12 eA,qA 13 eA,qA 14 eA,qA 15 eA] [(16,19),(60,124)],jk 16 [qA 135 eA,vA 5 .int] [(20,21),(136,149)]] [jq 2 32 25 31]) (u2 Fs) (by kernel_rfl) YK.ok
theorem zf0:CT 205 (cN [tD,pA] [tD,pA] (λx=>HN x.1 x.2)):=eC 17 (YA zoj) func205 (jl [jk 0 [qA 0 tD,qA 1 pA] [(6,14)]] [jk 1 [qA 0 tD,qA 1 pA] [(6,14)]]) (u2 Ft) (by kernel_rfl) CK.ok
theorem zpg:CT 156 (cA [qP,pA] [qP] (λx=>GT x.1 x.2)):=eC 50 (jC c65 zb5 zfS zf0) func156 (jr [jq 1 17 7 16]) (u2 Fu) (by kernel_rfl) KL.ok
theorem zpr:CT 206 (cA [eA] [pA] (λx=>lJ x)):=eC 25 (DB LC c67) func206 (jl [jk 0 [vA 3 .byte] [(8,17)]] [jk 4 [vA 3 .byte] [(8,17)]]) Fv (by kernel_rfl) SM.ok
theorem znP:CT 207 (cA [tD] [pA] (λx=>JH x)):=eC 18 (YA c67) func207 (jl [jk 0 [vA 3 .byte] [(5,5),(9,16)]] [jk 3 [vA 3 .byte,qA 9 eA] [(5,5),(10,16)]]) Fw (by kernel_rfl) RK.ok
theorem zn5:CT 155 (cA [qP] [pA] (λx=>qT x)):=eC 23 (ZE zb5 zfS zf0 zpr znP) func155 a0 Fx (by kernel_rfl) kL.ok
theorem zf3:CT 104 (cA [pA] [pA] (λx=>some (fD x))):=eD 10 (KB zn5 zpg zoI) func104 a0 Fy (by kernel_rfl) fN.ok
theorem zo7:CT 103 (cA [pA] [pA] (λx=>some (MC x))):=eD 21 (DB c65 zf3) func103 ⟨[jk 720902 [vA 3 .byte] [(12,13)]],[jk 0 [vA 3 .byte] [(14,19)]],[jk 6 [vA 3 .byte] [(14,19)]],[],[]⟩ Fz (by kernel_rfl) VK.ok
theorem zoU:CT 106 (cA [pA, .v .byte] [pA] (λx=>BP x.1 x.2)):=eC 23 pn func106 (jl [jk 0 [vA 5 .byte] [(7,7),(11,21)]] [jk 3 [vA 5 .byte,qA 11 eA] [(7,7),(12,21)]]) (u2 Ga) (by kernel_rfl) SL.ok
theorem c66:CT 66 (cA [pA,pA] [pA] (λx=>some (YC x.1 x.2))):=eD 27 (jC zo7 zf3 zb5 zoU) func66 (jr [jq 1 13 6 12]) (u2 Gb) (by kernel_rfl) NM.ok
theorem c32:CT 32 (cA [pA,eA] [pA] (λx=>some (aC x.1 x.2))):=eD 22 (jC LC c65 c66 c67) func32 (jr [jq 1 13 5 12]) (u2 Gc) (by kernel_rfl) bM.ok
theorem JE:CT 10 (cA [GC,eA] [xA] (λx=>wG x.1 x.2)):=eC 111 (tG dQ YP LC c29 c30 oV c32) func10 (jm [jk 0 [] [(4,4),(7,7),(91,110)]] [jk 11 [qA 7 eA] [(4,4),(91,110)]] [jq 1 20 8 19,jq 4 53 33 52,jq 6 79 54 78,jq 8 90 80 89]) (u2 Gr) (by kernel_rfl) vL.ok
theorem zoz:CT 110 (cA [.v .Wire] [xA] (λx=>some (nH x))):=eD 17 (YA IE) func110 (jr [jq 1 2 3 16]) Lr (by kernel_rfl) FR.ok
theorem c70:CT 70 (cA [bH] [xA] (λx=>some (AG x))):=eD 19 (YA zoz) func70 (jl [jk 0 [] [(2,15)]] [jk 2 [qA 3 eA] [(2,2),(4,15)]]) Ls (by kernel_rfl) WQ.ok
theorem zpm:CT 116 (cA [eA,eA] [xA] (λx=>some (kK x.1 x.2))):=eD 12 pn func116 (jr [jq 1 4 5 11]) (u2 Jz) (by kernel_rfl) DO.ok
theorem c73:CT 73 (cA [TH] [xA] (λx=>some (aE x))):=eD 60 (KB aB IE zpm) func73 (jr [jq 1 2 3 59]) Dw (by kernel_rfl) jM.ok
theorem c33:CT 33 (cA [GC] [xA] (λx=>mE x)):=eC 113 (tG aB sJ tV c70 rJ zH c73) func33 (jm [jk 0 [] [(2,3),(47,84)],jk 2 [] [(2,2),(4,4),(85,98)],jk 4 [] [(2,2),(5,5),(99,112)]] [jk 4 [qA 3 eA] [(2,2),(47,84)],jk 9 [qA 4 eA] [(2,2),(85,98)],jk 14 [qA 5 eA] [(2,2),(99,112)]] [jq 1 46 6 45,jq 6 84 51 83]) Ew (by kernel_rfl) oL.ok
theorem aQ:CT 19 (cA [eF,EB] [xA] (λx=>some (lE x.1 x.2))):=eD 23 (DB fQ lV) func19 a0 (u2 Lx) (by kernel_rfl) yQ.ok
theorem YE:CT 11 (cA [GC,eA] [xA] (λx=>wG x.1 x.2)):=eC 113 (tG aQ c33 aB jV iV AH mV) func11 (jm [jk 0 [] [(4,4),(7,7),(93,112)]] [jk 10 [qA 7 eA] [(4,4),(93,112)]] [jq 1 20 8 19,jq 5 53 33 52,jq 7 92 54 91]) (u2 Gq) (by kernel_rfl) FL.ok
theorem XP:CT 39 (cN [GC,eA] [CC,VD,xA] (λx=>XG x.1 x.2)):=eC 49 (YA oV) func39 (jr [jq 3 38 22 37]) (u2 Fa) (by kernel_rfl) GK.ok
theorem rV:CT 20 (cA [GC,eA] [xA] (λx=>YG x.1 x.2)):=eC 117 (jC YP LC XP AK) func20 (jr [jq 1 18 11 17,jq 9 51 40 50,jq 10 4 52 65,jq 12 4 69 116]) (u2 Fb) (by kernel_rfl) SK.ok
theorem tJ:CT 12 (cA [GC,eA] [xA] (λx=>YD x.1 x.2)):=eC 85 (KB rV LC XP) func12 (jn [jk 3670025 [qA 8 eA] [(57,62)]] [jq 1 17 9 16,jq 4 44 25 43,jq 9 71 63 70,jq 11 4 72 84]) (u2 Fe) (by kernel_rfl) aM.ok
theorem c40:CT 40 (cA [GC,eA] [xA] (λx=>YG x.1 x.2)):=eC 167 (jC c33 aB AH zH) func40 (jr [jq 1 15 8 14,jq 5 45 29 44,jq 11 4 68 100,jq 12 4 101 166]) (u2 Fc) (by kernel_rfl) OK.ok
theorem yK:CT 13 (cA [GC,eA] [xA] (λx=>YD x.1 x.2)):=eC 120 (KB aB AH c40) func13 (jr [jq 1 17 9 16,jq 5 47 31 46,jq 8 84 55 83,jq 11 4 85 119]) (u2 Fd) (by kernel_rfl) QL.ok
theorem c43:CT 43 (cA [fF,EB] [eA] (λx=>WT x.1 x.2)):=eC 21 pn func43 (jl [jk 0 [] [(4,6),(10,20)]] [jk 2 [qA 10 eA] [(4,6),(11,20)]]) (u2 Fj) (by kernel_rfl) XL.ok
theorem sV:CT 14 (cA [GC,eA,EB] [xA] (λx=>VI x.1 x.2.1 x.2.2)):=eC 73 (yF tJ dQ XP KN c42 c43) func14 (jr [jq 1 34 10 33,jq 4 60 42 59,jq 6 6 61 72]) (u3 Fk) (by kernel_rfl) sL.ok
theorem c15:CT 15 (cA [GC,eA,EB] [xA] (λx=>VI x.1 x.2.1 x.2.2)):=eC 90 (yF yK aQ AH IE pV c46) func15 (jr [jq 1 41 10 40,jq 5 6 67 89]) (u3 Fi) (by kernel_rfl) CL.ok
theorem c16:CT 16 (cA [GC,eA] [xA] (λx=>UH x.1 x.2)):=eC 33 (KB tJ c29 XP) func16 (jr [jq 4 4 19 32]) (u2 Fg) (by kernel_rfl) GL.ok
theorem c17:CT 17 (cA [GC,eA] [xA] (λx=>UH x.1 x.2)):=eC 44 (KB yK jV AH) func17 (jr [jq 5 4 30 43]) (u2 Ff) (by kernel_rfl) OL.ok
theorem c3:CT 3 (cA [pA] [xA] (λx=>some ((λ(a0:List UInt8)=>zfp a0) x))):=eD 135 (UF c4 c5 c6 c7 c8 c9 JE YE (UF tJ yK sV c15 c16 c17 dQ aQ (DB rV YP))) func3 (jr [(8,⟨[qA 2 xA],[(42,134)],[1000003,1000005,1000007,1000010,12]⟩)]) Jw (by kernel_rfl) fL.ok
end Go.D

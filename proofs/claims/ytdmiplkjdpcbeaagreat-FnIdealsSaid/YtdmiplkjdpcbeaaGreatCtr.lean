/-
 The functions of the program: each computes what is said of it.
-/
import Derived.Test.YtdmiplkjdpcbeaaGreatN12
import Derived.Test.YtdmiplkjdpcbeaaGreatProg
import Derived.KernelRfl
namespace Go.D
open Go.Proofs
open Tryz
noncomputable section
def tnT:TypeId→Option TN:=fun t=>SB t [(3, .int),(5, .byte),(22, .bs),(52, .Frame),(63, .Client),(87, .Sess),(94, .Cand),(100, .Credit),(107, .Note),(131, .Wire),(154, .Event),(198, .Op),(273, .Out)]
theorem WJ:Tryz.prog.follows .mixedOrders=true:=by kernel_rfl
def TL:List (TypeId × TN):=[(3, .int),(5, .byte),(22, .bs),(52, .Frame),(63, .Client),(87, .Sess),(94, .Cand),(100, .Credit),(107, .Note),(131, .Wire),(154, .Event),(198, .Op),(273, .Out)]
theorem XJ:YU prog TL=true:=by kernel_rfl
variable [OM TL]
def a0:An:=⟨[],[],[],[],[]⟩
abbrev u2 {A B R:Type} (f:A→B→R):A × B→R:=fun x=>f x.1 x.2
abbrev u3 {A B C R:Type} (f:A→B→C→R):A × B × C→R:=fun x=>f x.1 x.2.1 x.2.2
abbrev u4 {A B C D R:Type} (f:A→B→C→D→R):A × B × C × D→R:=fun x=>f x.1 x.2.1 x.2.2.1 x.2.2.2
abbrev u5 {A B C D E R:Type} (f:A→B→C→D→E→R):A × B × C × D × E→R:=fun x=>f x.1 x.2.1 x.2.2.1 x.2.2.2.1 x.2.2.2.2
abbrev u6 {A B C D E F R:Type} (f:A→B→C→D→E→F→R):A × B × C × D × E × F→R:=fun x=>f x.1 x.2.1 x.2.2.1 x.2.2.2.1 x.2.2.2.2.1 x.2.2.2.2.2
abbrev u7 {A B C D E F G R:Type} (f:A→B→C→D→E→F→G→R):A × B × C × D × E × F × G→R:=fun x=>f x.1 x.2.1 x.2.2.1 x.2.2.2.1 x.2.2.2.2.1 x.2.2.2.2.2.1 x.2.2.2.2.2.2
abbrev u8 {A B C D E F G H R:Type} (f:A→B→C→D→E→F→G→H→R):A × B × C × D × E × F × G × H→R:=fun x=>f x.1 x.2.1 x.2.2.1 x.2.2.2.1 x.2.2.2.2.1 x.2.2.2.2.2.1 x.2.2.2.2.2.2.1 x.2.2.2.2.2.2.2
def Ph:List (Nat × NB)→Prop
 | []=>True
 | (g,ci) :: l=>eA prog g ci∧Ph l
theorem pn:Ph []:=trivial
theorem pc {g:Nat} {ci:NB} {l:List (Nat × NB)} (h:eA prog g ci) (k:Ph l):Ph ((g,ci) :: l):=⟨h,k⟩
theorem ph {n:Nat}:∀ (l:List (Nat × NB)),(l.all fun p=>Nat.blt p.1 1048576)=true→Ph l→RD ⟨prog,fun t=>SB t TL,fun f=>UD f l,n,JH⟩
 | [],_,_=>kL
 | (g,ci) :: l,h,k=>by
  simp only [List.all_cons,Bool.and_eq_true] at h
  have hg:g % 1048576=g:=Nat.mod_eq_of_lt (by simpa [Nat.blt_eq] using h.1)
  exact IC (by rw [hg];exact k.1) (ph l h.2 k.2)
def bO (n m : Nat) (l : List (Nat × NB)) (fn : Func) (ks : List ZA) (ats : List Ty) : Bool := (l.all fun p => Nat.blt p.1 1048576) && (fn.body.isSome && !(fn.name == "runtime.NumGoroutine") && Nat.beq n fn.ntmps && HB ks ats && Nat.ble m fn.ntmps)
theorem eC {f:Nat} {fn:Func} {ks:List ZA} {ats rts:List Ty} {F:lA ats→Option (lA rts)} {sh:List (Bool × Nat)} {own:List Nat} (n:Nat) {l:List (Nat × NB)}
  (hp:Ph l) (hf:prog.funcs[f]?=some fn) (an:An) (Raw:lA ats→Option (lA rts))
  (he:(bO n ks.length l fn ks ats,fun x=>iN ⟨prog,fun t=>SB t TL,fun f=>UD f l,n,JH⟩ fn (fn.body.getD .skip) an ks own sh rts (WA ats x))=(true,Raw))
  (uY:∀ {x},rA ats x→∀ {r},F x=some r→Raw x=some r):eA prog f (gA ks ats rts F sh own false):=by
 obtain ⟨h0,h1⟩:=Prod.mk.inj he
 obtain ⟨ha,hb⟩:=Bool.and_eq_true_iff.1 h0
 exact yK n WJ XJ (ph l ha hp) hf an Raw hb (fun x=>congrFun h1 x) fun _ _ hb h=>uY hb h
theorem eR {f:Nat} {fn:Func} {ks:List ZA} {ats rts:List Ty} {F:lA ats→Option (lA rts)} {sh:List (Bool × Nat)} {own:List Nat} (n:Nat) {l:List (Nat × NB)}
  (hp:Ph l) (hf:prog.funcs[f]?=some fn) (an:An)
  (he:(bO n ks.length l fn ks ats,fun x=>iN ⟨prog,fun t=>SB t TL,fun f=>UD f l,n,JH⟩ fn (fn.body.getD .skip) an ks own sh rts (WA ats x))=(true,F)):
  eA prog f (gA ks ats rts F sh own false):=eC n hp hf an F he fun _ _ h=>h
theorem eP {f:Nat} {fn:Func} {m:Nat} {ats rts:List Ty} {F:lA ats→Option (lA rts)} {sh:List (Bool × Nat)} (n:Nat) {l:List (Nat × NB)}
  (hp:Ph l) (hf:prog.funcs[f]?=some fn) (an:An) (Raw:lA ats→Option (lA rts))
  (he:(bO n m l fn (kA m) ats,fun x=>YQ ⟨prog,fun t=>SB t TL,fun f=>UD f l,n,JH⟩ fn (fn.body.getD .skip) an (kA m) rts (WA ats x))=(true,Raw))
  (uY:∀ {x},rA ats x→∀ {r},F x=some r→Raw x=some r):eA prog f (gA (kA m) ats rts F sh [] true):=by
 obtain ⟨h0,h1⟩:=Prod.mk.inj he
 obtain ⟨ha,hb⟩:=Bool.and_eq_true_iff.1 h0
 exact evP n WJ XJ (ph l ha hp) hf an Raw hb (fun x=>congrFun h1 x) fun _ _ hb h=>uY hb h
theorem eQ {f:Nat} {fn:Func} {m:Nat} {ats rts:List Ty} {F:lA ats→Option (lA rts)} {sh:List (Bool × Nat)} (n:Nat) {l:List (Nat × NB)}
  (hp:Ph l) (hf:prog.funcs[f]?=some fn) (an:An)
  (he:(bO n m l fn (kA m) ats,fun x=>YQ ⟨prog,fun t=>SB t TL,fun f=>UD f l,n,JH⟩ fn (fn.body.getD .skip) an (kA m) rts (WA ats x))=(true,F)):
  eA prog f (gA (kA m) ats rts F sh [] true):=eP n hp hf an F he fun _ _ h=>h
theorem eD {f:Nat} {fn:Func} {ks:List ZA} {ats rts:List Ty} {G:lA ats→lA rts} {sh:List (Bool × Nat)} {own:List Nat} (n:Nat) {l:List (Nat × NB)}
  (hp:Ph l) (hf:prog.funcs[f]?=some fn) (an:An) (Raw:lA ats→Option (lA rts))
  (he:(bO n ks.length l fn ks ats,fun x=>iN ⟨prog,fun t=>SB t TL,fun f=>UD f l,n,JH⟩ fn (fn.body.getD .skip) an ks own sh rts (WA ats x))=(true,Raw))
  (uY:∀ {x},rA ats x→Raw x=some (G x)):eA prog f (gA ks ats rts (fun x=>some (G x)) sh own false):=eC n hp hf an Raw he fun hb _ h=>(uY hb).trans h
def ci5:=gA (kA 1) [.sl .byte] [.v .bool] (fun x=>some (QP x)) [(false,1)] [] false
theorem c5:eA prog 5 ci5:=eD 6 pn func5 a0 (fun x=>dS.raw x) (by kernel_rfl) dS.ok
def znD:=gA (kA 1) [.sl .byte] [.cells .Cur] (fun x=>RJ.raw x) [(false,1)] [] true
theorem fQ:eA prog 32 znD:=eQ 32 pn func32 ⟨[],[(0,⟨[.slot 3 (.v .int)],[(4,4),(8,27)],[]⟩)],[(3,⟨[.slot 3 (.v .int), .slot 4 (.v .int)],[(8,27)],[]⟩)],[(3,⟨[.slot 15 (.v .bool)],[(8,14)],[]⟩)],[]⟩ (by kernel_rfl)
def zoJ:=gA [.ptr []] [.cells .Cur] [.v .int, .cells .Cur] (fun x=>iH.raw x) [(false,1)] [] false
theorem c87:eA prog 87 zoJ:=eR 58 pn func87 ⟨[(2228229,⟨[.slot 3 (.v .int), .box 0 .Cur []],[(35,56)],[]⟩)],[],[],[],[]⟩ (by kernel_rfl)
def zn8:=gA [.ptr [], .plain] [.cells .Cur, .v .int] [.v .int, .cells .Cur] (u2 BA.raw) [(false,1)] [] false
theorem AB:eA prog 36 zn8:=eR 31 (pc c87 pn) func36 a0 (by kernel_rfl)
def zow:=gA [.ptr [], .plain] [.cells .Cur, .v .int] [.v .bool, .cells .Cur] (u2 nC.raw) [(false,1)] [] false
theorem cE:eA prog 67 zow:=eR 9 (pc AB pn) func67 a0 (by kernel_rfl)
def zkr:=gA [.ptr [], .plain] [.cells .Cur, .v .int] [.sl .byte, .cells .Cur] (u2 mB.raw) [(false,1)] [0] false
theorem wC:eA prog 121 zkr:=eR 20 (pc c87 pn) func121 ⟨[],[(0,⟨[.own 5 .byte, .box 0 .Cur []],[(6,6),(8,18)],[]⟩)],[(3,⟨[.own 5 .byte, .slot 6 (.v .int), .box 0 .Cur []],[(8,18)],[]⟩)],[],[]⟩ (by kernel_rfl)
def zlC:=gA (kA 1) [.v .Dice] [.v .Dice] (fun x=>wH x) [(true,2)] [0] false
theorem WP:eA prog 198 zlC:=eC 10 pn func198 a0 (fun x=>YO.raw x) (by kernel_rfl) YO.ok
def zod:=gA (kA 3) [.v .int, .v .int, .v .int] [.v .bool] (fun x=>some (iA x.1 x.2.1 x.2.2)) [(false,1)] [] false
theorem iB:eA prog 44 zod:=eD 15 pn func44 ⟨[],[],[],[(1,⟨[.slot 6 (.v .bool)],[(7,14)],[]⟩)],[]⟩ (u3 lU.raw) (by kernel_rfl) lU.ok
def zoM:=gA (kA 1) [.v .Dice] [.v .bool] (fun x=>some (tC x)) [(false,1)] [] false
theorem iQ:eA prog 93 zoM:=eD 12 (pc iB pn) func93 ⟨[],[],[],[(1,⟨[.slot 2 (.v .bool)],[(3,11)],[]⟩)],[]⟩ (fun x=>US.raw x) (by kernel_rfl) US.ok
def zoQ:=gA (kA 3) [.sl .byte, .v .int, .v .int] [.sl .byte] (fun x=>LC x.1 x.2.1 x.2.2) [(false,1)] [0] false
theorem ZF:eA prog 97 zoQ:=eC 35 pn func97 ⟨[],[(0,⟨[.own 7 .byte],[(8,8),(21,33)],[]⟩)],[(5,⟨[.own 7 .byte, .slot 8 (.v .int)],[(21,33)],[]⟩)],[(2,⟨[.slot 17 (.v .bool)],[(12,16)],[]⟩)],[]⟩ (u3 vT.raw) (by kernel_rfl) vT.ok
def zl8:=gA (kA 1) [.v .int] [.sl .byte] (fun x=>nS x) [(false,1)] [0] false
theorem ziQ:eA prog 230 zl8:=eC 27 (pc ZF pn) func230 ⟨[],[(0,⟨[.own 3 .byte],[(12,21)],[]⟩)],[(4,⟨[.own 3 .byte],[(12,21)],[]⟩)],[(1,⟨[.slot 9 (.v .bool)],[(4,8)],[]⟩)],[]⟩ (fun x=>NL.raw x) (by kernel_rfl) NL.ok
def zl9:=gA (kA 0) [] [.sl .int] (fun _=>some (EE)) [(false,1)] [0] false
theorem ziR:eA prog 231 zl9:=eD 2 pn func231 a0 (fun _=>KT.raw) (by kernel_rfl) KT.ok
def zm7:=gA (kA 1) [.sl .int] [.v .bool] (fun x=>some (cV x)) [(false,1)] [] false
theorem zjd:eA prog 290 zm7:=eD 19 (pc iB pn) func290 ⟨[],[(0,⟨[],[(2,15)],[]⟩)],[(2,⟨[.slot 3 (.v .int)],[(2,2),(4,15)],[]⟩)],[],[]⟩ (fun x=>xM.raw x) (by kernel_rfl) xM.ok
def zm8:=gA (kA 0) [] [.sl .int] (fun _=>some (uJ)) [(false,1)] [0] false
theorem zje:eA prog 291 zm8:=eD 2 pn func291 a0 (fun _=>KU.raw) (by kernel_rfl) KU.ok
def znF:=gA (kA 3) [.sl .byte, .v .int, .v .int] [.v .int, .v .int, .v .bool] (fun x=>CH x.1 x.2.1 x.2.2) [(false,1),(false,1),(false,1)] [] false
theorem zdE:eA prog 322 znF:=eC 48 pn func322 ⟨[],[(0,⟨[.slot 9 (.v .int)],[(10,10),(29,43)],[]⟩)],[(5,⟨[.slot 9 (.v .int), .slot 10 (.v .int)],[(29,43)],[]⟩)],[(1,⟨[.slot 28 (.v .bool)],[(11,27)],[]⟩)],[]⟩ (u3 HL.raw) (by kernel_rfl) HL.ok
def zna:=gA (kA 2) [.v .int, .v .int] [.v .int] (fun x=>xF x.1 x.2) [(false,1)] [] false
theorem zdu:eA prog 293 zna:=eC 24 pn func293 ⟨[],[],[],[(2,⟨[.slot 13 (.v .bool)],[(8,12)],[]⟩)],[]⟩ (u2 SL.raw) (by kernel_rfl) SL.ok
def zm9:=gA (kA 1) [.sl .byte] [.sl .int] (fun x=>BS x) [(false,1)] [0] false
theorem zjf:eA prog 292 zm9:=eC 84 (pc zdu (pc zdE pn)) func292 ⟨[],[(0,⟨[.own 3 .int],[(4,7),(18,33)],[]⟩),(2,⟨[.own 3 .int],[(8,12),(34,82)],[]⟩)],[(5,⟨[.own 3 .int, .slot 4 (.v .int)],[(5,7),(18,33)],[]⟩),(10,⟨[.own 3 .int, .slot 8 (.v .int)],[(9,12),(34,82)],[]⟩)],[],[]⟩ (fun x=>VL.raw x) (by kernel_rfl) VL.ok
def zma:=gA (kA 2) [.sl .int, .sl .byte] [.sl .int] (fun x=>bN x.1 x.2) [(false,1)] [0] false
theorem ziS:eA prog 232 zma:=eC 156 (pc zjd (pc zje (pc zjf (pc zdu pn)))) func232 ⟨[],[(0,⟨[.slot 8 (.v .int), .slot 9 (.v .int), .slot 10 (.v .int), .slot 11 (.v .int), .slot 12 (.v .int), .slot 13 (.v .int), .slot 14 (.v .int), .slot 15 (.v .int)],[(16,18),(60,128)],[]⟩),(2,⟨[.own 5 .int],[(20,20),(138,154)],[]⟩)],[(8,⟨[.slot 8 (.v .int), .slot 9 (.v .int), .slot 10 (.v .int), .slot 11 (.v .int), .slot 12 (.v .int), .slot 13 (.v .int), .slot 14 (.v .int), .slot 15 (.v .int), .slot 16 (.v .int)],[(17,18),(60,128)],[]⟩),(22,⟨[.slot 20 (.v .int), .own 5 .int],[(138,154)],[]⟩)],[(2,⟨[.slot 31 (.v .bool)],[(24,30)],[]⟩)],[]⟩ (u2 xL.raw) (by kernel_rfl) xL.ok
def zmb:=gA (kA 1) [.sl .int] [.sl .byte] (fun x=>EP x) [(false,1)] [0] false
theorem ziT:eA prog 233 zmb:=eC 17 (pc ZF pn) func233 ⟨[],[(0,⟨[.own 3 .byte],[(4,4),(6,15)],[]⟩)],[(3,⟨[.own 3 .byte, .slot 4 (.v .int)],[(6,15)],[]⟩)],[],[]⟩ (fun x=>wM.raw x) (by kernel_rfl) wM.ok
def zk8:=gA (kA 1) [.sl .byte] [.sl .byte] (fun x=>some (DE x)) [(false,1)] [0] false
theorem zc6:eA prog 168 zk8:=eD 33 (pc ziQ (pc ziR (pc ziS (pc ziT pn)))) func168 ⟨[],[(0,⟨[.own 4 .int],[(5,5),(18,30)],[3]⟩)],[(6,⟨[.own 4 .int, .slot 5 (.v .int)],[(18,30)],[]⟩)],[],[]⟩ (fun x=>YL.raw x) (by kernel_rfl) YL.ok
def zk7:=gA (kA 1) [.sl .byte] [.sl .byte] (fun x=>some (zD x)) [(false,1)] [0] false
theorem zif:eA prog 167 zk7:=eD 23 (pc zc6 pn) func167 ⟨[(851974,⟨[.own 3 .byte],[(14,15)],[]⟩)],[(0,⟨[.own 3 .byte],[(16,21)],[]⟩)],[(6,⟨[.own 3 .byte],[(16,21)],[]⟩)],[],[]⟩ (fun x=>pL.raw x) (by kernel_rfl) pL.ok
def zoP:=gA (kA 2) [.sl .byte, .sl .byte] [.sl .byte] (fun x=>some (FD x.1 x.2)) [(false,1)] [0] false
theorem vK:eA prog 96 zoP:=eD 49 (pc zif (pc zc6 pn)) func96 ⟨[],[(0,⟨[.own 6 .byte, .own 7 .byte],[(8,8),(22,41)],[]⟩)],[(7,⟨[.own 6 .byte, .own 7 .byte, .slot 8 (.v .int)],[(22,41)],[]⟩)],[(1,⟨[.slot 16 (.v .bool)],[(9,15)],[]⟩)],[]⟩ (u2 IL.raw) (by kernel_rfl) IL.ok
def zoh:=gA (kA 2) [.sl .byte, .v .int] [.sl .byte] (fun x=>some (NC x.1 x.2)) [(false,1)] [0] false
theorem c48:eA prog 48 zoh:=eD 24 (pc iB (pc vK (pc ZF pn))) func48 ⟨[],[],[],[(1,⟨[.slot 13 (.v .bool)],[(5,12)],[]⟩)],[]⟩ (u2 AL.raw) (by kernel_rfl) AL.ok
def zlF:=gA (kA 1) [.v .Dice] [.v .Dice, .sl .byte] (fun x=>NH x) [(true,2),(false,1)] [0,2] false
theorem XP:eA prog 201 zlF:=eC 27 (pc c48 (pc iQ (pc WP pn))) func201 ⟨[],[],[],[(2,⟨[.slot 14 (.v .bool)],[(7,13)],[]⟩)],[]⟩ (fun x=>LO.raw x) (by kernel_rfl) LO.ok
def zlw:=gA (kA 3) [.sl .byte, .sl .byte, .v .int] [.sl .byte, .v .bool] (fun x=>some (RG x.1 x.2.1 x.2.2)) [(false,1),(false,1)] [0] false
theorem zix:eA prog 192 zlw:=eD 52 (pc iB (pc vK pn)) func192 ⟨[],[(0,⟨[.own 8 .byte, .own 9 .byte],[(10,10),(27,46)],[]⟩)],[(6,⟨[.own 8 .byte, .own 9 .byte, .slot 10 (.v .int)],[(27,46)],[]⟩)],[(1,⟨[.slot 23 (.v .bool)],[(11,22)],[]⟩)],[]⟩ (u3 DL.raw) (by kernel_rfl) DL.ok
def zkw:=gA (kA 2) [.sl .byte, .v .str] [.sl .byte] (fun x=>jF x.1 x.2) [(false,1)] [0] false
theorem cI:eA prog 126 zkw:=eC 15 (pc zix pn) func126 a0 (u2 uO.raw) (by kernel_rfl) uO.ok
def zmw:=gA (kA 1) [.sl .byte] [.v .Jar] (fun x=>some (nF x)) [(true,1)] [0] false
theorem zag:eA prog 252 zmw:=eD 10 (pc cI pn) func252 a0 (fun x=>CO.raw x) (by kernel_rfl) CO.ok
def zm2:=gA (kA 1) [.v .int] [.v .Tab] (fun x=>some (YD x)) [(true,2)] [1] false
theorem zal:eA prog 281 zm2:=eD 9 (pc iB pn) func281 a0 (fun x=>QO.raw x) (by kernel_rfl) QO.ok
def zkY:=gA (kA 1) [.v .Jar] [.v .bool] (fun x=>some (xE x)) [(false,1)] [] false
theorem IV:eA prog 158 zkY:=eD 7 pn func158 a0 (fun x=>mT.raw x) (by kernel_rfl) mT.ok
def zof:=gA (kA 1) [.v .Tab] [.v .int] (fun x=>VG x) [(false,1)] [] false
theorem c46:eA prog 46 zof:=eC 22 pn func46 ⟨[(1179655,⟨[.slot 3 (.v .int)],[(19,20)],[]⟩)],[(0,⟨[.slot 3 (.v .int)],[(4,20)],[]⟩)],[(3,⟨[.slot 3 (.v .int), .slot 4 (.v .int)],[(5,20)],[]⟩)],[],[]⟩ (fun x=>pT.raw x) (by kernel_rfl) pT.ok
def zl3:=gA (kA 1) [.v .Ep] [.v .bool] (fun x=>some (WE x)) [(false,1)] [] false
theorem zdf:eA prog 226 zl3:=eD 30 pn func226 ⟨[],[],[],[(1,⟨[.slot 2 (.v .bool)],[(3,29)],[]⟩)],[]⟩ (fun x=>hM.raw x) (by kernel_rfl) hM.ok
def zk4:=gA (kA 1) [.v .Chan] [.v .bool] (fun x=>some (zE x)) [(false,1)] [] false
theorem zc5:eA prog 164 zk4:=eD 38 (pc zdf pn) func164 ⟨[],[],[],[(1,⟨[.slot 2 (.v .bool)],[(3,37)],[]⟩)],[]⟩ (fun x=>mM.raw x) (by kernel_rfl) mM.ok
def zn3:=gA (kA 1) [.v .int] [.v .Addr] (fun x=>some (pB x)) [(true,2)] [] false
theorem iF:eA prog 35 zn3:=eD 12 (pc iB pn) func35 a0 (fun x=>qT.raw x) (by kernel_rfl) qT.ok
def znE:=gA (kA 2) [.v .Win, .v .int] [.v .bool] (fun x=>KE x.1 x.2) [(false,1)] [] false
theorem zdD:eA prog 321 znE:=eC 19 pn func321 a0 (u2 OU.raw) (by kernel_rfl) OU.ok
def zm5:=gA (kA 1) [.v .Win] [.v .bool] (fun x=>some (lE x)) [(false,1)] [] false
theorem zdt:eA prog 289 zm5:=eD 46 (pc iB (pc zdD pn)) func289 ⟨[],[(0,⟨[],[(2,3),(15,25)],[]⟩),(2,⟨[],[(2,2),(4,4),(39,45)],[]⟩)],[(4,⟨[.slot 3 (.v .int)],[(2,2),(15,25)],[]⟩),(11,⟨[.slot 4 (.v .int)],[(2,2),(39,45)],[]⟩)],[(1,⟨[.slot 14 (.v .bool)],[(5,13)],[]⟩),(8,⟨[.slot 35 (.v .bool)],[(26,34)],[]⟩)],[]⟩ (fun x=>cM.raw x) (by kernel_rfl) cM.ok
def zl4:=gA (kA 1) [.v .Ep] [.v .bool] (fun x=>some (fE x)) [(false,1)] [] false
theorem zab:eA prog 227 zl4:=eD 22 (pc iB (pc zdt pn)) func227 ⟨[],[],[],[(1,⟨[.slot 2 (.v .bool)],[(3,21)],[]⟩)],[]⟩ (fun x=>ZS.raw x) (by kernel_rfl) ZS.ok
def zk5:=gA (kA 1) [.v .Chan] [.v .bool] (fun x=>yC x) [(false,1)] [] false
theorem EF:eA prog 165 zk5:=eC 74 (pc iB (pc zdf (pc zab pn))) func165 ⟨[(1376261,⟨[],[(2,3),(22,54)],[]⟩),(1572871,⟨[.slot 3 (.v .int)],[],[]⟩)],[],[],[(1,⟨[.slot 19 (.v .bool)],[(4,18)],[]⟩),(7,⟨[.slot 45 (.v .bool)],[(25,44)],[]⟩),(9,⟨[.slot 54 (.v .bool)],[(46,53)],[]⟩),(13,⟨[.slot 2 (.v .bool)],[(59,73)],[]⟩)],[]⟩ (fun x=>tL.raw x) (by kernel_rfl) tL.ok
def zoF:=gA (kA 2) [.sl .byte, .sl .byte] [.v .bool] (fun x=>eB x.1 x.2) [(false,1)] [] false
theorem FF:eA prog 82 zoF:=eC 10 pn func82 a0 (u2 oU.raw) (by kernel_rfl) oU.ok
def zok:=gA (kA 1) [.v .Addr] [.v .bool] (fun x=>some (oB x)) [(false,1)] [] false
theorem pE:eA prog 53 zok:=eD 11 (pc iB pn) func53 ⟨[],[],[],[(1,⟨[.slot 2 (.v .bool)],[(3,10)],[]⟩)],[]⟩ (fun x=>LS.raw x) (by kernel_rfl) LS.ok
def zoR:=gA (kA 1) [.v .Paths] [.v .bool] (fun x=>some (sD x)) [(false,1)] [] false
theorem jQ:eA prog 99 zoR:=eD 65 (pc iB (pc pE pn)) func99 ⟨[],[(0,⟨[],[(2,5),(16,64)],[]⟩),(2,⟨[],[(2,2),(5,5),(51,64)],[]⟩)],[(4,⟨[.slot 3 (.v .int)],[(2,2),(4,5),(16,64)],[]⟩),(10,⟨[.slot 5 (.v .int)],[(2,2),(51,64)],[]⟩)],[(1,⟨[.slot 15 (.v .bool)],[(6,14)],[]⟩),(7,⟨[.slot 50 (.v .bool)],[(28,49)],[]⟩)],[]⟩ (fun x=>PL.raw x) (by kernel_rfl) PL.ok
def zl2:=gA (kA 1) [.v .Sess] [.v .bool] (fun x=>XD x) [(false,1)] [] false
theorem ZI:eA prog 225 zl2:=eC 77 (pc iF (pc iB (pc FF (pc jQ (pc zc5 (pc EF pn)))))) func225 ⟨[],[],[],[(1,⟨[.slot 30 (.v .bool)],[(3,29)],[]⟩),(4,⟨[.slot 2 (.v .bool)],[(33,54)],[]⟩),(5,⟨[.slot 2 (.v .bool)],[(55,76)],[]⟩)],[]⟩ (fun x=>XL.raw x) (by kernel_rfl) XL.ok
def zog:=gA (kA 2) [.v .Tab, .sl .byte] [.v .int] (fun x=>pD x.1 x.2) [(false,1)] [] false
theorem VM:eA prog 47 zog:=eC 22 (pc FF pn) func47 ⟨[],[(0,⟨[],[(4,21)],[]⟩)],[(2,⟨[.slot 5 (.v .int)],[(4,4),(6,21)],[]⟩)],[],[]⟩ (u2 cT.raw) (by kernel_rfl) cT.ok
def zkZ:=gA (kA 1) [.v .Tab] [.v .bool] (fun x=>kH x) [(false,1)] [] false
theorem JV:eA prog 159 zkZ:=eC 47 (pc iB (pc c46 (pc VM (pc ZI pn)))) func159 ⟨[],[(0,⟨[],[(2,3),(21,46)],[]⟩)],[(4,⟨[.slot 3 (.v .int)],[(2,2),(21,46)],[]⟩)],[(1,⟨[.slot 20 (.v .bool)],[(4,19)],[]⟩),(6,⟨[.slot 46 (.v .bool)],[(28,45)],[]⟩)],[]⟩ (fun x=>aM.raw x) (by kernel_rfl) aM.ok
def zop:=gA (kA 1) [.sl .Credit] [.v .bool] (fun x=>some (SD x)) [(false,1)] [] false
theorem gQ:eA prog 58 zop:=eD 61 (pc iB (pc pE pn)) func58 ⟨[],[(0,⟨[],[(2,4),(8,60)],[]⟩),(2,⟨[],[(2,2),(4,4),(45,60)],[]⟩)],[(4,⟨[.slot 3 (.v .int)],[(2,2),(4,4),(8,60)],[]⟩),(9,⟨[.slot 4 (.v .int)],[(2,2),(45,60)],[]⟩)],[(6,⟨[.slot 44 (.v .bool)],[(14,43)],[]⟩)],[]⟩ (fun x=>yL.raw x) (by kernel_rfl) yL.ok
def zk0:=gA (kA 1) [.sl .byte] [.v .bool] (fun x=>some (mC x)) [(false,1)] [] false
theorem qK:eA prog 160 zk0:=eD 6 (pc iB pn) func160 a0 (fun x=>tT.raw x) (by kernel_rfl) tT.ok
def zoL:=gA (kA 1) [.v .Server] [.v .bool] (fun x=>dD x) [(false,1)] [] false
theorem eI:eA prog 92 zoL:=eC 67 (pc iB (pc gQ (pc iQ (pc IV (pc JV (pc qK pn)))))) func92 ⟨[],[(0,⟨[],[(2,3),(34,47)],[]⟩),(2,⟨[],[(2,2),(4,4),(48,66)],[]⟩)],[(4,⟨[.slot 3 (.v .int)],[(2,2),(34,47)],[]⟩),(9,⟨[.slot 4 (.v .int)],[(2,2),(48,66)],[]⟩)],[(1,⟨[.slot 33 (.v .bool)],[(5,32)],[]⟩)],[]⟩ (fun x=>CT.raw x) (by kernel_rfl) CT.ok
def zmr:=gA (kA 3) [.sl .bs, .sl .byte, .v .int] [.v .Server] (fun x=>mL x.1 x.2.1 x.2.2) [(true,7)] [0,1,2,5,6] false
theorem zdk:eA prog 248 zmr:=eC 45 (pc eI (pc XP (pc zag (pc zal pn)))) func248 ⟨[],[(0,⟨[.box 9 .Server [0,1,2,5,6]],[(10,10),(23,39)],[]⟩)],[(4,⟨[.slot 10 (.v .int), .box 9 .Server [0,1,2,5,6]],[(23,39)],[]⟩)],[],[]⟩ (u3 NO.raw) (by kernel_rfl) NO.ok
def zmF:=gA (kA 1) [.sl .byte] [.sl .byte] (fun x=>CS x) [(false,1)] [0] false
theorem zi3:eA prog 260 zmF:=eC 15 pn func260 ⟨[(589828,⟨[.own 3 .byte],[(10,11)],[]⟩)],[],[],[],[]⟩ (fun x=>oP.raw x) (by kernel_rfl) oP.ok
def zkT:=gA (kA 3) [.v .int, .sl .byte, .v .Addr] [.v .Client] (fun x=>uH x.1 x.2.1 x.2.2) [(true,41)] [1,5,8,9,11,12,15,16,18,20,23,25,28,31] false
theorem HV:eA prog 149 zkT:=eC 27 (pc iB (pc pE (pc qK pn))) func149 ⟨[],[],[],[(1,⟨[.slot 19 (.v .bool)],[(7,18)],[]⟩)],[]⟩ (u3 tO.raw) (by kernel_rfl) tO.ok
def zlH:=gA (kA 1) [.sl .byte] [.v .Note] (fun x=>KH x) [(true,12)] [3,4,7,8] false
theorem YP:eA prog 203 zlH:=eC 7 pn func203 a0 (fun x=>lP.raw x) (by kernel_rfl) lP.ok
def zlx:=gA (kA 4) [.sl .byte, .sl .byte, .sl .byte, .v .int] [.v .World] (fun x=>dV x.1 x.2.1 x.2.2.1 x.2.2.2) [(true,14)] [1,2,3,4,7,8,9,11,12,13] false
theorem ziy:eA prog 193 zlx:=eC 46 (pc iF (pc c48 (pc eI (pc HV (pc YP (pc zdk (pc zi3 pn))))))) func193 a0 (u4 XO.raw) (by kernel_rfl) XO.ok
def zkM:=gA [.ptr []] [.cells .Cur] [.v .World, .cells .Cur] (fun x=>IU.raw x) [(true,14)] [1,2,3,4,7,8,9,11,12,13] false
theorem zh6:eA prog 142 zkM:=eR 13 (pc AB (pc wC (pc ziy pn))) func142 a0 (by kernel_rfl)
def znt:=gA (kA 1) [.v .Win] [.v .Win] (fun x=>(fun (a0:G.Win)=>KA a0) x) [(true,2)] [1] false
theorem zdz:eA prog 310 znt:=eC 10 pn func310 a0 (fun x=>zM.raw x) (by kernel_rfl) zM.ok
def znv:=gA (kA 1) [.v .Ep] [.v .Ep] (fun x=>(fun (a0:G.Ep)=>KA a0) x) [(true,5)] [1,4] false
theorem dQ:eA prog 312 znv:=eC 15 (pc zdz pn) func312 a0 (fun x=>BM.raw x) (by kernel_rfl) BM.ok
def znw:=gA (kA 2) [.v .Ep, .v .bool] [.v .Ep] (fun x=>VQ x.1 x.2) [(true,5)] [1,4] false
theorem zjm:eA prog 313 znw:=eC 27 (pc dQ pn) func313 a0 (u2 gM.raw) (by kernel_rfl) gM.ok
def zmL:=gA (kA 1) [.v .Chan] [.v .Chan] (fun x=>(fun (a0:G.Chan)=>KA a0) x) [(true,15)] [1,3,6,8,11,14] false
theorem JG:eA prog 266 zmL:=eC 26 (pc dQ (pc zjm pn)) func266 a0 (fun x=>fM.raw x) (by kernel_rfl) fM.ok
def zj6:=gA (kA 1) [.v .Cand] [.v .Cand] (fun x=>gI x) [(true,4)] [2] false
theorem UP:eA prog 100 zj6:=eC 12 pn func100 a0 (fun x=>bU.raw x) (by kernel_rfl) bU.ok
def zl0:=gA (kA 1) [.v .Paths] [.v .Paths] (fun x=>(fun (a0:G.Paths)=>KA a0) x) [(true,3)] [2] false
theorem ZP:eA prog 220 zl0:=eC 27 (pc UP pn) func220 ⟨[],[(0,⟨[.box 3 .Paths [2]],[(4,4),(8,25)],[]⟩)],[(3,⟨[.slot 4 (.v .int), .box 3 .Paths [2]],[(8,25)],[]⟩)],[],[]⟩ (fun x=>iM.raw x) (by kernel_rfl) iM.ok
def zmy:=gA (kA 1) [.v .Sess] [.v .Sess] (fun x=>(fun (a0:G.Sess)=>KA a0) x) [(true,24)] [1,2,4,6,9,11,14,17,20] false
theorem bJ:eA prog 254 zmy:=eC 24 (pc ZP (pc JG pn)) func254 a0 (fun x=>oM.raw x) (by kernel_rfl) oM.ok
def zmJ:=gA (kA 1) [.v .Tab] [.v .Tab] (fun x=>(fun (a0:G.Tab)=>KA a0) x) [(true,2)] [1] false
theorem zai:eA prog 264 zmJ:=eC 27 (pc bJ pn) func264 ⟨[],[(0,⟨[.box 3 .Tab [1]],[(4,4),(8,25)],[]⟩)],[(3,⟨[.slot 4 (.v .int), .box 3 .Tab [1]],[(8,25)],[]⟩)],[],[]⟩ (fun x=>pM.raw x) (by kernel_rfl) pM.ok
def zlB:=gA (kA 1) [.v .Server] [.v .Server] (fun x=>(fun (a0:G.Server)=>KA a0) x) [(true,7)] [0,1,2,5,6] false
theorem sK:eA prog 197 zlB:=eC 42 (pc WP (pc zai pn)) func197 ⟨[],[(0,⟨[.box 3 .Server [0,1,2,5,6]],[(4,4),(22,40)],[]⟩)],[(3,⟨[.slot 4 (.v .int), .box 3 .Server [0,1,2,5,6]],[(22,40)],[]⟩)],[],[]⟩ (fun x=>qM.raw x) (by kernel_rfl) qM.ok
def zlD:=gA (kA 1) [.sl .Wire] [.sl .Wire] (fun x=>(fun (a0:List G.Wire)=>KA a0) x) [(false,1)] [0] false
theorem ziC:eA prog 199 zlD:=eC 34 pn func199 ⟨[],[(0,⟨[.own 3 .Wire],[(4,4),(6,32)],[]⟩)],[(3,⟨[.own 3 .Wire, .slot 4 (.v .int)],[(6,32)],[]⟩)],[],[]⟩ (fun x=>rM.raw x) (by kernel_rfl) rM.ok
def zkl:=gA (kA 1) [.v .Note] [.v .Note] (fun x=>(fun (a0:G.Note)=>KA a0) x) [(true,12)] [3,4,7,8] false
theorem zcX:eA prog 115 zkl:=eC 24 pn func115 a0 (fun x=>kM.raw x) (by kernel_rfl) kM.ok
def zki:=gA (kA 1) [.sl .Note] [.sl .Note] (fun x=>(fun (a0:List G.Note)=>KA a0) x) [(false,1)] [0] false
theorem zcV:eA prog 112 zki:=eC 21 (pc zcX pn) func112 ⟨[],[(0,⟨[.own 3 .Note],[(4,4),(6,19)],[]⟩)],[(3,⟨[.own 3 .Note, .slot 4 (.v .int)],[(6,19)],[]⟩)],[],[]⟩ (fun x=>jM.raw x) (by kernel_rfl) jM.ok
def zmK:=gA (kA 1) [.v .Frame] [.v .Frame] (fun x=>(fun (a0:G.Frame)=>KA a0) x) [(true,11)] [2,3,5,6,9,10] false
theorem bQ:eA prog 265 zmK:=eC 34 pn func265 a0 (fun x=>yM.raw x) (by kernel_rfl) yM.ok
def zlE:=gA (kA 1) [.v .Client] [.v .Client] (fun x=>(fun (a0:G.Client)=>KA a0) x) [(true,41)] [1,5,8,9,11,12,15,16,18,20,23,25,28,31] false
theorem dI:eA prog 200 zlE:=eC 24 (pc bQ (pc JG pn)) func200 a0 (fun x=>lM.raw x) (by kernel_rfl) lM.ok
def zkO:=gA (kA 1) [.v .World] [.v .World] (fun x=>(fun (a0:G.World)=>KA a0) x) [(true,14)] [1,2,3,4,7,8,9,11,12,13] false
theorem zh8:eA prog 144 zkO:=eC 59 (pc zcV (pc sK (pc WP (pc ziC (pc dI pn))))) func144 ⟨[],[(0,⟨[.box 3 .World [1,2,3,4,7,8,9,11,12,13]],[(4,4),(21,38)],[]⟩),(2,⟨[.box 3 .World [1,2,3,4,7,8,9,11,12,13]],[(5,5),(39,57)],[]⟩)],[(3,⟨[.slot 4 (.v .int), .box 3 .World [1,2,3,4,7,8,9,11,12,13]],[(21,38)],[]⟩),(7,⟨[.slot 5 (.v .int), .box 3 .World [1,2,3,4,7,8,9,11,12,13]],[(39,57)],[]⟩)],[],[]⟩ (fun x=>tM.raw x) (by kernel_rfl) tM.ok
def zoz:=gA [.ptr [], .plain] [.cells .Cur, .sl .int] [.v .int, .cells .Cur] (u2 OA.raw) [(false,1)] [] false
theorem qC:eA prog 70 zoz:=eR 12 (pc AB pn) func70 a0 (by kernel_rfl)
def zmG:=gA [.ptr []] [.cells .Cur] [.v .Op, .cells .Cur] (fun x=>mP.raw x) [(true,4)] [3] false
theorem zi4:eA prog 261 zmG:=eR 25 (pc AB (pc qC (pc wC pn))) func261 ⟨[(655364,⟨[.box 0 .Cur [], .box 3 .Op [3]],[(11,16)],[]⟩)],[],[],[],[]⟩ (by kernel_rfl)
def zmH:=gA (kA 1) [.v .int] [.v .int] (fun x=>sM.raw x) [(false,1)] [] false
theorem zdp:eA prog 262 zmH:=eR 9 pn func262 a0 (by kernel_rfl)
def zly:=gA [.ptr [], .plain] [.cells .Cur, .v .int] [.sl .Op, .cells .Cur] (u2 AU.raw) [(false,1)] [0] false
theorem ziz:eA prog 194 zly:=eR 53 (pc AB (pc zi4 (pc zdp pn))) func194 ⟨[],[(0,⟨[.own 5 .Op, .slot 6 (.v .int), .box 0 .Cur []],[(7,9),(15,43)],[]⟩),(2,⟨[.box 0 .Cur [], .box 8 .Op [3]],[(9,9),(21,33)],[]⟩),(4,⟨[.own 5 .Op],[(6,6),(44,51)],[]⟩)],[(4,⟨[.own 5 .Op, .slot 6 (.v .int), .slot 7 (.v .int), .box 0 .Cur []],[(8,9),(15,43)],[]⟩),(8,⟨[.slot 9 (.v .int), .box 0 .Cur [], .box 8 .Op [3]],[(21,33)],[]⟩),(13,⟨[.own 5 .Op, .slot 6 (.v .int)],[(44,51)],[]⟩)],[(8,⟨[.slot 29 (.v .bool)],[(21,28)],[]⟩)],[]⟩ (by kernel_rfl)
def zlz:=gA [.ptr []] [.cells .Cur] [.v .int, .sl .byte, .cells .Cur] (fun x=>SU.raw x) [(false,1),(false,1)] [1] false
theorem ziA:eA prog 195 zlz:=eR 25 (pc AB (pc qC (pc wC pn))) func195 a0 (by kernel_rfl)
def znm:=gA (kA 4) [.v .int, .sl .byte, .v .int, .v .int] [.sl .byte] (u4 JJ.raw) [(false,1)] [0] false
theorem cQ:eA prog 304 znm:=eR 37 (pc iB (pc ZF pn)) func304 ⟨[],[],[],[(1,⟨[.slot 26 (.v .bool)],[(9,25)],[]⟩)],[]⟩ (by kernel_rfl)
def zl5:=gA (kA 1) [.v .int] [.v .bool] (fun x=>some (GC x)) [(false,1)] [] false
theorem aJ:eA prog 228 zl5:=eD 5 (pc iB pn) func228 a0 (fun x=>zT.raw x) (by kernel_rfl) zT.ok
def zl6:=gA (kA 2) [.v .int, .v .int] [.v .bool] (fun x=>some (DF x.1 x.2)) [(false,1)] [] false
theorem zac:eA prog 229 zl6:=eD 19 pn func229 ⟨[],[],[],[(3,⟨[.slot 14 (.v .bool)],[(9,13)],[]⟩)],[]⟩ (u2 tP.raw) (by kernel_rfl) tP.ok
def znV:=gA (kA 3) [.sl .byte, .sl .byte, .v .int] [.sl .byte] (u3 NS.raw) [(false,1)] [0] false
theorem zjD:eA prog 338 znV:=eR 23 (pc iB (pc vK (pc ZF pn))) func338 ⟨[],[],[],[(1,⟨[.slot 14 (.v .bool)],[(7,13)],[]⟩)],[]⟩ (by kernel_rfl)
def znC:=gA (kA 3) [.sl .byte, .sl .byte, .v .int] [.sl .byte] (u3 MT.raw) [(false,1)] [0] false
theorem zjq:eA prog 319 znC:=eR 41 (pc iB (pc zjD pn)) func319 ⟨[],[(0,⟨[.own 7 .byte],[(8,8),(24,35)],[]⟩)],[(5,⟨[.own 7 .byte, .slot 8 (.v .int)],[(24,35)],[]⟩)],[(1,⟨[.slot 21 (.v .bool)],[(9,20)],[]⟩)],[]⟩ (by kernel_rfl)
def zm1:=gA (kA 3) [.sl .byte, .sl .byte, .sl .byte] [.sl .byte] (u3 LL.raw) [(false,1)] [0] false
theorem zak:eA prog 280 zm1:=eR 49 (pc zjq pn) func280 ⟨[],[(0,⟨[.own 7 .byte],[(9,9),(30,47)],[]⟩)],[(6,⟨[.own 7 .byte, .slot 9 (.v .int)],[(30,47)],[]⟩)],[(2,⟨[.slot 23 (.v .bool)],[(11,22)],[]⟩)],[]⟩ (by kernel_rfl)
def zk6:=gA (kA 1) [.v .Frame] [.v .bool] (fun x=>some (qD x)) [(false,1)] [] false
theorem tH:eA prog 166 zk6:=eD 174 (pc iB (pc aJ (pc zac pn))) func166 ⟨[],[],[],[(2,⟨[.slot 2 (.v .bool)],[(6,61)],[]⟩),(3,⟨[.slot 87 (.v .bool)],[(62,86)],[]⟩),(7,⟨[.slot 2 (.v .bool)],[(92,117)],[]⟩),(9,⟨[.slot 2 (.v .bool)],[(120,145)],[]⟩),(11,⟨[.slot 2 (.v .bool)],[(148,173)],[]⟩)],[]⟩ (fun x=>GL.raw x) (by kernel_rfl) GL.ok
def zmI:=gA (kA 2) [.v .int, .v .Frame] [.sl .byte] (u2 fH.raw) [(false,1)] [0] false
theorem cJ:eA prog 263 zmI:=eR 40 (pc iB (pc tH (pc aJ (pc cQ pn)))) func263 ⟨[],[],[],[(1,⟨[.slot 19 (.v .bool)],[(6,18)],[]⟩)],[]⟩ (by kernel_rfl)
def zmZ:=gA (kA 2) [.sl .byte, .sl .byte] [.sl .byte] (u2 KI.raw) [(false,1)] [0] false
theorem UM:eA prog 279 zmZ:=eR 17 (pc vK pn) func279 a0 (by kernel_rfl)
def zmm:=gA (kA 7) [.sl .byte, .v .int, .sl .byte, .v .int, .v .int, .v .int, .sl .byte] [.v .Frame, .v .bool] (u7 WL.raw) [(true,11),(false,1)] [2,3,5,6,9,10] false
theorem zae:eA prog 243 zmm:=eR 72 (pc aJ (pc zac (pc cJ (pc UM (pc zak (pc cQ pn)))))) func243 ⟨[],[(0,⟨[.box 17 .Frame [2,3,5,6,9,10]],[(18,18),(56,64)],[]⟩)],[(6,⟨[.slot 18 (.v .int), .box 17 .Frame [2,3,5,6,9,10]],[(56,64)],[]⟩)],[(2,⟨[.slot 43 (.v .bool)],[(24,42)],[]⟩)],[]⟩ (by kernel_rfl)
def zlA:=gA (kA 8) [.sl .byte, .v .int, .v .int, .sl .byte, .v .int, .v .int, .v .int, .sl .byte] [.sl .Op] (u8 eT.raw) [(false,1)] [0] false
theorem ziB:eA prog 196 zlA:=eR 65 (pc iB (pc ZF (pc zae (pc cJ pn)))) func196 ⟨[],[],[],[(2,⟨[.slot 37 (.v .bool)],[(31,36)],[]⟩)],[]⟩ (by kernel_rfl)
def zkN:=gA [.ptr [], .plain, .ptr [], .plain] [.cells .Cur, .v .World, .cells .int, .v .bool] [.v .Event, .cells .Cur, .cells .int] (u4 JU.raw) [(true,6)] [4] false
theorem zh7:eA prog 143 zkN:=eR 239 (pc AB (pc cE (pc qC (pc wC (pc ziz (pc ziA (pc ziB pn))))))) func143 ⟨[(5111823,⟨[.box 0 .Cur [], .box 9 .Event [4,5]],[(79,86)],[]⟩),(6225941,⟨[.slot 95 (.v .bool)],[(97,97)],[]⟩),(6225942,⟨[.box 9 .Event [4], .box 0 .Cur []],[(10,15),(98,204)],[]⟩),(6881305,⟨[.box 0 .Cur [], .box 9 .Event [4]],[(10,14),(106,155)],[]⟩),(8060956,⟨[.slot 11 (.sl .byte)],[(124,129)],[]⟩),(10027040,⟨[.box 9 .Event [4]],[(154,155)],[14]⟩),(10223650,⟨[.box 9 .Event [4,5], .box 0 .Cur []],[(15,15),(158,204)],[]⟩),(10420260,⟨[.box 9 .Event [4,5], .box 0 .Cur []],[(15,15),(161,204)],[]⟩),(10616870,⟨[.box 9 .Event [4,5], .box 0 .Cur []],[(15,15),(164,204)],[]⟩),(11010089,⟨[.box 9 .Event [4,5], .box 0 .Cur []],[(15,15),(170,204)],[]⟩),(11206699,⟨[.box 9 .Event [4,5], .box 0 .Cur []],[(15,15),(173,204)],[]⟩),(11599918,⟨[.box 0 .Cur [], .box 9 .Event [4,5]],[(15,15),(179,204)],[]⟩),(11796527,⟨[.box 9 .Event [4,5], .box 0 .Cur []],[(181,184)],[]⟩),(12124210,⟨[.box 9 .Event [4,5], .box 0 .Cur []],[(15,15),(187,204)],[]⟩),(13434934,⟨[.slot 205 (.v .bool)],[(207,208)],[]⟩),(13434935,⟨[.slot 205 (.v .bool)],[(208,208)],[]⟩),(13434936,⟨[.box 9 .Event [4], .box 0 .Cur [], .box 8 .Event [4,5]],[(10,15),(64,204),(209,237)],[]⟩),(14090299,⟨[.slot 215 (.v .bool)],[(217,217)],[]⟩),(14090300,⟨[.box 9 .Event [4], .box 0 .Cur [], .box 8 .Event [4,5]],[(10,15),(64,204),(218,237)],[]⟩),(14876736,⟨[.slot 227 (.v .bool)],[(229,229)],[]⟩),(14876737,⟨[.box 9 .Event [4], .box 0 .Cur [], .box 8 .Event [4,5]],[(10,15),(64,204),(230,237)],[]⟩),(15138883,⟨[.box 9 .Event [4], .box 0 .Cur [], .box 8 .Event [4,5]],[(10,15),(64,204),(233,237)],[]⟩),(15335493,⟨[.slot 234 (.v .bool)],[(236,236)],[]⟩),(15335494,⟨[.box 9 .Event [4], .box 0 .Cur [], .box 8 .Event [4,5]],[(10,15),(64,204),(237,237)],[]⟩)],[],[],[(2,⟨[.slot 34 (.v .bool), .box 0 .Cur []],[(23,33)],[]⟩),(7,⟨[.slot 59 (.v .bool), .box 0 .Cur []],[(47,58)],[]⟩),(13,⟨[.slot 78 (.v .bool), .box 0 .Cur []],[(71,77)],[]⟩),(26,⟨[.slot 123 (.v .bool), .box 0 .Cur []],[(117,122)],[]⟩)],[]⟩ (by kernel_rfl)
def zkP:=gA (kA 1) [.v .Event] [.v .bool] (fun x=>some (nJ x)) [(false,1)] [] false
theorem zh9:eA prog 145 zkP:=eD 33 (pc iB pn) func145 ⟨[],[],[],[(1,⟨[.slot 2 (.v .bool)],[(3,32)],[]⟩)],[]⟩ (fun x=>bT.raw x) (by kernel_rfl) bT.ok
def zk2:=gA (kA 1) [.v .Timer] [.v .bool] (fun x=>some (wD x)) [(false,1)] [] false
theorem zc4:eA prog 162 zk2:=eD 37 (pc iB pn) func162 ⟨[],[],[],[(3,⟨[.slot 2 (.v .bool)],[(9,36)],[]⟩)],[]⟩ (fun x=>bM.raw x) (by kernel_rfl) bM.ok
def zk3:=gA (kA 1) [.v .Frame] [.v .bool] (fun x=>some (AE x)) [(false,1)] [] false
theorem zie:eA prog 163 zk3:=eD 62 pn func163 ⟨[],[],[],[(1,⟨[.slot 2 (.v .bool)],[(3,61)],[]⟩)],[]⟩ (fun x=>nM.raw x) (by kernel_rfl) nM.ok
def zoO:=gA (kA 1) [.v .Client] [.v .bool] (fun x=>dE x) [(false,1)] [] false
theorem fI:eA prog 95 zoO:=eC 204 (pc iB (pc pE (pc FF (pc qK (pc zc4 (pc zie (pc zc5 (pc EF (pc tH pn))))))))) func95 ⟨[],[],[],[(1,⟨[.slot 36 (.v .bool)],[(3,35)],[]⟩),(4,⟨[.slot 2 (.v .bool)],[(40,70)],[]⟩),(8,⟨[.slot 2 (.v .bool)],[(78,108)],[]⟩),(9,⟨[.slot 122 (.v .bool)],[(109,121)],[]⟩),(12,⟨[.slot 2 (.v .bool)],[(126,133)],[]⟩),(13,⟨[.slot 2 (.v .bool)],[(134,203)],[]⟩)],[]⟩ (fun x=>wL.raw x) (by kernel_rfl) wL.ok
def zml:=gA (kA 1) [.v .int] [.v .Timer] (fun x=>gH.raw x) [(true,4)] [] false
theorem tK:eA prog 242 zml:=eR 10 (pc iB pn) func242 a0 (by kernel_rfl)
def zmM:=gA (kA 1) [.v .Client] [.v .Frame] (fun x=>iP.raw x) [(true,11)] [2,3,5,6,9,10] false
theorem zdq:eA prog 267 zmM:=eR 10 pn func267 a0 (by kernel_rfl)
def zlG:=gA (kA 3) [.v .Client, .v .int, .sl .byte] [.v .Client, .sl .Frame, .sl .Note, .v .int] (u3 vO.raw) [(true,41),(false,1),(false,1),(false,1)] [1,5,8,9,11,12,15,16,18,20,23,25,28,31,41,42] false
theorem zdb:eA prog 202 zlG:=eR 57 (pc iB (pc fI (pc dI (pc tK (pc zdq pn))))) func202 ⟨[],[],[],[(2,⟨[.slot 26 (.v .bool)],[(14,25)],[]⟩)],[]⟩ (by kernel_rfl)
def zol:=gA (kA 0) [] [.v .Addr] (fun _=>some (oI)) [(true,2)] [] false
theorem c54:eA prog 54 zol:=eD 2 (pc iF pn) func54 a0 (fun _=>kT.raw) (by kernel_rfl) kT.ok
def znr:=gA (kA 1) [.v .Frame] [.sl .byte] (fun x=>RL.raw x) [(false,1)] [0] false
theorem zaq:eA prog 309 znr:=eR 91 (pc ZF (pc tH pn)) func309 ⟨[(2097161,⟨[.own 3 .byte],[(4,4),(15,31),(34,89)],[]⟩),(3276815,⟨[.own 3 .byte],[(15,31),(52,89)],[]⟩),(4325394,⟨[.own 3 .byte],[(15,31),(68,89)],[]⟩)],[(1,⟨[.own 3 .byte],[(4,4),(43,49)],[]⟩)],[(10,⟨[.own 3 .byte, .slot 4 (.v .int)],[(43,49)],[]⟩)],[],[]⟩ (by kernel_rfl)
def zmB:=gA (kA 3) [.v .Addr, .v .Addr, .v .Frame] [.v .Wire] (u3 dM.raw) [(true,5)] [4] false
theorem zah:eA prog 257 zmB:=eR 12 (pc zaq pn) func257 a0 (by kernel_rfl)
def zmN:=gA (kA 2) [.v .Client, .sl .Frame] [.sl .Wire] (u2 uM.raw) [(false,1)] [0] false
theorem zaj:eA prog 268 zmN:=eR 26 (pc c54 (pc zah pn)) func268 ⟨[],[(0,⟨[.own 5 .Wire],[(6,6),(8,24)],[]⟩)],[(3,⟨[.own 5 .Wire, .slot 6 (.v .int)],[(8,24)],[]⟩)],[],[]⟩ (by kernel_rfl)
def zlL:=gA [.ptr [1,11,12,13], .plain, .plain] [.cells .World, .sl .Wire, .sl .Note] [.cells .World] (u3 TH.raw) [] [1,11,12,13] false
theorem zaa:eA prog 207 zlL:=eR 41 pn func207 ⟨[(1179653,⟨[.box 0 .World [1,11,12,13]],[(19,31)],[]⟩)],[(0,⟨[.box 0 .World [1,11,12,13]],[(6,31)],[]⟩)],[(1,⟨[.slot 6 (.v .int), .box 0 .World [1,11,12,13]],[(7,31)],[]⟩)],[],[]⟩ (by kernel_rfl)
def zlI:=gA [.ptr [1,11,12,13], .plain, .plain, .plain, .plain] [.cells .World, .v .int, .v .Client, .sl .Frame, .sl .Note] [.cells .World] (u5 TJ.raw) [] [1,11,12,13] false
theorem ziD:eA prog 204 zlI:=eR 23 (pc zaa (pc zaj pn)) func204 a0 (by kernel_rfl)
def znx:=gA (kA 5) [.v .Ep, .v .int, .sl .byte, .v .int, .sl .byte] [.v .Ep, .v .Frame, .v .int] (u5 aT.raw) [(true,5),(true,11),(false,1)] [1,4,7,8,10,11,14,15] false
theorem zjn:eA prog 314 znx:=eR 78 (pc zab (pc aJ (pc zac (pc zae (pc cQ (pc dQ pn)))))) func314 ⟨[],[],[],[(2,⟨[.slot 41 (.v .bool)],[(18,40)],[]⟩),(4,⟨[.slot 50 (.v .bool)],[(44,49)],[]⟩)],[]⟩ (by kernel_rfl)
def zmO:=gA (kA 3) [.v .Chan, .v .int, .sl .byte] [.v .Chan, .v .Frame, .v .int] (u3 SH.raw) [(true,15),(true,11),(false,1)] [1,8,11,14,17,18,20,21,24,25] false
theorem uK:eA prog 269 zmO:=eR 40 (pc EF (pc JG (pc zjn pn))) func269 ⟨[(2228231,⟨[.box 9 .Chan [1,8,11,14]],[(35,36)],[1000010]⟩)],[],[],[],[]⟩ (by kernel_rfl)
def znf:=gA (kA 2) [.sl .byte, .sl .byte] [.v .Note] (u2 JL.raw) [(true,12)] [3,4,7,8] false
theorem zam:eA prog 298 znf:=eR 12 pn func298 a0 (by kernel_rfl)
def zmQ:=gA (kA 2) [.v .Chan, .v .Frame] [.v .Note] (u2 tG.raw) [(true,12)] [3,4,7,8] false
theorem dJ:eA prog 270 zmQ:=eR 13 (pc cJ (pc zam pn)) func270 a0 (by kernel_rfl)
def zlJ:=gA (kA 3) [.v .Client, .v .int, .sl .byte] [.v .Client, .sl .Frame, .sl .Note, .v .int] (u3 RS.raw) [(true,41),(false,1),(false,1),(false,1)] [1,5,8,9,11,12,15,16,18,25,28,31,41,42] false
theorem ziE:eA prog 205 zlJ:=eR 75 (pc iB (pc fI (pc dI (pc uK (pc dJ pn))))) func205 ⟨[],[],[],[(2,⟨[.slot 29 (.v .bool)],[(17,28)],[]⟩)],[(11,[1000012])]⟩ (by kernel_rfl)
def zmR:=gA (kA 2) [.v .Sess, .sl .byte] [.v .Sess, .sl .Out, .sl .Note, .v .int] (u2 HT.raw) [(true,24),(false,1),(false,1),(false,1)] [1,2,4,11,14,17,20,24,25] false
theorem zi5:eA prog 271 zmR:=eR 71 (pc ZI (pc bJ (pc uK (pc dJ pn)))) func271 ⟨[],[],[],[(2,⟨[.slot 22 (.v .bool)],[(15,21)],[]⟩)],[(11,[1000010])]⟩ (by kernel_rfl)
def zlK:=gA (kA 4) [.v .Server, .v .int, .v .int, .sl .byte] [.v .Server, .sl .Out, .sl .Note, .v .int] (u4 DT.raw) [(true,7),(false,1),(false,1),(false,1)] [0,1,2,5,6,7,8] false
theorem ziF:eA prog 206 zlK:=eR 66 (pc iB (pc eI (pc sK (pc zi5 pn)))) func206 ⟨[(3604489,⟨[.box 12 .Server [0,1,2,5,6]],[(56,61)],[1000013]⟩)],[],[],[(2,⟨[.slot 26 (.v .bool)],[(19,25)],[]⟩)],[]⟩ (by kernel_rfl)
def zlM:=gA (kA 1) [.sl .Out] [.sl .Wire] (fun x=>nP.raw x) [(false,1)] [0] false
theorem zdc:eA prog 208 zlM:=eR 28 (pc c54 (pc zah pn)) func208 ⟨[],[(0,⟨[.own 3 .Wire],[(4,4),(6,26)],[]⟩)],[(3,⟨[.own 3 .Wire, .slot 4 (.v .int)],[(6,26)],[]⟩)],[],[]⟩ (by kernel_rfl)
def znd:=gA (kA 2) [.v .Timer, .v .int] [.v .bool] (u2 OT.raw) [(false,1)] [] false
theorem zji:eA prog 296 znd:=eR 21 (pc iB (pc zc4 pn)) func296 ⟨[],[],[],[(1,⟨[.slot 4 (.v .bool)],[(5,20)],[]⟩)],[]⟩ (by kernel_rfl)
def zmh:=gA (kA 2) [.v .Timer, .v .int] [.v .Timer, .v .int] (u2 LI.raw) [(true,4),(false,1)] [] false
theorem zad:eA prog 239 zmh:=eR 29 (pc zji pn) func239 ⟨[(1310728,⟨[.slot 6 (.v .int)],[],[]⟩)],[],[],[],[]⟩ (by kernel_rfl)
def zoH:=gA (kA 1) [.v .Client] [.v .Client] (fun x=>QJ.raw x) [(true,41)] [1,5,8,9,11,12,15,16,18,20,23,25,28,31] false
theorem c85:eA prog 85 zoH:=eR 10 (pc HV pn) func85 a0 (by kernel_rfl)
def zny:=gA (kA 2) [.v .Chan, .v .int] [.v .Chan] (u2 sO.raw) [(true,15)] [1,3,6,8,11,14] false
theorem zdB:eA prog 315 zny:=eR 34 (pc iB (pc EF (pc JG pn))) func315 ⟨[(1835012,⟨[.box 5 .Chan [1,3,6,8,11,14]],[(29,32)],[]⟩)],[],[],[(2,⟨[.slot 28 (.v .bool)],[(8,27)],[]⟩)],[]⟩ (by kernel_rfl)
def zmn:=gA (kA 1) [.v .int] [.sl .byte] (fun x=>KJ.raw x) [(false,1)] [0] false
theorem aQ:eA prog 244 zmn:=eR 10 (pc iB (pc ZF pn)) func244 a0 (by kernel_rfl)
def zmV:=gA (kA 1) [.v .Chan] [.v .Chan, .v .Frame, .v .int] (fun x=>pO.raw x) [(true,15),(true,11),(false,1)] [1,8,11,14,17,18,20,21,24,25] false
theorem zdr:eA prog 275 zmV:=eR 27 (pc EF (pc aQ (pc JG (pc uK pn)))) func275 ⟨[],[],[],[(1,⟨[.slot 13 (.v .bool)],[(5,12)],[]⟩)],[]⟩ (by kernel_rfl)
def zmS:=gA (kA 2) [.v .Client, .v .int] [.v .Client, .sl .Frame, .sl .Note] (u2 SS.raw) [(true,41),(false,1),(false,1)] [1,5,8,9,11,12,15,16,41,42] false
theorem zi6:eA prog 272 zmS:=eR 159 (pc iB (pc c85 (pc fI (pc dI (pc zad (pc tK (pc bQ (pc zdq (pc dJ (pc zdr (pc zdB pn))))))))))) func272 ⟨[(4587533,⟨[.own 8 .Frame],[(71,75)],[]⟩),(5373967,⟨[.own 8 .Frame],[(83,88)],[]⟩),(8585241,⟨[.box 7 .Client [1,5,8,9,11,12,15,16,18,20,23,25,28,31]],[(132,134)],[]⟩),(9371676,⟨[.own 8 .Frame, .own 9 .Note, .box 7 .Client [1,5,8,9,11,12,15,16]],[(144,155)],[1000015,1000014]⟩)],[],[],[(4,⟨[.slot 33 (.v .bool)],[(21,32)],[]⟩),(11,⟨[.slot 70 (.v .bool)],[(64,69)],[]⟩),(13,⟨[.slot 82 (.v .bool)],[(76,81)],[]⟩)],[]⟩ (by kernel_rfl)
def zlo:=gA (kA 1) [.v .Sess] [.v .Sess] (fun x=>RH.raw x) [(true,24)] [1,2,4,6,9,11,14,17,20] false
theorem rK:eA prog 184 zlo:=eR 21 (pc ZI (pc bJ pn)) func184 a0 (by kernel_rfl)
def zl1:=gA (kA 2) [.v .Paths, .v .int] [.v .Paths] (u2 HO.raw) [(true,3)] [2] false
theorem zde:eA prog 221 zl1:=eR 47 (pc iB (pc jQ (pc UP (pc ZP pn)))) func221 ⟨[(2228233,⟨[.box 5 .Paths [2]],[(35,45)],[]⟩)],[(0,⟨[.box 5 .Paths [2]],[(6,6),(20,45)],[]⟩)],[(5,⟨[.slot 6 (.v .int), .box 5 .Paths [2]],[(20,45)],[]⟩)],[(1,⟨[.slot 14 (.v .bool)],[(7,13)],[]⟩)],[]⟩ (by kernel_rfl)
def znM:=gA (kA 2) [.v .Sess, .v .int] [.v .Sess] (u2 IT.raw) [(true,24)] [1,2,4,6,9,11,14,17,20] false
theorem zjw:eA prog 329 znM:=eR 39 (pc iB (pc rK (pc zde (pc ZI (pc bJ (pc zdB pn)))))) func329 ⟨[],[],[],[(2,⟨[.slot 19 (.v .bool)],[(8,18)],[]⟩)],[]⟩ (by kernel_rfl)
def znz:=gA (kA 2) [.v .Tab, .v .int] [.v .Tab] (u2 NT.raw) [(true,2)] [1] false
theorem zjo:eA prog 316 znz:=eR 52 (pc iB (pc JV (pc zai (pc zjw pn)))) func316 ⟨[(2883594,⟨[.box 5 .Tab [1]],[(45,50)],[1000007]⟩)],[(0,⟨[.box 5 .Tab [1]],[(6,7),(21,50)],[]⟩)],[(5,⟨[.slot 6 (.v .int), .box 5 .Tab [1]],[(7,7),(21,50)],[]⟩)],[(1,⟨[.slot 15 (.v .bool)],[(8,14)],[]⟩),(8,⟨[.slot 44 (.v .bool)],[(35,43)],[]⟩)],[]⟩ (by kernel_rfl)
def zm3:=gA (kA 1) [.v .Sess] [.v .Note] (fun x=>kP.raw x) [(true,12)] [3,4,7,8] false
theorem zds:eA prog 282 zm3:=eR 10 pn func282 a0 (by kernel_rfl)
def zmT:=gA (kA 2) [.v .Server, .v .int] [.v .Server, .sl .Note] (u2 ET.raw) [(true,7),(false,1)] [7] false
theorem zi7:eA prog 273 zmT:=eR 79 (pc iB (pc VM (pc eI (pc sK (pc zds (pc zjo pn)))))) func273 ⟨[(4325388,⟨[.own 7 .Note],[(67,76)],[]⟩)],[(0,⟨[.own 7 .Note],[(8,9),(28,76)],[1000006]⟩)],[(7,⟨[.own 7 .Note, .slot 8 (.v .int)],[(9,9),(28,76)],[]⟩)],[(3,⟨[.slot 20 (.v .bool)],[(13,19)],[]⟩),(10,⟨[.slot 66 (.v .bool)],[(46,65)],[]⟩)],[]⟩ (by kernel_rfl)
def zlN:=gA [.ptr [1,11,12,13]] [.cells .World] [.sl .Wire, .cells .World] (fun x=>CU.raw x) [(false,1)] [0,2,12,13,14] false
theorem ziG:eA prog 209 zlN:=eR 86 (pc zaj (pc zi6 (pc zi7 pn))) func209 ⟨[],[(0,⟨[.own 3 .Wire, .box 0 .World [1,11,12,13]],[(4,7),(19,59)],[]⟩)],[(4,⟨[.own 3 .Wire, .slot 4 (.v .int), .box 0 .World [1,11,12,13]],[(5,7),(19,59)],[]⟩)],[],[]⟩ (by kernel_rfl)
def zlP:=gA (kA 2) [.v .Client, .v .Addr] [.v .Client] (u2 xT.raw) [(true,41)] [1,5,8,9,11,12,15,16,18,20,23,25,28,31] false
theorem ziH:eA prog 210 zlP:=eR 17 (pc pE (pc fI (pc dI pn))) func210 ⟨[(851972,⟨[.box 5 .Client [1,5,8,9,11,12,15,16,18,20,23,25,28,31]],[(14,15)],[]⟩)],[],[],[(2,⟨[.slot 13 (.v .bool)],[(8,12)],[]⟩)],[]⟩ (by kernel_rfl)
def zmU:=gA (kA 1) [.v .Chan] [.v .Chan, .v .bool] (fun x=>ST.raw x) [(true,15),(false,1)] [1,3,6,8,11,14] false
theorem zi8:eA prog 274 zmU:=eR 34 (pc cI (pc EF (pc JG pn))) func274 ⟨[],[],[],[(2,⟨[.slot 26 (.v .bool)],[(7,25)],[]⟩)],[]⟩ (by kernel_rfl)
def zlQ:=gA (kA 2) [.v .Client, .v .int] [.v .Client, .sl .Frame, .sl .Note, .v .int] (u2 QS.raw) [(true,41),(false,1),(false,1),(false,1)] [1,5,8,9,11,12,15,16,18,25,28,31,41,42] false
theorem ziI:eA prog 211 zlQ:=eR 73 (pc iB (pc fI (pc dI (pc tK (pc dJ (pc zi8 (pc zdr pn))))))) func211 ⟨[],[],[],[(2,⟨[.slot 23 (.v .bool)],[(16,22)],[]⟩),(4,⟨[.slot 36 (.v .bool)],[(27,35)],[]⟩),(8,⟨[.slot 57 (.v .bool)],[(52,56)],[]⟩)],[(12,[1000012])]⟩ (by kernel_rfl)
def zoe:=gA (kA 2) [.v .World, .v .Addr] [.v .int] (fun x=>eO x.1 x.2) [(false,1)] [] false
theorem c45:eA prog 45 zoe:=eC 30 (pc c54 pn) func45 ⟨[],[(0,⟨[],[(4,5),(9,29)],[]⟩)],[(4,⟨[.slot 5 (.v .int)],[(4,4),(9,29)],[]⟩)],[],[]⟩ (u2 OL.raw) (by kernel_rfl) OL.ok
def zoq:=gA (kA 2) [.sl .Credit, .v .Addr] [.v .int] (fun x=>some (BB x.1 x.2)) [(false,1)] [] false
theorem c59:eA prog 59 zoq:=eD 20 pn func59 ⟨[],[(0,⟨[],[(4,19)],[]⟩)],[(2,⟨[.slot 5 (.v .int)],[(4,4),(6,19)],[]⟩)],[],[]⟩ (u2 dU.raw) (by kernel_rfl) dU.ok
def zkR:=gA (kA 3) [.sl .Credit, .v .Addr, .v .int] [.sl .Credit] (u3 AO.raw) [(false,1)] [0] false
theorem zc0:eA prog 147 zkR:=eR 63 (pc iB (pc pE (pc gQ (pc c59 pn)))) func147 ⟨[(3735564,⟨[.own 7 .Credit],[(58,61)],[]⟩)],[],[],[(2,⟨[.slot 24 (.v .bool)],[(12,23)],[]⟩)],[]⟩ (by kernel_rfl)
def znB:=gA (kA 1) [.sl .byte] [.v .Frame, .v .bool] (fun x=>BO.raw x) [(true,11),(false,1)] [2,3,5,6,9,10] false
theorem zdC:eA prog 318 znB:=eR 140 (pc zaq (pc zdE pn)) func318 ⟨[(3276815,⟨[.box 2 .Frame [2,3,5,6,9,10], .box 4 .Frame [2,3,5,6,9,10]],[(3,3),(17,49),(52,131)],[]⟩),(4325396,⟨[.box 2 .Frame [2,3,5,6,9,10], .box 4 .Frame [2,3,5,6,9,10]],[(3,3),(17,49),(68,131)],[]⟩),(6160411,⟨[.box 2 .Frame [2,3,5,6,9,10], .box 4 .Frame [2,3,5,6,9,10]],[(3,3),(17,49),(96,131)],[]⟩)],[],[],[],[]⟩ (by kernel_rfl)
def znX:=gA (kA 2) [.v .Tab, .v .Addr] [.v .bool] (u2 qO.raw) [(false,1)] [] false
theorem zdI:eA prog 344 znX:=eR 31 pn func344 ⟨[],[(0,⟨[],[(4,30)],[]⟩)],[(2,⟨[.slot 5 (.v .int)],[(4,4),(6,30)],[]⟩)],[(4,⟨[.slot 30 (.v .bool)],[(13,29)],[]⟩)],[]⟩ (by kernel_rfl)
def zlY:=gA (kA 2) [.sl .Credit, .v .Addr] [.v .int] (u2 MO.raw) [(false,1)] [] false
theorem zdd:eA prog 219 zlY:=eR 28 (pc gQ (pc c59 pn)) func219 ⟨[],[],[],[(2,⟨[.slot 15 (.v .bool)],[(9,14)],[]⟩)],[]⟩ (by kernel_rfl)
def znN:=gA (kA 3) [.v .Server, .v .Addr, .v .int] [.v .bool] (u3 EO.raw) [(false,1)] [] false
theorem zjx:eA prog 330 znN:=eR 19 (pc zdd (pc zdI pn)) func330 ⟨[],[],[],[(1,⟨[.slot 6 (.v .bool)],[(7,18)],[]⟩)],[]⟩ (by kernel_rfl)
def znY:=gA (kA 2) [.sl .byte, .v .Addr] [.sl .byte] (u2 uT.raw) [(false,1)] [0] false
theorem zjF:eA prog 345 znY:=eR 18 (pc pE (pc ZF pn)) func345 a0 (by kernel_rfl)
def znP:=gA (kA 5) [.v .Addr, .v .int, .sl .byte, .sl .byte, .v .int] [.sl .byte] (u5 KL.raw) [(false,1)] [0] false
theorem zdH:eA prog 332 znP:=eR 50 (pc iB (pc pE (pc ZF (pc zjF pn)))) func332 ⟨[],[],[],[(1,⟨[.slot 34 (.v .bool)],[(12,33)],[]⟩)],[]⟩ (by kernel_rfl)
def znO:=gA (kA 6) [.v .Jar, .v .Addr, .v .int, .sl .byte, .sl .byte, .v .int] [.sl .byte] (u6 FO.raw) [(false,1)] [0] false
theorem zdG:eA prog 331 znO:=eR 33 (pc IV (pc UM (pc zdH pn))) func331 ⟨[],[],[],[(2,⟨[.slot 27 (.v .bool)],[(20,26)],[]⟩)],[]⟩ (by kernel_rfl)
def znZ:=gA (kA 2) [.v .int, .v .int] [.v .bool] (u2 fT.raw) [(false,1)] [] false
theorem zjG:eA prog 346 znZ:=eR 17 (pc iB pn) func346 ⟨[],[],[],[(1,⟨[.slot 4 (.v .bool)],[(5,16)],[]⟩)],[]⟩ (by kernel_rfl)
def zn6:=gA (kA 2) [.sl .byte, .sl .byte] [.v .int] (u2 VS.raw) [(false,1)] [] false
theorem zjK:eA prog 353 zn6:=eR 31 pn func353 ⟨[],[(0,⟨[.slot 5 (.v .int)],[(6,6),(12,29)],[]⟩)],[(5,⟨[.slot 5 (.v .int), .slot 6 (.v .int)],[(12,29)],[]⟩)],[],[]⟩ (by kernel_rfl)
def zn0:=gA (kA 2) [.sl .byte, .sl .byte] [.v .bool] (u2 UL.raw) [(false,1)] [] false
theorem zar:eA prog 347 zn0:=eR 14 (pc zjK pn) func347 ⟨[],[],[],[(1,⟨[.slot 4 (.v .bool)],[(5,13)],[]⟩)],[]⟩ (by kernel_rfl)
def znQ:=gA (kA 4) [.v .Jar, .v .int, .v .Addr, .v .Frame] [.v .int] (u4 nT.raw) [(false,1)] [] false
theorem zjy:eA prog 333 znQ:=eR 52 (pc iB (pc pE (pc IV (pc tH (pc zdG (pc zjG (pc zar pn))))))) func333 ⟨[],[],[],[(1,⟨[.slot 31 (.v .bool)],[(9,30)],[]⟩)],[]⟩ (by kernel_rfl)
def znJ:=gA (kA 2) [.sl .byte, .sl .byte] [.sl .byte] (u2 yO.raw) [(false,1)] [0] false
theorem zdF:eA prog 326 znJ:=eR 8 (pc vK pn) func326 a0 (by kernel_rfl)
def zng:=gA (kA 1) [.sl .byte] [.sl .byte] (fun x=>EL.raw x) [(false,1)] [0] false
theorem zan:eA prog 299 zng:=eR 12 (pc cI (pc qK (pc zdF pn))) func299 a0 (by kernel_rfl)
def zni:=gA (kA 5) [.v .int, .sl .byte, .sl .byte, .v .int, .sl .byte] [.sl .byte] (u5 QL.raw) [(false,1)] [0] false
theorem zao:eA prog 300 zni:=eR 48 (pc iB (pc ZF pn)) func300 ⟨[],[],[],[(1,⟨[.slot 34 (.v .bool)],[(12,33)],[]⟩)],[]⟩ (by kernel_rfl)
def znq:=gA (kA 6) [.sl .byte, .v .int, .sl .byte, .sl .byte, .v .int, .sl .byte] [.sl .byte] (u6 KO.raw) [(false,1)] [0] false
theorem zdy:eA prog 308 znq:=eR 35 (pc UM (pc zan (pc zao pn))) func308 ⟨[],[],[],[(3,⟨[.slot 30 (.v .bool)],[(23,29)],[]⟩)],[]⟩ (by kernel_rfl)
def znR:=gA (kA 2) [.sl .byte, .v .Frame] [.v .bool] (u2 sT.raw) [(false,1)] [] false
theorem zjz:eA prog 334 znR:=eR 29 (pc tH (pc zdy (pc zar pn))) func334 ⟨[],[],[],[(1,⟨[.slot 4 (.v .bool)],[(5,28)],[]⟩)],[]⟩ (by kernel_rfl)
def znH:=gA (kA 3) [.sl .byte, .sl .byte, .sl .byte] [.sl .byte] (u3 yT.raw) [(false,1)] [0] false
theorem zjs:eA prog 324 znH:=eR 28 (pc qK (pc zdF pn)) func324 ⟨[],[],[],[(1,⟨[.slot 19 (.v .bool)],[(7,18)],[]⟩)],[]⟩ (by kernel_rfl)
def znG:=gA (kA 1) [.sl .byte] [.sl .byte] (fun x=>dT.raw x) [(false,1)] [0] false
theorem zjr:eA prog 323 znG:=eR 9 (pc cI pn) func323 a0 (by kernel_rfl)
def znI:=gA (kA 2) [.sl .byte, .v .int] [.sl .byte] (u2 PS.raw) [(false,1)] [0] false
theorem zjt:eA prog 325 znI:=eR 22 (pc iB (pc cI pn)) func325 ⟨[],[(0,⟨[.own 5 .byte],[(6,6),(14,20)],[]⟩)],[(5,⟨[.own 5 .byte, .slot 6 (.v .int)],[(14,20)],[]⟩)],[],[]⟩ (by kernel_rfl)
def zne:=gA (kA 4) [.sl .byte, .sl .byte, .sl .byte, .v .int] [.sl .byte] (u4 xO.raw) [(false,1)] [0] false
theorem zdv:eA prog 297 zne:=eR 22 (pc zjr (pc zjs (pc zjt pn))) func297 a0 (by kernel_rfl)
def zlv:=gA (kA 0) [] [.v .Win] (fun _=>VO.raw) [(true,2)] [1] false
theorem zda:eA prog 191 zlv:=eR 14 pn func191 ⟨[],[(0,⟨[.box 1 .Win [1]],[(2,2),(4,12)],[]⟩)],[(3,⟨[.slot 2 (.v .int), .box 1 .Win [1]],[(4,12)],[]⟩)],[],[]⟩ (by kernel_rfl)
def zkv:=gA (kA 2) [.v .int, .sl .byte] [.v .Ep] (u2 II.raw) [(true,5)] [1,4] false
theorem TM:eA prog 125 zkv:=eR 20 (pc iB (pc zda pn)) func125 ⟨[],[],[],[(1,⟨[.slot 12 (.v .bool)],[(5,11)],[]⟩)],[]⟩ (by kernel_rfl)
def zkt:=gA (kA 3) [.v .int, .sl .byte, .sl .byte] [.v .Chan] (u3 sL.raw) [(true,15)] [1,3,6,8,11,14] false
theorem DV:eA prog 123 zkt:=eR 28 (pc iB (pc TM pn)) func123 ⟨[],[],[],[(1,⟨[.slot 19 (.v .bool)],[(7,18)],[]⟩)],[]⟩ (by kernel_rfl)
def zkU:=gA (kA 1) [.v .Addr] [.v .Paths] (fun x=>JO.raw x) [(true,3)] [2] false
theorem zc2:eA prog 150 zkU:=eR 5 pn func150 a0 (by kernel_rfl)
def zmA:=gA (kA 4) [.sl .byte, .v .int, .v .Addr, .v .Frame] [.v .Sess] (u4 OO.raw) [(true,24)] [1,2,4,6,9,11,14,17,20] false
theorem zdn:eA prog 256 zmA:=eR 58 (pc iB (pc pE (pc DV (pc zc2 (pc qK (pc tH (pc zdv pn))))))) func256 ⟨[],[],[],[(1,⟨[.slot 31 (.v .bool)],[(9,30)],[]⟩)],[]⟩ (by kernel_rfl)
def zmv:=gA (kA 2) [.v .Tab, .v .Sess] [.v .Tab, .v .int] (u2 oL.raw) [(true,2),(false,1)] [1] false
theorem zaf:eA prog 251 zmv:=eR 48 (pc c46 (pc VM (pc JV (pc ZI (pc bJ (pc zai pn)))))) func251 ⟨[],[],[],[(2,⟨[.slot 20 (.v .bool)],[(9,19)],[]⟩),(6,⟨[.slot 38 (.v .bool)],[(28,37)],[]⟩)],[]⟩ (by kernel_rfl)
def znl:=gA (kA 3) [.sl .byte, .sl .byte, .sl .byte] [.v .Note] (u3 NJ.raw) [(true,12)] [3,4,7,8] false
theorem zap:eA prog 303 znl:=eR 17 pn func303 a0 (by kernel_rfl)
def zn1:=gA (kA 1) [.v .Chan] [.v .Chan, .v .Frame, .v .int] (fun x=>oO.raw x) [(true,15),(true,11),(false,1)] [1,8,11,14,17,18,20,21,24,25] false
theorem zdJ:eA prog 348 zn1:=eR 25 (pc EF (pc aQ (pc JG (pc uK pn)))) func348 ⟨[],[],[],[(1,⟨[.slot 12 (.v .bool)],[(5,11)],[]⟩)],[]⟩ (by kernel_rfl)
def znS:=gA (kA 1) [.v .Sess] [.v .Sess, .sl .Out, .sl .Note] (fun x=>FT.raw x) [(true,24),(false,1),(false,1)] [1,2,4,11,14,17,20,24,25] false
theorem zjA:eA prog 335 znS:=eR 53 (pc ZI (pc bJ (pc dJ (pc zdJ pn)))) func335 ⟨[],[],[],[(2,⟨[.slot 24 (.v .bool)],[(11,23)],[]⟩)],[(8,[1000007])]⟩ (by kernel_rfl)
def znL:=gA (kA 1) [.v .int] [.v .int] (fun x=>PU.raw x) [(false,1)] [] false
theorem zjv:eA prog 328 znL:=eR 8 pn func328 a0 (by kernel_rfl)
def znu:=gA (kA 2) [.v .Win, .v .int] [.v .bool] (u2 UO.raw) [(false,1)] [] false
theorem zdA:eA prog 311 znu:=eR 30 (pc iB (pc zdt (pc zdD (pc zjv pn)))) func311 ⟨[],[],[],[(1,⟨[.slot 12 (.v .bool)],[(5,11)],[]⟩),(3,⟨[.slot 4 (.v .bool)],[(13,29)],[]⟩)],[]⟩ (by kernel_rfl)
def znW:=gA (kA 3) [.sl .byte, .v .int, .v .Frame] [.sl .byte, .v .bool] (u3 RT.raw) [(false,1),(false,1)] [0] false
theorem zjE:eA prog 343 znW:=eR 42 (pc cJ (pc UM (pc zak (pc cQ (pc zar pn))))) func343 ⟨[],[],[],[(2,⟨[.slot 28 (.v .bool)],[(12,27)],[8]⟩)],[]⟩ (by kernel_rfl)
def zmD:=gA (kA 2) [.v .Win, .v .int] [.v .Win, .v .bool] (u2 TO.raw) [(true,2),(false,1)] [1] false
theorem zdo:eA prog 259 zmD:=eR 73 (pc zdz (pc zdA pn)) func259 ⟨[(4521999,⟨[.box 6 .Win [1]],[(70,71)],[]⟩)],[(0,⟨[.box 6 .Win [1]],[(7,9),(21,48)],[]⟩)],[(6,⟨[.slot 7 (.v .int), .slot 8 (.v .int), .box 6 .Win [1]],[(9,9),(21,48)],[]⟩)],[(6,⟨[.slot 27 (.v .bool)],[(21,26)],[]⟩)],[]⟩ (by kernel_rfl)
def znK:=gA (kA 3) [.v .Ep, .v .int, .v .Frame] [.v .Ep, .sl .byte, .v .int] (u3 BL.raw) [(true,5),(false,1),(false,1)] [1,4,5] false
theorem zju:eA prog 327 znK:=eR 64 (pc zab (pc zdo (pc cJ (pc zdA (pc dQ (pc zjE pn)))))) func327 ⟨[],[],[],[(2,⟨[.slot 30 (.v .bool)],[(14,29)],[]⟩)],[]⟩ (by kernel_rfl)
def znj:=gA (kA 3) [.v .Chan, .v .int, .v .Frame] [.v .Chan, .sl .byte, .v .int] (u3 rO.raw) [(true,15),(false,1),(false,1)] [1,3,6,8,11,14,15] false
theorem zdw:eA prog 301 znj:=eR 174 (pc iB (pc FF (pc TM (pc EF (pc tH (pc aJ (pc JG (pc zju pn)))))))) func301 ⟨[(5373966,⟨[.box 9 .Chan [1,3,6,8,11,14]],[(83,85)],[]⟩)],[],[],[(2,⟨[.slot 40 (.v .bool)],[(22,39)],[]⟩),(12,⟨[.slot 82 (.v .bool)],[(76,81)],[]⟩),(15,⟨[.slot 97 (.v .bool)],[(88,96)],[]⟩),(16,⟨[.slot 106 (.v .bool)],[(98,105)],[]⟩),(23,⟨[.slot 139 (.v .bool)],[(127,138)],[]⟩)],[]⟩ (by kernel_rfl)
def znk:=gA (kA 2) [.v .Chan, .v .int] [.sl .byte, .v .bool] (u2 DO.raw) [(false,1),(false,1)] [0] false
theorem zdx:eA prog 302 znk:=eR 51 (pc EF pn) func302 ⟨[],[],[],[(3,⟨[.slot 18 (.v .bool)],[(10,17)],[]⟩),(7,⟨[.slot 45 (.v .bool)],[(34,44)],[]⟩)],[]⟩ (by kernel_rfl)
def zom:=gA (kA 2) [.v .Paths, .v .Addr] [.v .Cand, .v .bool] (fun x=>lQ x.1 x.2) [(true,4),(false,1)] [2] false
theorem c55:eA prog 55 zom:=eC 33 (pc jQ (pc UP pn)) func55 ⟨[],[(0,⟨[.box 4 .Cand [2]],[(5,6),(11,31)],[]⟩)],[(4,⟨[.slot 6 (.v .int), .box 4 .Cand [2]],[(5,5),(11,31)],[]⟩)],[],[]⟩ (u2 rL.raw) (by kernel_rfl) rL.ok
def zn2:=gA (kA 4) [.v .Paths, .v .int, .v .Addr, .sl .byte] [.v .Paths, .v .bool] (u4 MS.raw) [(true,3),(false,1)] [2] false
theorem zjH:eA prog 349 zn2:=eR 71 (pc iB (pc c55 (pc FF (pc UP (pc ZP pn))))) func349 ⟨[(3801098,⟨[.box 12 .Paths [2]],[(59,69)],[]⟩)],[(0,⟨[.box 12 .Paths [2]],[(13,13),(44,69)],[]⟩)],[(6,⟨[.slot 13 (.v .int), .box 12 .Paths [2]],[(44,69)],[]⟩)],[(2,⟨[.slot 39 (.v .bool)],[(20,38)],[1000010]⟩)],[]⟩ (by kernel_rfl)
def zn7:=gA (kA 1) [.v .Chan] [.v .Chan, .v .bool] (fun x=>QT.raw x) [(true,15),(false,1)] [1,3,6,8,11,14] false
theorem zjL:eA prog 354 zn7:=eR 38 (pc TM (pc cI (pc EF (pc JG pn)))) func354 ⟨[],[],[],[(2,⟨[.slot 20 (.v .bool)],[(7,19)],[]⟩)],[]⟩ (by kernel_rfl)
def zn4:=gA (kA 3) [.v .Chan, .v .int, .sl .byte] [.v .Chan, .v .int] (u3 jT.raw) [(true,15),(false,1)] [1,3,6,8,11,14] false
theorem zjI:eA prog 350 zn4:=eR 57 (pc iB (pc FF (pc EF (pc aQ (pc JG (pc zjL pn)))))) func350 ⟨[],[],[],[(2,⟨[.slot 33 (.v .bool)],[(13,32)],[]⟩)],[]⟩ (by kernel_rfl)
def zkV:=gA (kA 4) [.v .Paths, .v .int, .v .Addr, .sl .byte] [.v .Paths, .v .bool] (u4 GO.raw) [(true,3),(false,1)] [2] false
theorem zc3:eA prog 151 zkV:=eR 77 (pc iB (pc pE (pc jQ (pc ZP (pc zde pn))))) func151 ⟨[],[(0,⟨[.box 8 .Paths [2]],[(9,9),(11,11),(41,57)],[]⟩)],[(5,⟨[.slot 11 (.v .int), .box 8 .Paths [2]],[(9,9),(41,57)],[]⟩)],[(1,⟨[.slot 35 (.v .bool)],[(12,34)],[]⟩)],[]⟩ (by kernel_rfl)
def znT:=gA (kA 5) [.v .Sess, .v .int, .v .Addr, .v .Frame, .sl .byte] [.v .Sess, .sl .Out, .sl .Note, .v .bool] (u5 GT.raw) [(true,24),(false,1),(false,1),(false,1)] [1,2,24,25] false
theorem zjB:eA prog 336 znT:=eR 241 (pc pE (pc zc3 (pc ZI (pc bJ (pc cJ (pc uK (pc dJ (pc zdw (pc zdx (pc zap (pc zdJ (pc zjH (pc zjI pn))))))))))))) func336 ⟨[(5898256,⟨[.own 15 .Out, .own 16 .Note, .box 14 .Sess [1,2]],[(22,28),(92,197)],[18]⟩),(7077906,⟨[.own 15 .Out, .own 16 .Note, .box 14 .Sess [1,2]],[(22,28),(110,197)],[]⟩),(7798804,⟨[.own 16 .Note, .box 14 .Sess [1,2,4,6,9,11,14,17]],[(120,134)],[1000022]⟩),(8847383,⟨[.own 15 .Out, .own 16 .Note, .box 14 .Sess [1,2,20]],[(24,28),(137,197)],[]⟩),(9633817,⟨[.own 15 .Out, .own 16 .Note, .box 14 .Sess [1,2,20]],[(26,28),(148,197)],[1000024]⟩),(10158106,⟨[.own 16 .Note],[(156,171)],[]⟩),(11862046,⟨[.own 15 .Out, .own 16 .Note, .box 14 .Sess [1,2,20]],[(182,197)],[1000027,1000026]⟩)],[],[],[(4,⟨[.slot 49 (.v .bool)],[(38,48)],[]⟩),(34,⟨[.slot 220 (.v .bool)],[(215,219)],[]⟩)],[]⟩ (by kernel_rfl)
def zn5:=gA (kA 1) [.v .Frame] [.v .int] (fun x=>JT.raw x) [(false,1)] [] false
theorem zjJ:eA prog 351 zn5:=eR 6 (pc zaq pn) func351 a0 (by kernel_rfl)
def zkS:=gA (kA 3) [.sl .Credit, .v .Addr, .v .int] [.sl .Credit, .v .bool] (u3 PO.raw) [(false,1),(false,1)] [0] false
theorem zc1:eA prog 148 zkS:=eR 44 (pc iB (pc gQ (pc c59 (pc zdd pn)))) func148 ⟨[],[],[],[(3,⟨[.slot 30 (.v .bool)],[(16,29)],[]⟩)],[]⟩ (by kernel_rfl)
def znU:=gA [.ptr [], .plain] [.cells .Server, .sl .Out] [.sl .Out, .cells .Server] (u2 vU.raw) [(false,1)] [0] false
theorem zjC:eA prog 337 znU:=eR 60 (pc zc1 (pc zdI (pc zjJ pn))) func337 ⟨[(1703943,⟨[.box 0 .Server []],[(7,8),(27,51)],[]⟩)],[(0,⟨[.own 5 .Out, .box 0 .Server []],[(6,8),(10,58)],[]⟩),(1,⟨[.own 5 .Out, .box 0 .Server []],[(7,8),(16,58)],[]⟩)],[(3,⟨[.own 5 .Out, .slot 6 (.v .int), .box 0 .Server []],[(7,8),(10,58)],[]⟩)],[],[]⟩ (by kernel_rfl)
def znA:=gA (kA 4) [.v .Server, .v .int, .v .Addr, .sl .byte] [.v .Server, .sl .Out, .sl .Note] (u4 BT.raw) [(true,7),(false,1),(false,1)] [7,8] false
theorem zjp:eA prog 317 znA:=eR 410 (pc iB (pc VM (pc pE (pc FF (pc eI (pc zc0 (pc sK (pc XP (pc YP (pc aJ (pc zaf (pc zdn (pc zam (pc zan (pc zao (pc zap (pc zdC (pc zjx (pc zdG (pc zdH (pc zjy (pc zjz (pc zjA (pc zjB (pc zjC pn))))))))))))))))))))))))) func317 ⟨[(4653068,⟨[.own 12 .Out, .own 13 .Note, .box 11 .Server [], .box 8 .Server [0,1,2,5,6]],[(9,10),(16,33),(75,404)],[1000014]⟩),(9437204,⟨[.own 12 .Out, .own 13 .Note, .box 8 .Server [0,1,2,5,6], .box 11 .Server [0,1,5,6]],[(9,10),(19,33),(148,404)],[]⟩),(12058648,⟨[.own 13 .Note, .slot 19 (.v .int), .box 8 .Server [0,1,2,5,6], .box 11 .Server [0,1,2,5,6]],[(9,10),(20,22),(185,279)],[]⟩),(19791907,⟨[.own 12 .Out, .own 13 .Note, .box 11 .Server [0,1,2,5,6]],[(24,26),(303,320)],[]⟩),(21037096,⟨[.own 12 .Out, .own 13 .Note, .box 8 .Server [0,1,2,5,6], .box 11 .Server [0,1,5,6]],[(9,10),(27,33),(325,404)],[]⟩),(23134253,⟨[.own 29 .byte],[(354,354)],[]⟩),(24903730,⟨[.own 13 .Note, .box 11 .Server [0,1,5,6]],[(381,387)],[1000028]⟩),(25624630,⟨[.own 13 .Note],[(392,404)],[]⟩)],[],[],[(4,⟨[.slot 50 (.v .bool)],[(38,49)],[]⟩),(11,⟨[.slot 92 (.v .bool)],[(75,91)],[1000011]⟩),(19,⟨[.slot 174 (.v .bool)],[(148,173)],[]⟩),(33,⟨[.slot 302 (.v .bool)],[(286,301)],[]⟩),(40,⟨[.slot 340 (.v .bool)],[(330,339)],[]⟩)],[]⟩ (by kernel_rfl)
def zmz:=gA (kA 3) [.sl .byte, .v .int, .v .Frame] [.v .Frame, .v .bool] (u3 zO.raw) [(true,11),(false,1)] [2,3,5,6,9,10] false
theorem zdm:eA prog 255 zmz:=eR 42 (pc tH (pc bQ (pc zdy pn))) func255 ⟨[],[],[],[(1,⟨[.slot 17 (.v .bool)],[(10,16)],[]⟩)],[]⟩ (by kernel_rfl)
def zmk:=gA (kA 3) [.v .Client, .v .int, .v .Frame] [.v .Client, .sl .Frame, .sl .Note] (u3 vL.raw) [(true,41),(false,1),(false,1)] [1,5,8,9,11,12,15,16,41,42] false
theorem zdh:eA prog 241 zmk:=eR 283 (pc iB (pc FF (pc fI (pc DV (pc tH (pc dI (pc aJ (pc tK (pc zdm (pc cJ (pc bQ (pc uK (pc dJ (pc zdv (pc zam (pc zan (pc zao (pc zdw (pc zdx (pc zap pn)))))))))))))))))))) func241 ⟨[(11272218,⟨[.own 11 .Note, .box 9 .Client [1,5,8,9,11,12,15,16]],[(173,197)],[1000014]⟩),(13434911,⟨[.own 11 .Note, .box 9 .Client [1,5,8,9,11,12,15,16]],[(206,223)],[]⟩),(14811170,⟨[.own 11 .Note],[(227,242)],[]⟩),(16056356,⟨[.own 10 .Frame, .own 11 .Note, .box 9 .Client [1,5,8,9,11,12,15,16]],[(19,21),(246,279)],[15]⟩),(16646182,⟨[.own 10 .Frame, .own 11 .Note, .box 9 .Client [1,5,8,9,11,12,15,16]],[(255,279)],[1000020,1000019]⟩)],[],[],[(4,⟨[.slot 38 (.v .bool)],[(26,37)],[]⟩),(6,⟨[.slot 56 (.v .bool)],[(42,55)],[]⟩),(15,⟨[.slot 131 (.v .bool)],[(123,130)],[]⟩)],[]⟩ (by kernel_rfl)
def zmW:=gA [.ptr [1,11,12,13], .plain, .plain, .plain] [.cells .World, .v .int, .v .Addr, .sl .byte] [.sl .Wire, .cells .World] (u4 BU.raw) [(false,1)] [0,2,12,13,14] false
theorem zi9:eA prog 276 zmW:=eR 95 (pc zdc (pc zdh (pc zaj (pc zjp (pc zdC pn))))) func276 a0 (by kernel_rfl)
def zlR:=gA [.ptr [1,11,12,13], .plain, .plain, .plain] [.cells .World, .v .int, .v .Addr, .sl .byte] [.cells .World] (u4 NI.raw) [] [1,11,12,13] false
theorem ziJ:eA prog 212 zlR:=eR 18 (pc zaa (pc zi9 pn)) func212 a0 (by kernel_rfl)
def zmX:=gA (kA 1) [.v .Op] [.v .bool] (fun x=>LT.raw x) [(false,1)] [] false
theorem zja:eA prog 277 zmX:=eR 22 (pc iB pn) func277 ⟨[],[],[],[(1,⟨[.slot 2 (.v .bool)],[(3,21)],[]⟩)],[]⟩ (by kernel_rfl)
def zmY:=gA (kA 3) [.sl .byte, .v .int, .v .int] [.sl .byte, .v .bool] (fun x=>pQ x.1 x.2.1 x.2.2) [(false,1),(false,1)] [0] false
theorem zjb:eA prog 278 zmY:=eC 37 pn func278 ⟨[],[],[],[(1,⟨[.slot 27 (.v .bool)],[(8,26)],[]⟩)],[]⟩ (u3 zL.raw) (by kernel_rfl) zL.ok
def zlS:=gA (kA 3) [.sl .Op, .sl .Wire, .sl .bs] [.sl .byte, .v .bool] (u3 TS.raw) [(false,1),(false,1)] [0] false
theorem ziK:eA prog 213 zlS:=eR 235 (pc vK (pc cI (pc zdp (pc zja (pc zjb (pc UM (pc zak pn))))))) func213 ⟨[(3407887,⟨[.own 12 .byte],[(6,7),(13,15),(54,211)],[]⟩),(3801105,⟨[.own 12 .byte],[(6,7),(13,15),(60,211)],[]⟩),(4849685,⟨[.own 12 .byte],[(6,7),(13,15),(76,211)],[]⟩),(5832729,⟨[.own 12 .byte],[(6,7),(13,15),(91,211)],[]⟩),(7012382,⟨[.own 12 .byte],[(6,7),(15,15),(109,211)],[]⟩),(7929888,⟨[.own 12 .byte],[(6,7),(15,15),(123,211)],[]⟩),(10747943,⟨[.own 12 .byte],[(166,211)],[]⟩),(11534377,⟨[.own 12 .byte],[(178,211)],[]⟩),(12320811,⟨[.own 12 .byte],[(190,211)],[]⟩),(12779565,⟨[.own 12 .byte],[(197,211)],[]⟩)],[(0,⟨[.own 8 .bs],[(6,7),(9,15),(21,225)],[]⟩),(3,⟨[.own 12 .byte],[(15,15),(136,163)],[]⟩)],[(5,⟨[.own 8 .bs, .slot 9 (.v .int)],[(6,7),(10,15),(21,225)],[]⟩),(34,⟨[.own 12 .byte, .slot 15 (.v .int)],[(136,163)],[]⟩)],[(8,⟨[.slot 41 (.v .bool)],[(31,40)],[]⟩),(45,⟨[.slot 218 (.v .bool)],[(212,217)],[]⟩)],[]⟩ (by kernel_rfl)
def zlT:=gA (kA 1) [.v .Server] [.v .Server, .sl .Note] (fun x=>OS.raw x) [(true,7),(false,1)] [0,1,2,5,6,7] false
theorem ziL:eA prog 214 zlT:=eR 48 (pc eI (pc sK (pc XP (pc YP (pc zag (pc zal pn)))))) func214 ⟨[],[],[],[(2,⟨[.slot 17 (.v .bool)],[(9,16)],[]⟩)],[]⟩ (by kernel_rfl)
def zlU:=gA (kA 1) [.v .Client] [.v .Client, .sl .Note] (fun x=>gT.raw x) [(true,41),(false,1)] [1,5,8,9,11,12,15,16,18,20,23,25,28,31,41] false
theorem ziM:eA prog 215 zlU:=eR 27 (pc c85 (pc fI (pc dI pn))) func215 a0 (by kernel_rfl)
def zlV:=gA (kA 2) [.v .Server, .v .int] [.v .Server, .sl .Note, .v .int] (u2 AT.raw) [(true,7),(false,1),(false,1)] [0,1,2,5,6,7] false
theorem ziN:eA prog 216 zlV:=eR 55 (pc iB (pc eI (pc rK (pc sK (pc zds pn))))) func216 ⟨[],[],[],[(4,⟨[.slot 31 (.v .bool)],[(15,30)],[]⟩)],[]⟩ (by kernel_rfl)
def zm4:=gA (kA 1) [.v .Chan] [.sl .bs] (fun x=>oT.raw x) [(false,1)] [0] false
theorem zjc:eA prog 283 zm4:=eR 39 (pc EF pn) func283 ⟨[(655366,⟨[.own 3 .bs],[(11,18)],[]⟩),(1966089,⟨[.own 3 .bs],[(31,37)],[]⟩)],[],[],[],[]⟩ (by kernel_rfl)
def zlW:=gA [.ptr [1,11,12,13], .plain] [.cells .World, .v .Chan] [.v .bool, .cells .World] (u2 qP.raw) [(false,1)] [2,12,13,14] false
theorem ziO:eA prog 217 zlW:=eR 40 (pc zjc pn) func217 a0 (by kernel_rfl)
def zlX:=gA (kA 2) [.v .Dice, .v .int] [.v .Dice] (u2 WO.raw) [(true,2)] [0] false
theorem ziP:eA prog 218 zlX:=eR 17 (pc iB (pc iQ (pc WP pn))) func218 ⟨[(851972,⟨[.box 5 .Dice [0]],[(14,15)],[]⟩)],[],[],[(2,⟨[.slot 13 (.v .bool)],[(8,12)],[]⟩)],[]⟩ (by kernel_rfl)
def zkQ:=gA [.ptr [1,11,12,13], .plain] [.cells .World, .v .Event] [.v .bool, .cells .World] (u2 GU.raw) [(false,1)] [2,12,13,14] false
theorem zia:eA prog 146 zkQ:=eR 519 (pc iF (pc c45 (pc XP (pc zdb (pc YP (pc ziD (pc ziE (pc ziF (pc zaa (pc zdc (pc ziG (pc ziH (pc ziI (pc ziJ (pc ziK (pc ziL (pc ziM (pc ziN (pc ziO (pc ziP pn)))))))))))))))))))) func146 ⟨[(3276805,⟨[.box 6 .Wire []],[(4,4),(51,70)],[]⟩),(4784138,⟨[.box 0 .World [1,11,12,13]],[(4,4),(7,38),(75,518)],[]⟩),(8126482,⟨[.box 0 .World [1,11,12,13]],[(4,4),(13,38),(126,518)],[]⟩),(10027031,⟨[.box 0 .World [1,11,12,13]],[(4,4),(17,38),(155,518)],[]⟩),(12058653,⟨[.box 0 .World [1,11,12,13]],[(4,4),(21,38),(186,518)],[]⟩),(12910626,⟨[.box 0 .World [1,11,12,13]],[(4,4),(22,38),(199,518)],[]⟩),(14286884,⟨[.box 0 .World [1,11,12,13]],[(4,4),(22,38),(220,518)],[]⟩),(16056361,⟨[.box 0 .World [1,11,12,13]],[(4,4),(26,38),(247,518)],[]⟩),(17170478,⟨[.box 0 .World [1,11,12,13]],[(4,4),(27,38),(264,518)],[]⟩),(17825840,⟨[.box 0 .World [1,11,12,13]],[(4,4),(27,38),(274,518)],[]⟩),(18546738,⟨[.box 0 .World [1,11,12,13]],[(4,4),(27,38),(285,518)],[]⟩),(21430330,⟨[.box 0 .World [1,11,12,13]],[(4,4),(30,38),(329,518)],[]⟩),(23265343,⟨[.box 0 .World [1,11,12,13]],[(4,4),(32,38),(357,518)],[]⟩),(24641605,⟨[.box 0 .World [1,11,12,13]],[(4,4),(34,38),(378,518)],[]⟩),(26476618,⟨[.box 0 .World [1,11,12,13]],[(4,4),(36,38),(406,518)],[]⟩),(32178260,⟨[.box 0 .World [1,11,12,13]],[(493,518)],[]⟩),(32505941,⟨[.box 0 .World [1,11,12,13]],[(497,518)],[]⟩)],[],[],[(3,⟨[.slot 50 (.v .bool)],[(43,49)],[]⟩),(50,⟨[.slot 298 (.v .bool)],[(291,297)],[]⟩),(79,⟨[.slot 4 (.v .bool), .box 0 .World [1,11,12,13]],[(429,449)],[]⟩),(81,⟨[.slot 4 (.v .bool), .box 0 .World [1,11,12,13]],[(452,490)],[]⟩)],[]⟩ (by kernel_rfl)
def zlf:=gA [.ptr [], .plain, .plain] [.cells .Cur, .v .int, .v .bool] [.v .World, .sl .Event, .v .World, .cells .Cur] (u3 HU.raw) [(true,14),(false,1),(true,14)] [1,2,7,8,11,12,13,14,16,26,27,28] false
theorem zik:eA prog 175 zlf:=eR 55 (pc AB (pc zh6 (pc zh7 (pc zh8 (pc zh9 (pc zia pn)))))) func175 ⟨[(3276813,⟨[.box 10 .World [1,11,12,13], .drop 15],[(51,51)],[]⟩)],[(0,⟨[.own 11 .Event, .box 0 .Cur [], .box 12 .int [], .box 10 .World [1,11,12,13]],[(13,15),(25,51)],[]⟩)],[(6,⟨[.own 11 .Event, .slot 13 (.v .int), .box 0 .Cur [], .box 12 .int [], .box 10 .World [1,11,12,13]],[(14,15),(25,51)],[]⟩)],[(11,⟨[.slot 50 (.v .bool), .box 15 .World [1,11,12,13]],[(39,49)],[]⟩)],[]⟩ (by kernel_rfl)
def zkj:=gA [.ptr [], .plain] [.cells .Cur, .v .int] [.v .World, .cells .Cur] (u2 rP.raw) [(true,14)] [1,11,12,13] false
theorem zcW:eA prog 113 zkj:=eR 19 (pc cE (pc zik pn)) func113 a0 (by kernel_rfl)
def zkm:=gA [.ptr []] [.cells .Cur] [.sl .byte, .cells .Cur] (fun x=>PJ.raw x) [(false,1)] [0] false
theorem zcY:eA prog 116 zkm:=eR 19 (pc AB pn) func116 ⟨[],[(0,⟨[.own 3 .byte],[(5,5),(10,17)],[]⟩)],[(4,⟨[.own 3 .byte, .slot 5 (.v .int)],[(10,17)],[]⟩)],[],[]⟩ (by kernel_rfl)
def zmC:=gA [.ptr []] [.cells .Cur] [.sl .byte, .cells .Cur] (fun x=>fU.raw x) [(false,1)] [0] false
theorem zi2:eA prog 258 zmC:=eR 19 (pc AB pn) func258 ⟨[],[(0,⟨[.own 3 .byte],[(5,5),(10,17)],[]⟩)],[(4,⟨[.own 3 .byte, .slot 5 (.v .int)],[(10,17)],[]⟩)],[],[]⟩ (by kernel_rfl)
def zls:=gA [.ptr []] [.cells .Cur] [.v .Note, .cells .Cur] (fun x=>eU.raw x) [(true,12)] [3,4,7,8] false
theorem ziu:eA prog 188 zls:=eR 36 (pc iF (pc AB (pc zcY (pc zi2 pn)))) func188 a0 (by kernel_rfl)
def zkW:=gA [.ptr []] [.cells .Cur] [.v .Addr, .cells .Cur] (fun x=>LU.raw x) [(true,2)] [] false
theorem zib:eA prog 152 zkW:=eR 17 (pc iF (pc AB (pc cE (pc c87 pn)))) func152 a0 (by kernel_rfl)
def zkX:=gA [.ptr []] [.cells .Cur] [.v .int, .cells .Cur] (fun x=>mU.raw x) [(false,1)] [] false
theorem zic:eA prog 153 zkX:=eR 6 (pc qC pn) func153 a0 (by kernel_rfl)
def zoK:=gA [.ptr []] [.cells .Cur] [.v .Addr, .cells .Cur] (fun x=>jH.raw x) [(true,2)] [] false
theorem XM:eA prog 88 zoK:=eR 20 (pc AB (pc qC (pc zib (pc zic pn)))) func88 ⟨[(524293,⟨[.box 0 .Cur [], .box 3 .Addr []],[(10,18)],[]⟩),(851975,⟨[.box 0 .Cur [], .box 3 .Addr []],[(15,18)],[]⟩)],[],[],[],[]⟩ (by kernel_rfl)
def zks:=gA [.ptr []] [.cells .Cur] [.v .Note, .cells .Cur] (fun x=>gP.raw x) [(true,12)] [3,4,7,8] false
theorem zcZ:eA prog 122 zks:=eR 82 (pc AB (pc qC (pc XM (pc wC (pc ziu pn))))) func122 ⟨[(524293,⟨[.box 0 .Cur [], .box 3 .Note [3,4,7,8]],[(10,80)],[]⟩),(917511,⟨[.box 0 .Cur [], .box 3 .Note [3,4,7,8]],[(16,80)],[]⟩),(1310729,⟨[.box 0 .Cur [], .box 3 .Note [3,4,7,8]],[(22,80)],[]⟩),(1703947,⟨[.box 0 .Cur [], .box 3 .Note [3,4,7,8]],[(28,80)],[]⟩),(2228237,⟨[.box 0 .Cur [], .box 3 .Note [3,4,7,8]],[(36,80)],[]⟩),(2752527,⟨[.box 0 .Cur [], .box 3 .Note [3,4,7,8]],[(44,80)],[]⟩),(3145745,⟨[.box 0 .Cur [], .box 3 .Note [3,4,7,8]],[(50,80)],[]⟩),(3538963,⟨[.box 0 .Cur [], .box 3 .Note [3,4,7,8]],[(56,80)],[]⟩),(4063253,⟨[.box 0 .Cur [], .box 3 .Note [3,4,7,8]],[(64,80)],[]⟩),(4587543,⟨[.box 0 .Cur [], .box 3 .Note [3,4,7,8]],[(72,80)],[]⟩),(4915225,⟨[.box 0 .Cur [], .box 3 .Note [3,4,7,8]],[(77,80)],[]⟩)],[],[],[],[]⟩ (by kernel_rfl)
def zkk:=gA [.ptr [], .plain] [.cells .Cur, .v .int] [.sl .Note, .cells .Cur] (u2 gU.raw) [(false,1)] [0] false
theorem zhO:eA prog 114 zkk:=eR 22 (pc AB (pc zcZ pn)) func114 ⟨[],[(0,⟨[.own 5 .Note, .box 0 .Cur []],[(6,6),(12,20)],[]⟩)],[(3,⟨[.own 5 .Note, .slot 6 (.v .int), .box 0 .Cur []],[(12,20)],[]⟩)],[],[]⟩ (by kernel_rfl)
def zov:=gA [.ptr [], .plain] [.cells .Cur, .v .int] [.sl .Note, .cells .Cur] (u2 sP.raw) [(false,1)] [0] false
theorem c66:eA prog 66 zov:=eR 193 (pc iF (pc AB (pc cE (pc zcV (pc zcW (pc zhO (pc zcX (pc zcY pn)))))))) func66 ⟨[(1376262,⟨[.own 5 .Note, .box 0 .Cur []],[(6,6),(22,34)],[]⟩),(1835016,⟨[.slot 6 (.v .int)],[],[]⟩),(3473424,⟨[.own 5 .Note, .box 0 .Cur []],[(9,9),(55,191)],[]⟩),(4128786,⟨[.own 5 .Note, .box 0 .Cur []],[(9,9),(65,191)],[]⟩),(4915220,⟨[.own 5 .Note, .box 0 .Cur []],[(9,9),(77,191)],[]⟩),(5701654,⟨[.own 5 .Note, .box 0 .Cur []],[(9,9),(89,191)],[]⟩),(6488088,⟨[.box 0 .Cur [], .own 5 .Note],[(9,9),(101,191)],[]⟩),(7012378,⟨[.own 5 .Note, .box 0 .Cur []],[(9,9),(109,191)],[]⟩),(7798812,⟨[.own 5 .Note, .box 0 .Cur []],[(9,9),(121,191)],[]⟩),(8585246,⟨[.own 5 .Note, .box 0 .Cur []],[(9,9),(133,191)],[]⟩),(9371680,⟨[.box 0 .Cur [], .own 5 .Note],[(9,9),(145,191)],[]⟩),(9961506,⟨[.box 0 .Cur [], .own 5 .Note],[(9,9),(154,191)],[]⟩),(10551332,⟨[.own 5 .Note],[(9,9),(163,191)],[]⟩),(11337766,⟨[.own 5 .Note],[(9,9),(175,191)],[]⟩)],[],[],[(9,⟨[.slot 41 (.v .bool), .box 0 .Cur []],[(35,40)],[]⟩)],[(17,[5])]⟩ (by kernel_rfl)
def zl7:=gA (kA 1) [.sl .byte] [.sl .Note, .v .int] (fun x=>XS.raw x) [(false,1),(false,1)] [0] false
theorem c23:eA prog 23 zl7:=eR 65 (pc fQ (pc AB (pc c66 (pc cE pn)))) func23 ⟨[],[(0,⟨[.slot 6 (.v .int), .box 4 .Cur []],[(2,3),(7,7),(26,62)],[]⟩)],[(7,⟨[.slot 6 (.v .int), .slot 7 (.v .int), .box 4 .Cur []],[(2,3),(26,62)],[]⟩)],[(7,⟨[.slot 32 (.v .bool)],[(26,31)],[]⟩),(10,⟨[.slot 60 (.v .bool)],[(39,59)],[]⟩)],[]⟩ (by kernel_rfl)
def zmi:=gA (kA 1) [.sl .byte] [.sl .Note] (fun x=>YS.raw x) [(false,1)] [0] false
theorem c24:eA prog 24 zmi:=eR 8 (pc fQ (pc c66 pn)) func24 a0 (by kernel_rfl)
def zdQ:=gA (kA 3) [.v .int, .v .int, .v .int] [.v .bool] (fun x=>some (iA x.1 x.2.1 x.2.2)) [(false,1)] [] false
theorem WC:eA prog 38 zdQ:=eD 15 pn func38 ⟨[],[],[],[(1,⟨[.slot 6 (.v .bool)],[(7,14)],[]⟩)],[]⟩ (u3 XR.raw) (by kernel_rfl) XR.ok
def zkh:=gA (kA 2) [.sl .byte, .v .int] [.v .bool] (fun x=>some (NE x.1 x.2)) [(false,1)] [] false
theorem zhN:eA prog 111 zkh:=eD 14 pn func111 ⟨[],[],[],[(1,⟨[.slot 4 (.v .bool)],[(5,13)],[]⟩)],[]⟩ (u2 uN.raw) (by kernel_rfl) uN.ok
def zoj:=gA (kA 1) [.v .Addr] [.v .bool] (fun x=>some (oB x)) [(false,1)] [] false
theorem WM:eA prog 50 zoj:=eD 11 (pc WC pn) func50 ⟨[],[],[],[(1,⟨[.slot 2 (.v .bool)],[(3,10)],[]⟩)],[]⟩ (fun x=>tR.raw x) (by kernel_rfl) tR.ok
def zaw:=gA (kA 1) [.v .Note] [.v .bool] (fun x=>some (AA x)) [(false,1)] [] false
theorem BD:eA prog 65 zaw:=eD 57 (pc WC (pc WM (pc zhN pn))) func65 ⟨[],[],[],[(1,⟨[.slot 2 (.v .bool)],[(3,56)],[]⟩)],[]⟩ (fun x=>NK.raw x) (by kernel_rfl) NK.ok
def zdR:=gA (kA 2) [.sl .byte, .sl .byte] [.v .bool] (fun x=>eB x.1 x.2) [(false,1)] [] false
theorem RC:eA prog 60 zdR:=eC 10 pn func60 a0 (u2 TP.raw) (by kernel_rfl) TP.ok
def zdS:=gA (kA 2) [.sl .Note, .sl .byte] [.v .bool] (fun x=>HI x.1 x.2) [(false,1)] [] false
theorem c71:eA prog 71 zdS:=eC 23 (pc RC pn) func71 ⟨[],[(0,⟨[],[(4,4),(6,6),(9,22)],[]⟩)],[(2,⟨[.slot 9 (.v .int)],[(4,4),(6,6),(10,22)],[]⟩)],[(4,⟨[.slot 21 (.v .bool)],[(13,20)],[]⟩)],[]⟩ (u2 RK.raw) (by kernel_rfl) RK.ok
def zkx:=gA (kA 2) [.v .Note, .pt .Note] [.v .bool] (fun x=>RB lC x.1 x.2) [(false,1)] [] false
theorem zhT:eA prog 127 zkx:=eC 14 (pc RC pn) func127 ⟨[],[],[],[(1,⟨[.slot 3 (.v .bool)],[(4,13)],[]⟩)],[]⟩ (u2 EN.raw) (by kernel_rfl) EN.ok
def zky:=gA (kA 2) [.v .Note, .pt .Note] [.v .bool] (fun x=>RB OF x.1 x.2) [(false,1)] [] false
theorem zhU:eA prog 128 zky:=eC 21 (pc RC pn) func128 ⟨[],[],[],[(1,⟨[.slot 3 (.v .bool)],[(4,20)],[]⟩)],[]⟩ (u2 FN.raw) (by kernel_rfl) FN.ok
def zkz:=gA (kA 2) [.v .Note, .pt .Note] [.v .bool] (fun x=>RB VD x.1 x.2) [(false,1)] [] false
theorem zhV:eA prog 129 zkz:=eC 28 (pc RC pn) func129 ⟨[],[],[],[(1,⟨[.slot 3 (.v .bool)],[(4,27)],[]⟩)],[]⟩ (u2 GN.raw) (by kernel_rfl) GN.ok
def zkA:=gA (kA 2) [.v .Note, .pt .Note] [.v .bool] (fun x=>RB jE x.1 x.2) [(false,1)] [] false
theorem zhW:eA prog 130 zkA:=eC 14 (pc RC pn) func130 ⟨[],[],[],[(1,⟨[.slot 3 (.v .bool)],[(4,13)],[]⟩)],[]⟩ (u2 HN.raw) (by kernel_rfl) HN.ok
def zdU:=gA (kA 2) [.sl .Note, .c1 127 .Note] [.v .int] (fun x=>kC lC x.1 x.2) [(false,1)] [] false
theorem zjM:eA prog 73 zdU:=eC 25 (pc BD (pc zhT pn)) func73 ⟨[(1310727,⟨[.slot 5 (.v .int)],[(21,22)],[]⟩)],[(0,⟨[.slot 5 (.v .int)],[(7,7),(10,23)],[]⟩)],[(3,⟨[.slot 5 (.v .int), .slot 10 (.v .int)],[(7,7),(11,23)],[]⟩)],[(5,⟨[.slot 20 (.v .bool)],[(14,19)],[]⟩)],[]⟩ (u2 LR.raw) (by kernel_rfl) LR.ok
def zdV:=gA (kA 2) [.sl .Note, .c1 128 .Note] [.v .int] (fun x=>kC OF x.1 x.2) [(false,1)] [] false
theorem zjN:eA prog 73 zdV:=eC 25 (pc BD (pc zhU pn)) func73 ⟨[(1310727,⟨[.slot 5 (.v .int)],[(21,22)],[]⟩)],[(0,⟨[.slot 5 (.v .int)],[(7,7),(10,23)],[]⟩)],[(3,⟨[.slot 5 (.v .int), .slot 10 (.v .int)],[(7,7),(11,23)],[]⟩)],[(5,⟨[.slot 20 (.v .bool)],[(14,19)],[]⟩)],[]⟩ (u2 MR.raw) (by kernel_rfl) MR.ok
def zdW:=gA (kA 2) [.sl .Note, .c1 129 .Note] [.v .int] (fun x=>kC VD x.1 x.2) [(false,1)] [] false
theorem zjO:eA prog 73 zdW:=eC 25 (pc BD (pc zhV pn)) func73 ⟨[(1310727,⟨[.slot 5 (.v .int)],[(21,22)],[]⟩)],[(0,⟨[.slot 5 (.v .int)],[(7,7),(10,23)],[]⟩)],[(3,⟨[.slot 5 (.v .int), .slot 10 (.v .int)],[(7,7),(11,23)],[]⟩)],[(5,⟨[.slot 20 (.v .bool)],[(14,19)],[]⟩)],[]⟩ (u2 NR.raw) (by kernel_rfl) NR.ok
def zdX:=gA (kA 2) [.sl .Note, .c1 130 .Note] [.v .int] (fun x=>kC jE x.1 x.2) [(false,1)] [] false
theorem zjP:eA prog 73 zdX:=eC 25 (pc BD (pc zhW pn)) func73 ⟨[(1310727,⟨[.slot 5 (.v .int)],[(21,22)],[]⟩)],[(0,⟨[.slot 5 (.v .int)],[(7,7),(10,23)],[]⟩)],[(3,⟨[.slot 5 (.v .int), .slot 10 (.v .int)],[(7,7),(11,23)],[]⟩)],[(5,⟨[.slot 20 (.v .bool)],[(14,19)],[]⟩)],[]⟩ (u2 OR.raw) (by kernel_rfl) OR.ok
def zhl:An:=⟨[],[],[],[(5,⟨[.slot 4 (.v .bool)],[(21,34)],[]⟩)],[]⟩
def zdT:NB:=gA (kA 2) [.sl .Note, .v .Note] [.v .bool] (fun x=>lF FJ x.1 x.2) [(false,1)] [] false
theorem c72:eA Tryz.prog 72 zdT:=yK 35 (l:=[(134217801,zdU),(135266377,zdV),(136314953,zdW),(137363529,zdX)]) WJ XJ (IC zjM (IC zjN (IC zjO (IC zjP kL)))) Tryz.func72 zhl (fun x=>DN.raw x.1 x.2) (by kernel_rfl) (fun x=>by kernel_rfl) fun x r hb h=>DN.ok hb h
def zoA:=gA (kA 2) [.v .Note, .pt .Note] [.v .bool] (fun x=>RB PF x.1 x.2) [(false,1)] [] false
theorem c74:eA prog 74 zoA:=eC 35 (pc RC pn) func74 ⟨[],[],[],[(1,⟨[.slot 3 (.v .bool)],[(4,34)],[]⟩)],[]⟩ (u2 pN.raw) (by kernel_rfl) pN.ok
def zoB:=gA (kA 2) [.v .Note, .pt .Note] [.v .bool] (fun x=>RB QF x.1 x.2) [(false,1)] [] false
theorem c75:eA prog 75 zoB:=eC 14 (pc RC pn) func75 ⟨[],[],[],[(1,⟨[.slot 3 (.v .bool)],[(4,13)],[]⟩)],[]⟩ (u2 qN.raw) (by kernel_rfl) qN.ok
def zkB:=gA (kA 2) [.v .Note, .pt .Note] [.v .bool] (fun x=>RB YG x.1 x.2) [(false,1)] [] false
theorem FV:eA prog 131 zkB:=eC 16 (pc RC pn) func131 ⟨[],[],[],[(1,⟨[.slot 3 (.v .bool)],[(4,15)],[]⟩)],[]⟩ (u2 wN.raw) (by kernel_rfl) wN.ok
def zkC:=gA (kA 3) [.v .Note, .p1 131 .Note, .pt .Note] [.v .bool] (fun x=>OD sF x.1 x.2.1 x.2.2) [(false,1)] [] false
theorem zhX:eA prog 132 zkC:=eC 34 (pc RC (pc FV pn)) func132 ⟨[],[],[],[(1,⟨[.slot 4 (.v .bool)],[(5,33)],[]⟩)],[]⟩ (u3 xN.raw) (by kernel_rfl) xN.ok
def zkD:=gA (kA 3) [.v .Note, .p1 131 .Note, .pt .Note] [.v .bool] (fun x=>OD pF x.1 x.2.1 x.2.2) [(false,1)] [] false
theorem zhY:eA prog 133 zkD:=eC 27 (pc FV pn) func133 ⟨[],[],[],[(1,⟨[.slot 4 (.v .bool)],[(5,26)],[]⟩)],[]⟩ (u3 yN.raw) (by kernel_rfl) yN.ok
def zkE:=gA (kA 3) [.v .Note, .p1 131 .Note, .pt .Note] [.v .bool] (fun x=>OD qF x.1 x.2.1 x.2.2) [(false,1)] [] false
theorem zhZ:eA prog 134 zkE:=eC 28 (pc FV pn) func134 ⟨[],[],[],[(1,⟨[.slot 4 (.v .bool)],[(5,27)],[]⟩)],[]⟩ (u3 zN.raw) (by kernel_rfl) zN.ok
def zdY:=gA (kA 2) [.sl .Note, .c2 132 131 .Note] [.v .int] (fun x=>gD sF x.1 x.2) [(false,1)] [] false
theorem zjQ:eA prog 73 zdY:=eC 25 (pc BD (pc zhX pn)) func73 ⟨[(1310727,⟨[.slot 5 (.v .int)],[(21,22)],[]⟩)],[(0,⟨[.slot 5 (.v .int)],[(7,7),(10,23)],[]⟩)],[(3,⟨[.slot 5 (.v .int), .slot 10 (.v .int)],[(7,7),(11,23)],[]⟩)],[(5,⟨[.slot 20 (.v .bool)],[(14,19)],[]⟩)],[]⟩ (u2 GR.raw) (by kernel_rfl) GR.ok
def zdZ:=gA (kA 2) [.sl .Note, .c2 133 131 .Note] [.v .int] (fun x=>gD pF x.1 x.2) [(false,1)] [] false
theorem zjR:eA prog 73 zdZ:=eC 25 (pc BD (pc zhY pn)) func73 ⟨[(1310727,⟨[.slot 5 (.v .int)],[(21,22)],[]⟩)],[(0,⟨[.slot 5 (.v .int)],[(7,7),(10,23)],[]⟩)],[(3,⟨[.slot 5 (.v .int), .slot 10 (.v .int)],[(7,7),(11,23)],[]⟩)],[(5,⟨[.slot 20 (.v .bool)],[(14,19)],[]⟩)],[]⟩ (u2 HR.raw) (by kernel_rfl) HR.ok
def zd0:=gA (kA 2) [.sl .Note, .c2 134 131 .Note] [.v .int] (fun x=>gD qF x.1 x.2) [(false,1)] [] false
theorem zjS:eA prog 73 zd0:=eC 25 (pc BD (pc zhZ pn)) func73 ⟨[(1310727,⟨[.slot 5 (.v .int)],[(21,22)],[]⟩)],[(0,⟨[.slot 5 (.v .int)],[(7,7),(10,23)],[]⟩)],[(3,⟨[.slot 5 (.v .int), .slot 10 (.v .int)],[(7,7),(11,23)],[]⟩)],[(5,⟨[.slot 20 (.v .bool)],[(14,19)],[]⟩)],[]⟩ (u2 IR.raw) (by kernel_rfl) IR.ok
def zhm:An:=⟨[],[],[],[(5,⟨[.slot 4 (.v .bool)],[(19,28)],[]⟩)],[]⟩
def zd9:NB:=gA (kA 2) [.sl .Note, .v .Note] [.v .bool] (fun x=>lF DK x.1 x.2) [(false,1)] [] false
theorem c76:eA Tryz.prog 76 zd9:=yK 29 (l:=[(139460681,zdY),(140509257,zdZ),(141557833,zd0)]) WJ XJ (IC zjQ (IC zjR (IC zjS kL))) Tryz.func76 zhm (fun x=>vN.raw x.1 x.2) (by kernel_rfl) (fun x=>by kernel_rfl) fun x r hb h=>vN.ok hb h
def zkF:=gA (kA 4) [.v .Note, .v .int, .v .int, .pt .Note] [.v .bool] (fun x=>wG x.1 x.2.1 x.2.2.1 x.2.2.2) [(false,1)] [] false
theorem GV:eA prog 135 zkF:=eC 30 (pc RC pn) func135 ⟨[],[],[],[(1,⟨[.slot 7 (.v .bool)],[(8,29)],[]⟩)],[]⟩ (u4 JN.raw) (by kernel_rfl) JN.ok
def zkG:=gA (kA 3) [.v .Note, .p1 135 .Note, .pt .Note] [.v .bool] (fun x=>OD YE x.1 x.2.1 x.2.2) [(false,1)] [] false
theorem zh0:eA prog 136 zkG:=eC 12 (pc GV pn) func136 a0 (u3 KN.raw) (by kernel_rfl) KN.ok
def zkH:=gA (kA 3) [.v .Note, .p1 135 .Note, .pt .Note] [.v .bool] (fun x=>OD tF x.1 x.2.1 x.2.2) [(false,1)] [] false
theorem zh1:eA prog 137 zkH:=eC 11 (pc GV pn) func137 a0 (u3 LN.raw) (by kernel_rfl) LN.ok
def zkI:=gA (kA 3) [.v .Note, .p1 135 .Note, .pt .Note] [.v .bool] (fun x=>OD uF x.1 x.2.1 x.2.2) [(false,1)] [] false
theorem zh2:eA prog 138 zkI:=eC 17 (pc RC (pc GV pn)) func138 ⟨[],[],[],[(1,⟨[.slot 4 (.v .bool)],[(5,16)],[]⟩)],[]⟩ (u3 MN.raw) (by kernel_rfl) MN.ok
def zd1:=gA (kA 2) [.sl .Note, .c2 136 135 .Note] [.v .int] (fun x=>gD YE x.1 x.2) [(false,1)] [] false
theorem zjT:eA prog 73 zd1:=eC 25 (pc BD (pc zh0 pn)) func73 ⟨[(1310727,⟨[.slot 5 (.v .int)],[(21,22)],[]⟩)],[(0,⟨[.slot 5 (.v .int)],[(7,7),(10,23)],[]⟩)],[(3,⟨[.slot 5 (.v .int), .slot 10 (.v .int)],[(7,7),(11,23)],[]⟩)],[(5,⟨[.slot 20 (.v .bool)],[(14,19)],[]⟩)],[]⟩ (u2 PR.raw) (by kernel_rfl) PR.ok
def zd2:=gA (kA 2) [.sl .Note, .c2 137 135 .Note] [.v .int] (fun x=>gD tF x.1 x.2) [(false,1)] [] false
theorem zjU:eA prog 73 zd2:=eC 25 (pc BD (pc zh1 pn)) func73 ⟨[(1310727,⟨[.slot 5 (.v .int)],[(21,22)],[]⟩)],[(0,⟨[.slot 5 (.v .int)],[(7,7),(10,23)],[]⟩)],[(3,⟨[.slot 5 (.v .int), .slot 10 (.v .int)],[(7,7),(11,23)],[]⟩)],[(5,⟨[.slot 20 (.v .bool)],[(14,19)],[]⟩)],[]⟩ (u2 QR.raw) (by kernel_rfl) QR.ok
def zd3:=gA (kA 2) [.sl .Note, .c2 138 135 .Note] [.v .int] (fun x=>gD uF x.1 x.2) [(false,1)] [] false
theorem zjV:eA prog 73 zd3:=eC 25 (pc BD (pc zh2 pn)) func73 ⟨[(1310727,⟨[.slot 5 (.v .int)],[(21,22)],[]⟩)],[(0,⟨[.slot 5 (.v .int)],[(7,7),(10,23)],[]⟩)],[(3,⟨[.slot 5 (.v .int), .slot 10 (.v .int)],[(7,7),(11,23)],[]⟩)],[(5,⟨[.slot 20 (.v .bool)],[(14,19)],[]⟩)],[]⟩ (u2 RR.raw) (by kernel_rfl) RR.ok
def zhn:An:=⟨[],[],[],[(5,⟨[.slot 4 (.v .bool)],[(19,29)],[]⟩),(7,⟨[.slot 4 (.v .bool)],[(33,38)],[]⟩)],[]⟩
def zea:NB:=gA (kA 2) [.sl .Note, .v .Note] [.v .bool] (fun x=>lF GM x.1 x.2) [(false,1)] [] false
theorem c77:eA Tryz.prog 77 zea:=yK 39 (l:=[(143654985,zd1),(144703561,zd2),(145752137,zd3)]) WJ XJ (IC zjT (IC zjU (IC zjV kL))) Tryz.func77 zhn (fun x=>IN.raw x.1 x.2) (by kernel_rfl) (fun x=>by kernel_rfl) fun x r hb h=>IN.ok hb h
def zoC:=gA (kA 2) [.v .Note, .pt .Note] [.v .bool] (fun x=>RB oF x.1 x.2) [(false,1)] [] false
theorem c78:eA prog 78 zoC:=eC 21 (pc RC pn) func78 ⟨[],[],[],[(1,⟨[.slot 3 (.v .bool)],[(4,20)],[]⟩)],[]⟩ (u2 rN.raw) (by kernel_rfl) rN.ok
def zkJ:=gA (kA 2) [.v .Note, .pt .Note] [.v .bool] (fun x=>RB KD x.1 x.2) [(false,1)] [] false
theorem zh3:eA prog 139 zkJ:=eC 21 (pc RC pn) func139 ⟨[],[],[],[(1,⟨[.slot 3 (.v .bool)],[(4,20)],[]⟩)],[]⟩ (u2 BN.raw) (by kernel_rfl) BN.ok
def zkK:=gA (kA 2) [.v .Note, .pt .Note] [.v .bool] (fun x=>RB rF x.1 x.2) [(false,1)] [] false
theorem zh4:eA prog 140 zkK:=eC 14 (pc RC pn) func140 ⟨[],[],[],[(1,⟨[.slot 3 (.v .bool)],[(4,13)],[]⟩)],[]⟩ (u2 CN.raw) (by kernel_rfl) CN.ok
def zd4:=gA (kA 2) [.sl .Note, .c1 139 .Note] [.v .int] (fun x=>kC KD x.1 x.2) [(false,1)] [] false
theorem zjW:eA prog 73 zd4:=eC 25 (pc BD (pc zh3 pn)) func73 ⟨[(1310727,⟨[.slot 5 (.v .int)],[(21,22)],[]⟩)],[(0,⟨[.slot 5 (.v .int)],[(7,7),(10,23)],[]⟩)],[(3,⟨[.slot 5 (.v .int), .slot 10 (.v .int)],[(7,7),(11,23)],[]⟩)],[(5,⟨[.slot 20 (.v .bool)],[(14,19)],[]⟩)],[]⟩ (u2 JR.raw) (by kernel_rfl) JR.ok
def zd5:=gA (kA 2) [.sl .Note, .c1 140 .Note] [.v .int] (fun x=>kC rF x.1 x.2) [(false,1)] [] false
theorem zjX:eA prog 73 zd5:=eC 25 (pc BD (pc zh4 pn)) func73 ⟨[(1310727,⟨[.slot 5 (.v .int)],[(21,22)],[]⟩)],[(0,⟨[.slot 5 (.v .int)],[(7,7),(10,23)],[]⟩)],[(3,⟨[.slot 5 (.v .int), .slot 10 (.v .int)],[(7,7),(11,23)],[]⟩)],[(5,⟨[.slot 20 (.v .bool)],[(14,19)],[]⟩)],[]⟩ (u2 KR.raw) (by kernel_rfl) KR.ok
def zho:An:=⟨[(2097160,⟨[.slot 5 (.v .int), .slot 6 (.v .int)],[(33,35)],[]⟩)],[(0,⟨[.slot 5 (.v .int), .slot 6 (.v .int)],[(7,8),(14,36)],[]⟩)],[(4,⟨[.slot 5 (.v .int), .slot 6 (.v .int), .slot 14 (.v .int)],[(7,8),(15,36)],[]⟩)],[(6,⟨[.slot 32 (.v .bool)],[(19,31)],[]⟩),(15,⟨[.slot 4 (.v .bool)],[(52,79)],[]⟩)],[]⟩
def zeb:NB:=gA (kA 2) [.sl .Note, .v .Note] [.v .bool] (fun x=>lF WG x.1 x.2) [(false,1)] [] false
theorem c79:eA Tryz.prog 79 zeb:=yK 80 (l:=[(38,zdQ),(60,zdR),(65,zaw),(146800713,zd4),(147849289,zd5)]) WJ XJ (IC WC (IC RC (IC BD (IC zjW (IC zjX kL))))) Tryz.func79 zho (fun x=>ZK.raw x.1 x.2) (by kernel_rfl) (fun x=>by kernel_rfl) fun x r hb h=>ZK.ok hb h
def zd6:=gA (kA 2) [.sl .Note, .c1 74 .Note] [.v .int] (fun x=>kC PF x.1 x.2) [(false,1)] [] false
theorem zjY:eA prog 73 zd6:=eC 25 (pc BD (pc c74 pn)) func73 ⟨[(1310727,⟨[.slot 5 (.v .int)],[(21,22)],[]⟩)],[(0,⟨[.slot 5 (.v .int)],[(7,7),(10,23)],[]⟩)],[(3,⟨[.slot 5 (.v .int), .slot 10 (.v .int)],[(7,7),(11,23)],[]⟩)],[(5,⟨[.slot 20 (.v .bool)],[(14,19)],[]⟩)],[]⟩ (u2 DR.raw) (by kernel_rfl) DR.ok
def zd7:=gA (kA 2) [.sl .Note, .c1 75 .Note] [.v .int] (fun x=>kC QF x.1 x.2) [(false,1)] [] false
theorem zjZ:eA prog 73 zd7:=eC 25 (pc BD (pc c75 pn)) func73 ⟨[(1310727,⟨[.slot 5 (.v .int)],[(21,22)],[]⟩)],[(0,⟨[.slot 5 (.v .int)],[(7,7),(10,23)],[]⟩)],[(3,⟨[.slot 5 (.v .int), .slot 10 (.v .int)],[(7,7),(11,23)],[]⟩)],[(5,⟨[.slot 20 (.v .bool)],[(14,19)],[]⟩)],[]⟩ (u2 ER.raw) (by kernel_rfl) ER.ok
def zd8:=gA (kA 2) [.sl .Note, .c1 78 .Note] [.v .int] (fun x=>kC oF x.1 x.2) [(false,1)] [] false
theorem zj0:eA prog 73 zd8:=eC 25 (pc BD (pc c78 pn)) func73 ⟨[(1310727,⟨[.slot 5 (.v .int)],[(21,22)],[]⟩)],[(0,⟨[.slot 5 (.v .int)],[(7,7),(10,23)],[]⟩)],[(3,⟨[.slot 5 (.v .int), .slot 10 (.v .int)],[(7,7),(11,23)],[]⟩)],[(5,⟨[.slot 20 (.v .bool)],[(14,19)],[]⟩)],[]⟩ (u2 FR.raw) (by kernel_rfl) FR.ok
def zhk:An:=⟨[],[],[],[(1,⟨[.slot 24 (.v .bool)],[(9,23)],[]⟩),(12,⟨[.slot 4 (.v .bool)],[(51,56)],[]⟩)],[]⟩
def zm0:NB:=gA (kA 2) [.sl .Note, .v .int] [.v .bool] (fun x=>mF x.1 x.2) [(false,1)] [] false
theorem c28:eA Tryz.prog 28 zm0:=yK 78 (l:=[(65,zaw),(71,zdS),(72,zdT),(76,zd9),(77,zea),(79,zeb),(78643273,zd6),(79691849,zd7),(82837577,zd8)]) WJ XJ (IC BD (IC c71 (IC c72 (IC c76 (IC c77 (IC c79 (IC zjY (IC zjZ (IC zj0 kL))))))))) Tryz.func28 zhk (fun x=>KK.raw x.1 x.2) (by kernel_rfl) (fun x=>by kernel_rfl) fun x r hb h=>KK.ok hb h
def zmt:=gA (kA 1) [.sl .Note] [.v .bool] (fun x=>fG x) [(false,1)] [] false
theorem c25:eA prog 25 zmt:=eC 14 (pc c28 pn) func25 ⟨[],[(0,⟨[],[(2,3),(6,13)],[]⟩)],[(2,⟨[.slot 6 (.v .int)],[(2,3),(7,13)],[]⟩)],[],[]⟩ (fun x=>xR.raw x) (by kernel_rfl) xR.ok
def zmj:=gA [.ptr []] [.cells .Cur] [.v .Frame, .cells .Cur] (fun x=>ZO.raw x) [(true,11)] [2,3,5,6,9,10] false
theorem zdg:eA prog 240 zmj:=eR 12 (pc AB (pc wC pn)) func240 a0 (by kernel_rfl)
def zlu:=gA [.ptr [], .plain] [.cells .Cur, .v .int] [.sl .int, .cells .Cur] (u2 QU.raw) [(false,1)] [0] false
theorem ziw:eA prog 190 zlu:=eR 47 (pc AB (pc cE (pc qC pn))) func190 ⟨[(1376264,⟨[.slot 6 (.v .int), .box 0 .Cur []],[(22,26)],[]⟩),(2555915,⟨[.own 5 .int, .box 0 .Cur []],[(40,45)],[]⟩)],[(0,⟨[.own 5 .int, .box 0 .Cur []],[(6,7),(16,37)],[]⟩)],[(4,⟨[.own 5 .int, .slot 6 (.v .int), .slot 7 (.v .int), .box 0 .Cur []],[(16,37)],[]⟩)],[],[]⟩ (by kernel_rfl)
def zlt:=gA (kA 1) [.sl .int] [.v .Win] (fun x=>TT.raw x) [(true,2)] [1] false
theorem ziv:eA prog 189 zlt:=eR 22 (pc zda (pc zdo pn)) func189 ⟨[],[(0,⟨[.box 3 .Win [1]],[(4,4),(6,20)],[]⟩)],[(3,⟨[.slot 4 (.v .int), .box 3 .Win [1]],[(6,20)],[]⟩)],[],[]⟩ (by kernel_rfl)
def zku:=gA [.ptr []] [.cells .Cur] [.v .Win, .cells .Cur] (fun x=>AM.raw x) [(true,2)] [1] false
theorem EV:eA prog 124 zku:=eR 6 (pc ziv (pc ziw pn)) func124 a0 (by kernel_rfl)
def zoy:=gA [.ptr [], .plain] [.cells .Cur, .v .int] [.v .Chan, .cells .Cur] (u2 OJ.raw) [(true,15)] [1,3,6,8,11,14] false
theorem hQ:eA prog 69 zoy:=eR 74 (pc cE (pc qC (pc wC (pc DV (pc EV (pc TM (pc cI pn))))))) func69 ⟨[(1179653,⟨[.box 0 .Cur [], .box 5 .Chan [1,3,6,8,11,14]],[(19,22)],[]⟩),(1572871,⟨[.box 5 .Chan [1,3,6,8,11,14], .box 0 .Cur []],[(25,55)],[]⟩),(3538957,⟨[.box 5 .Chan [1,3,6,8,11,14]],[(55,55)],[]⟩),(4390927,⟨[.box 5 .Chan [1,3,6,8,11,14]],[(68,72)],[]⟩)],[],[],[(11,⟨[.slot 54 (.v .bool)],[(48,53)],[]⟩),(13,⟨[.slot 67 (.v .bool), .box 0 .Cur []],[(56,66)],[]⟩)],[]⟩ (by kernel_rfl)
def zmo:=gA [.ptr [], .plain] [.cells .Cur, .v .int] [.v .Timer, .cells .Cur] (u2 bP.raw) [(true,4)] [] false
theorem zdi:eA prog 245 zmo:=eR 23 (pc AB (pc zad (pc tK pn))) func245 ⟨[],[(0,⟨[.box 5 .Timer []],[(6,6),(11,21)],[]⟩)],[(3,⟨[.slot 6 (.v .int), .box 5 .Timer []],[(11,21)],[]⟩)],[],[]⟩ (by kernel_rfl)
def zlg:=gA [.ptr []] [.cells .Cur] [.v .Client, .cells .Cur] (fun x=>jU.raw x) [(true,41)] [1,5,8,9,11,12,15,16] false
theorem zil:eA prog 176 zlg:=eR 137 (pc iF (pc AB (pc cE (pc hQ (pc qC (pc wC (pc HV (pc zdb (pc zad (pc zdg (pc zdh (pc tK (pc zae (pc aQ (pc zdi pn))))))))))))))) func176 ⟨[(5898260,⟨[.box 3 .Client [1,5,8,9,11,12,15,16]],[(91,93)],[]⟩),(7602201,⟨[.box 0 .Cur [], .box 3 .Client [1,5,8,9,11,12,15,16]],[(117,135)],[]⟩),(8126491,⟨[.box 0 .Cur [], .box 3 .Client [1,5,8,9,11,12,15,16,18,20,23,25,28,31]],[(125,135)],[]⟩),(8650781,⟨[.box 3 .Client [1,5,8,9,11,12,15,16,18,20,23,25,28,31]],[(133,135)],[]⟩)],[(0,⟨[.box 3 .Client [1,5,8,9,11,12,15,16]],[(7,7),(73,86)],[]⟩)],[(15,⟨[.slot 7 (.v .int), .box 3 .Client [1,5,8,9,11,12,15,16]],[(73,86)],[]⟩)],[],[]⟩ (by kernel_rfl)
def zmp:=gA [.ptr []] [.cells .Cur] [.v .Frame, .cells .Cur] (fun x=>uP.raw x) [(true,11)] [2,3,5,6,9,10] false
theorem zdj:eA prog 246 zmp:=eR 79 (pc AB (pc qC (pc wC pn))) func246 ⟨[(2293770,⟨[.slot 4 (.v .int)],[],[]⟩),(2490380,⟨[.slot 4 (.v .int)],[],[]⟩),(2818063,⟨[.box 0 .Cur [], .box 3 .Frame [2,3,5,6,9,10]],[(4,4),(11,42),(45,77)],[]⟩),(3407890,⟨[.slot 52 (.v .bool)],[(54,54)],[]⟩),(3407891,⟨[.box 0 .Cur [], .box 3 .Frame [2,3,5,6,9,10]],[(4,4),(11,42),(55,77)],[]⟩),(4587544,⟨[.box 0 .Cur [], .box 3 .Frame [2,3,5,6,9,10]],[(71,77)],[]⟩)],[],[],[(8,⟨[.slot 35 (.v .bool)],[(28,34)],[]⟩)],[]⟩ (by kernel_rfl)
def zlh:=gA [.ptr []] [.cells .Cur] [.v .Frame, .cells .Cur] (fun x=>MU.raw x) [(true,11)] [2,3,5,6,9,10] false
theorem zim:eA prog 177 zlh:=eR 87 (pc AB (pc qC (pc wC (pc zdj pn)))) func177 ⟨[(524293,⟨[.box 0 .Cur [], .box 3 .Frame [2,3,5,6,9,10]],[(10,85)],[]⟩),(917511,⟨[.box 0 .Cur [], .box 3 .Frame [2,3,5,6,9,10]],[(16,85)],[]⟩),(1310729,⟨[.box 0 .Cur [], .box 3 .Frame [2,3,5,6,9,10]],[(22,85)],[]⟩),(1835019,⟨[.box 0 .Cur [], .box 3 .Frame [2,3,5,6,9,10]],[(30,85)],[]⟩),(2359309,⟨[.box 0 .Cur [], .box 3 .Frame [2,3,5,6,9,10]],[(38,85)],[]⟩),(2752527,⟨[.box 0 .Cur [], .box 3 .Frame [2,3,5,6,9,10]],[(44,85)],[]⟩),(3276817,⟨[.box 0 .Cur [], .box 3 .Frame [2,3,5,6,9,10]],[(52,85)],[]⟩),(3801107,⟨[.box 0 .Cur [], .box 3 .Frame [2,3,5,6,9,10]],[(60,85)],[]⟩),(4194325,⟨[.box 0 .Cur [], .box 3 .Frame [2,3,5,6,9,10]],[(66,85)],[]⟩),(4587543,⟨[.box 0 .Cur [], .box 3 .Frame [2,3,5,6,9,10]],[(72,85)],[]⟩),(5111833,⟨[.box 0 .Cur [], .box 3 .Frame [2,3,5,6,9,10]],[(80,85)],[]⟩)],[],[],[],[]⟩ (by kernel_rfl)
def znn:=gA [.ptr []] [.cells .Cur] [.v .Ep, .cells .Cur] (fun x=>RU.raw x) [(true,5)] [1,4] false
theorem zjj:eA prog 305 znn:=eR 20 (pc cE (pc qC (pc wC (pc EV (pc TM pn))))) func305 ⟨[(983045,⟨[.box 0 .Cur [], .box 3 .Ep [1,4]],[(16,18)],[]⟩)],[],[],[],[]⟩ (by kernel_rfl)
def zno:=gA [.ptr []] [.cells .Cur] [.v .Win, .cells .Cur] (fun x=>NU.raw x) [(true,2)] [1] false
theorem zjk:eA prog 306 zno:=eR 33 (pc AB (pc qC (pc EV pn))) func306 ⟨[(524293,⟨[.box 0 .Cur [], .box 3 .Win [1]],[(10,31)],[]⟩),(917511,⟨[.box 0 .Cur [], .box 3 .Win [1]],[(16,31)],[]⟩),(1572873,⟨[.box 0 .Cur [], .box 3 .Win [1]],[(26,31)],[]⟩)],[],[],[],[]⟩ (by kernel_rfl)
def zmq:=gA [.ptr []] [.cells .Cur] [.v .Ep, .cells .Cur] (fun x=>vP.raw x) [(true,5)] [1,4] false
theorem ziZ:eA prog 247 zmq:=eR 34 (pc AB (pc qC (pc wC (pc zjj (pc zjk pn))))) func247 ⟨[(524293,⟨[.box 0 .Cur [], .box 3 .Ep [1,4]],[(10,32)],[]⟩),(917511,⟨[.box 0 .Cur [], .box 3 .Ep [1,4]],[(16,32)],[]⟩),(1441801,⟨[.box 0 .Cur [], .box 3 .Ep [1,4]],[(24,32)],[]⟩),(1835019,⟨[.box 0 .Cur [], .box 3 .Ep [1,4]],[(30,32)],[]⟩)],[],[],[],[]⟩ (by kernel_rfl)
def zli:=gA [.ptr []] [.cells .Cur] [.v .Chan, .cells .Cur] (fun x=>cP.raw x) [(true,15)] [1,3,6,8,11,14] false
theorem zc9:eA prog 178 zli:=eR 52 (pc AB (pc hQ (pc qC (pc wC (pc ziZ pn))))) func178 ⟨[(655365,⟨[.box 0 .Cur [], .box 3 .Chan [1,3,6,8,11,14]],[(12,50)],[]⟩),(1048583,⟨[.box 0 .Cur [], .box 3 .Chan [1,3,6,8,11,14]],[(18,50)],[]⟩),(1376265,⟨[.box 0 .Cur [], .box 3 .Chan [1,3,6,8,11,14]],[(23,50)],[]⟩),(1703947,⟨[.box 0 .Cur [], .box 3 .Chan [1,3,6,8,11,14]],[(28,50)],[]⟩),(2031629,⟨[.box 3 .Chan [1,3,6,8,11,14], .box 0 .Cur []],[(33,50)],[]⟩),(2424847,⟨[.box 0 .Cur [], .box 3 .Chan [1,3,6,8,11,14]],[(39,50)],[]⟩),(2818065,⟨[.box 0 .Cur [], .box 3 .Chan [1,3,6,8,11,14]],[(45,50)],[]⟩)],[],[],[],[]⟩ (by kernel_rfl)
def zlj:=gA [.ptr []] [.cells .Cur] [.v .Timer, .cells .Cur] (fun x=>aP.raw x) [(true,4)] [] false
theorem zin:eA prog 179 zlj:=eR 36 (pc AB (pc qC (pc zdi pn))) func179 ⟨[(720901,⟨[.box 0 .Cur [], .box 3 .Timer []],[(13,34)],[]⟩),(1114119,⟨[.box 0 .Cur [], .box 3 .Timer []],[(19,34)],[]⟩),(1507337,⟨[.box 0 .Cur [], .box 3 .Timer []],[(25,34)],[]⟩),(1900555,⟨[.box 3 .Timer []],[(31,34)],[]⟩)],[],[],[],[]⟩ (by kernel_rfl)
def zkn:=gA [.ptr []] [.cells .Cur] [.v .Client, .cells .Cur] (fun x=>iU.raw x) [(true,41)] [1,5,8,9,11,12,15,16] false
theorem zhP:eA prog 117 zkn:=eR 72 (pc AB (pc qC (pc XM (pc wC (pc zil (pc zim (pc zc9 (pc zin pn)))))))) func117 ⟨[(524293,⟨[.box 0 .Cur [], .box 3 .Client [1,5,8,9,11,12,15,16]],[(10,70)],[]⟩),(917511,⟨[.box 0 .Cur [], .box 3 .Client [1,5,8,9,11,12,15,16]],[(16,70)],[]⟩),(1441801,⟨[.box 0 .Cur [], .box 3 .Client [1,5,8,9,11,12,15,16]],[(24,70)],[]⟩),(1769483,⟨[.box 0 .Cur [], .box 3 .Client [1,5,8,9,11,12,15,16]],[(29,70)],[]⟩),(2162701,⟨[.box 0 .Cur [], .box 3 .Client [1,5,8,9,11,12,15,16]],[(35,70)],[]⟩),(2686991,⟨[.box 0 .Cur [], .box 3 .Client [1,5,8,9,11,12,15,16]],[(43,70)],[]⟩),(3014673,⟨[.box 0 .Cur [], .box 3 .Client [1,5,8,9,11,12,15,16]],[(48,70)],[]⟩),(3342355,⟨[.box 0 .Cur [], .box 3 .Client [1,5,8,9,11,12,15,16]],[(53,70)],[]⟩),(3670037,⟨[.box 0 .Cur [], .box 3 .Client [1,5,8,9,11,12,15,16]],[(58,70)],[]⟩),(3997719,⟨[.box 0 .Cur [], .box 3 .Client [1,5,8,9,11,12,15,16]],[(63,70)],[]⟩),(4390937,⟨[.box 3 .Client [1,5,8,9,11,12,15,16]],[(69,70)],[]⟩)],[],[],[],[]⟩ (by kernel_rfl)
def zms:=gA [.ptr []] [.cells .Cur] [.sl .bs, .cells .Cur] (fun x=>wU.raw x) [(false,1)] [0] false
theorem zi0:eA prog 249 zms:=eR 22 (pc AB (pc wC pn)) func249 ⟨[],[(0,⟨[.own 3 .bs, .box 0 .Cur []],[(4,4),(9,20)],[]⟩)],[(3,⟨[.own 3 .bs, .slot 4 (.v .int), .box 0 .Cur []],[(9,20)],[]⟩)],[],[]⟩ (by kernel_rfl)
def zoI:=gA [.ptr []] [.cells .Cur] [.v .Paths, .cells .Cur] (fun x=>dP.raw x) [(true,3)] [2] false
theorem c86:eA prog 86 zoI:=eR 34 (pc iF (pc AB (pc wC (pc zc2 (pc zc3 pn))))) func86 ⟨[],[(0,⟨[.box 0 .Cur [], .box 3 .Paths [2]],[(4,5),(14,32)],[]⟩)],[(4,⟨[.slot 4 (.v .int), .slot 5 (.v .int), .box 0 .Cur [], .box 3 .Paths [2]],[(14,32)],[]⟩)],[],[]⟩ (by kernel_rfl)
def zlp:=gA [.ptr []] [.cells .Cur] [.v .Sess, .cells .Cur] (fun x=>SJ.raw x) [(true,24)] [1,6,9,11,14,17,20] false
theorem VP:eA prog 185 zlp:=eR 43 (pc iF (pc AB (pc cE (pc hQ (pc qC (pc c86 (pc wC (pc zdg (pc zdm (pc zdn pn)))))))))) func185 ⟨[(1900549,⟨[.box 0 .Cur [], .box 5 .Sess [1,6,9,11,14,17,20]],[(30,36)],[]⟩),(2490376,⟨[.box 0 .Cur [], .box 5 .Sess [1,6,9,11,14,17,20]],[(39,41)],[]⟩)],[],[],[],[]⟩ (by kernel_rfl)
def zmu:=gA [.ptr []] [.cells .Cur] [.v .Tab, .cells .Cur] (fun x=>jP.raw x) [(true,2)] [1] false
theorem zdl:eA prog 250 zmu:=eR 47 (pc AB (pc cE (pc rK (pc VP (pc zaf (pc zal pn)))))) func250 ⟨[(1966088,⟨[.box 0 .Cur [], .box 3 .Tab [1]],[(5,5),(31,45)],[]⟩)],[(0,⟨[.box 0 .Cur [], .box 3 .Tab [1]],[(4,5),(12,45)],[]⟩)],[(3,⟨[.slot 4 (.v .int), .box 0 .Cur [], .box 3 .Tab [1]],[(5,5),(12,45)],[]⟩)],[(6,⟨[.slot 30 (.v .bool), .box 0 .Cur []],[(23,29)],[]⟩)],[]⟩ (by kernel_rfl)
def zoG:=gA [.ptr [], .plain] [.cells .Cur, .v .int] [.sl .Credit, .cells .Cur] (u2 fP.raw) [(false,1)] [0] false
theorem c84:eA prog 84 zoG:=eR 36 (pc iF (pc AB (pc qC (pc zc0 (pc zc1 pn))))) func84 ⟨[],[(0,⟨[.own 5 .Credit, .box 0 .Cur []],[(6,7),(13,34)],[]⟩)],[(3,⟨[.own 5 .Credit, .slot 6 (.v .int), .box 0 .Cur []],[(7,7),(13,34)],[]⟩)],[],[]⟩ (by kernel_rfl)
def zlk:=gA [.ptr []] [.cells .Cur] [.v .Server, .cells .Cur] (fun x=>uU.raw x) [(true,7)] [0,1,2,5,6] false
theorem zio:eA prog 180 zlk:=eR 54 (pc AB (pc c84 (pc wC (pc zdk (pc zi0 (pc zdl (pc zaf pn))))))) func180 ⟨[(2097160,⟨[.box 3 .Server [0,1,2,5,6]],[(33,44)],[]⟩)],[(0,⟨[.box 3 .Server [0,1,2,5,6]],[(5,5),(16,44)],[]⟩)],[(4,⟨[.slot 5 (.v .int), .box 3 .Server [0,1,2,5,6]],[(16,44)],[]⟩)],[],[]⟩ (by kernel_rfl)
def zll:=gA [.ptr [], .plain, .plain] [.cells .Cur, .sl .bs, .sl .bs] [.sl .bs, .cells .Cur] (u3 nU.raw) [(false,1)] [] false
theorem zip:eA prog 181 zll:=eR 11 (pc cE pn) func181 a0 (by kernel_rfl)
def zlm:=gA [.ptr []] [.cells .Cur] [.v .Jar, .cells .Cur] (fun x=>YT.raw x) [(true,1)] [0] false
theorem ziq:eA prog 182 zlm:=eR 16 (pc cE (pc qC (pc wC (pc zag pn)))) func182 ⟨[(524292,⟨[.box 0 .Cur [], .box 3 .Jar [0]],[(9,14)],[]⟩)],[],[],[],[]⟩ (by kernel_rfl)
def znp:=gA [.ptr []] [.cells .Cur] [.v .Paths, .cells .Cur] (fun x=>aU.raw x) [(true,3)] [2] false
theorem zjl:eA prog 307 znp:=eR 66 (pc AB (pc cE (pc qC (pc c86 (pc XM (pc wC pn)))))) func307 ⟨[(1507336,⟨[.box 0 .Cur [], .box 3 .Paths [2]],[(25,64)],[]⟩),(1835018,⟨[.box 0 .Cur [], .box 3 .Paths [2]],[(30,64)],[]⟩),(2424844,⟨[.box 0 .Cur [], .box 3 .Paths [2]],[(39,64)],[]⟩),(3014670,⟨[.box 0 .Cur [], .box 3 .Paths [2]],[(48,64)],[]⟩),(3670032,⟨[.box 3 .Paths [2]],[(58,64)],[]⟩)],[],[],[(2,⟨[.slot 14 (.v .bool), .box 0 .Cur []],[(7,13)],[]⟩)],[]⟩ (by kernel_rfl)
def zmx:=gA [.ptr []] [.cells .Cur] [.v .Sess, .cells .Cur] (fun x=>pU.raw x) [(true,24)] [1,6,9,11,14,17,20] false
theorem zi1:eA prog 253 zmx:=eR 58 (pc AB (pc qC (pc wC (pc zc9 (pc rK (pc VP (pc zjl pn))))))) func253 ⟨[(524293,⟨[.box 0 .Cur [], .box 3 .Sess [1,6,9,11,14,17,20], .box 2 .Sess [1,2,4,6,9,11,14,17,20]],[(10,56)],[]⟩),(917511,⟨[.box 0 .Cur [], .box 3 .Sess [1,6,9,11,14,17,20], .box 2 .Sess [1,2,4,6,9,11,14,17,20]],[(16,56)],[]⟩),(1245193,⟨[.box 0 .Cur [], .box 3 .Sess [1,6,9,11,14,17,20], .box 2 .Sess [1,2,4,6,9,11,14,17,20]],[(21,56)],[]⟩),(1769483,⟨[.box 0 .Cur [], .box 3 .Sess [1,6,9,11,14,17,20], .box 2 .Sess [1,2,4,6,9,11,14,17,20]],[(29,56)],[]⟩),(2097165,⟨[.box 0 .Cur [], .box 3 .Sess [1,6,9,11,14,17,20], .box 2 .Sess [1,2,4,6,9,11,14,17,20]],[(34,56)],[]⟩),(2424847,⟨[.box 0 .Cur [], .box 3 .Sess [1,6,9,11,14,17,20], .box 2 .Sess [1,2,4,6,9,11,14,17,20]],[(39,56)],[]⟩),(2818065,⟨[.box 0 .Cur [], .box 3 .Sess [1,6,9,11,14,17,20], .box 2 .Sess [1,2,4,6,9,11,14,17,20]],[(45,56)],[]⟩),(3211283,⟨[.box 3 .Sess [1,6,9,11,14,17,20], .box 2 .Sess [1,2,4,6,9,11,14,17,20]],[(51,56)],[]⟩),(3407893,⟨[.slot 52 (.v .bool)],[(54,54)],[]⟩)],[],[],[],[]⟩ (by kernel_rfl)
def zln:=gA [.ptr []] [.cells .Cur] [.v .Tab, .cells .Cur] (fun x=>sU.raw x) [(true,2)] [1] false
theorem zir:eA prog 183 zln:=eR 65 (pc AB (pc qC (pc wC (pc rK (pc VP (pc zdl (pc zi1 pn))))))) func183 ⟨[(655365,⟨[.box 0 .Cur [], .box 3 .Tab [1]],[(4,5),(12,63)],[]⟩),(1048583,⟨[.box 0 .Cur [], .box 3 .Tab [1]],[(4,5),(18,63)],[]⟩),(1638409,⟨[.box 3 .Tab [1], .box 0 .Cur []],[(4,5),(27,63)],[]⟩),(1966090,⟨[.box 3 .Tab [1]],[(31,39)],[]⟩),(2621452,⟨[.box 0 .Cur [], .box 3 .Tab [1]],[(4,5),(42,63)],[]⟩)],[(1,⟨[.box 0 .Cur [], .box 4 .Sess [], .box 3 .Tab [1]],[(5,5),(48,63)],[]⟩)],[(13,⟨[.slot 5 (.v .int), .box 0 .Cur [], .box 4 .Sess [], .box 3 .Tab [1]],[(48,63)],[]⟩)],[],[]⟩ (by kernel_rfl)
def zn9:=gA [.ptr []] [.cells .Cur] [.sl .Credit, .cells .Cur] (fun x=>cU.raw x) [(false,1)] [0] false
theorem c37:eA prog 37 zn9:=eR 60 (pc AB (pc qC (pc c84 (pc XM pn)))) func37 ⟨[(1114120,⟨[.own 3 .Credit, .box 0 .Cur []],[(19,58)],[]⟩),(1638410,⟨[.own 3 .Credit, .box 0 .Cur []],[(27,58)],[]⟩),(2228236,⟨[.own 3 .Credit, .box 0 .Cur []],[(36,58)],[]⟩),(3276814,⟨[.own 3 .Credit],[(52,58)],[]⟩)],[],[],[],[]⟩ (by kernel_rfl)
def zko:=gA [.ptr []] [.cells .Cur] [.v .Server, .cells .Cur] (fun x=>tU.raw x) [(true,7)] [1,2,5,6] false
theorem zhQ:eA prog 118 zko:=eR 61 (pc AB (pc c37 (pc qC (pc zio (pc zip (pc ziq (pc zir (pc rK (pc VP pn))))))))) func118 ⟨[(524293,⟨[.box 0 .Cur [], .box 3 .Server [1,2,5,6]],[(10,59)],[]⟩),(1179655,⟨[.box 0 .Cur [], .box 3 .Server [0,1,2,5,6]],[(20,59)],[]⟩),(1507337,⟨[.box 0 .Cur [], .box 3 .Server [0,1,2,5,6]],[(25,59)],[]⟩),(1966091,⟨[.box 0 .Cur [], .box 3 .Server [0,1,2,5,6]],[(32,59)],[]⟩),(2293773,⟨[.box 0 .Cur [], .box 3 .Server [0,1,2,5,6]],[(37,59)],[]⟩),(2621455,⟨[.box 3 .Server [0,1,2,5,6], .box 0 .Cur []],[(42,59)],[]⟩),(3145745,⟨[.box 0 .Cur [], .box 3 .Server [0,1,2,5,6]],[(50,59)],[]⟩)],[],[],[],[]⟩ (by kernel_rfl)
def zlq:=gA [.ptr []] [.cells .Cur] [.v .Dice, .cells .Cur] (fun x=>XT.raw x) [(true,2)] [0] false
theorem zis:eA prog 186 zlq:=eR 11 (pc AB (pc wC pn)) func186 a0 (by kernel_rfl)
def zkp:=gA [.ptr []] [.cells .Cur] [.v .Dice, .cells .Cur] (fun x=>WT.raw x) [(true,2)] [0] false
theorem zhR:eA prog 119 zkp:=eR 23 (pc AB (pc qC (pc wC (pc zis pn)))) func119 ⟨[(524293,⟨[.box 0 .Cur [], .box 3 .Dice [0]],[(10,21)],[]⟩),(917511,⟨[.box 0 .Cur [], .box 3 .Dice [0]],[(16,21)],[]⟩)],[],[],[],[]⟩ (by kernel_rfl)
def zlr:=gA [.ptr []] [.cells .Cur] [.v .Wire, .cells .Cur] (fun x=>yU.raw x) [(true,5)] [4] false
theorem zit:eA prog 187 zlr:=eR 26 (pc iF (pc AB (pc cE (pc qC (pc wC (pc zdj (pc zah pn))))))) func187 a0 (by kernel_rfl)
def zkq:=gA [.ptr []] [.cells .Cur] [.v .Wire, .cells .Cur] (fun x=>xU.raw x) [(true,5)] [4] false
theorem zhS:eA prog 120 zkq:=eR 24 (pc AB (pc XM (pc wC (pc zit pn)))) func120 ⟨[(524293,⟨[.box 0 .Cur [], .box 3 .Wire [4]],[(10,22)],[]⟩),(851975,⟨[.box 0 .Cur [], .box 3 .Wire [4]],[(15,22)],[]⟩),(1179657,⟨[.box 0 .Cur [], .box 3 .Wire [4]],[(20,22)],[]⟩)],[],[],[],[]⟩ (by kernel_rfl)
def zox:=gA [.ptr [], .plain] [.cells .Cur, .v .int] [.v .World, .cells .Cur] (u2 DU.raw) [(true,14)] [1,11,12,13] false
theorem c68:eA prog 68 zox:=eR 88 (pc AB (pc qC (pc zcW (pc zhP (pc zhQ (pc zhR (pc zhS (pc wC (pc zcZ pn))))))))) func68 ⟨[(720901,⟨[.box 0 .Cur [], .box 5 .World [1,11,12,13]],[(13,86)],[]⟩),(1114119,⟨[.box 0 .Cur [], .box 5 .World [1,11,12,13]],[(19,86)],[]⟩),(1703945,⟨[.box 0 .Cur [], .box 5 .World [1,11,12,13]],[(28,86)],[]⟩),(2228235,⟨[.box 0 .Cur [], .box 5 .World [1,11,12,13]],[(36,86)],[]⟩),(2555917,⟨[.box 0 .Cur [], .box 5 .World [1,11,12,13]],[(41,86)],[]⟩),(2883599,⟨[.box 0 .Cur [], .box 5 .World [1,11,12,13]],[(46,86)],[]⟩),(3473425,⟨[.box 0 .Cur [], .box 5 .World [1,11,12,13]],[(55,86)],[]⟩),(4259859,⟨[.box 0 .Cur [], .box 5 .World [1,11,12,13]],[(67,86)],[]⟩),(4849685,⟨[.box 5 .World [1,11,12,13]],[(76,86)],[]⟩),(5242903,⟨[.box 5 .World [1,11,12,13]],[(82,86)],[]⟩)],[],[],[],[]⟩ (by kernel_rfl)
def zmE:=gA (kA 1) [.sl .byte] [.v .World, .v .int] (fun x=>WS.raw x) [(true,14),(false,1)] [1,11,12,13] false
theorem c26:eA prog 26 zmE:=eR 46 (pc fQ (pc cE (pc c68 (pc hQ (pc qC pn))))) func26 ⟨[(1114117,⟨[.box 4 .Cur [], .box 5 .World [1,11,12,13]],[(18,41)],[]⟩),(1900551,⟨[.box 5 .World [1,11,12,13]],[(30,41)],[]⟩)],[],[],[(3,⟨[.slot 17 (.v .bool), .box 4 .Cur []],[(10,16)],[]⟩)],[]⟩ (by kernel_rfl)
def zmP:=gA (kA 2) [.sl .byte, .v .int] [.v .int] (u2 cS.raw) [(false,1)] [] false
theorem c27:eA prog 27 zmP:=eR 21 pn func27 a0 (by kernel_rfl)
def zkL:=gA (kA 2) [.v .int, .v .int] [.v .bool] (fun x=>some (tJ x.1 x.2)) [(false,1)] [] false
theorem zh5:eA prog 141 zkL:=eD 12 pn func141 ⟨[],[],[],[(1,⟨[.slot 4 (.v .bool)],[(5,11)],[]⟩)],[]⟩ (u2 hP.raw) (by kernel_rfl) hP.ok
def zoD:=gA (kA 1) [.v .Note] [.v .bool] (fun x=>some (AA x)) [(false,1)] [] false
theorem c80:eA prog 80 zoD:=eD 60 (pc iB (pc pE (pc zh5 pn))) func80 ⟨[],[],[],[(1,⟨[.slot 2 (.v .bool)],[(3,59)],[]⟩)],[]⟩ (fun x=>ML.raw x) (by kernel_rfl) ML.ok
def zoE:=gA (kA 2) [.sl .Note, .sl .byte] [.v .bool] (fun x=>HI x.1 x.2) [(false,1)] [] false
theorem c81:eA prog 81 zoE:=eC 27 (pc FF pn) func81 ⟨[],[(0,⟨[],[(4,26)],[]⟩)],[(2,⟨[.slot 5 (.v .int)],[(4,4),(6,26)],[]⟩)],[(4,⟨[.slot 26 (.v .bool)],[(12,25)],[]⟩)],[]⟩ (u2 ZL.raw) (by kernel_rfl) ZL.ok
def zm6:=gA (kA 2) [.sl .Note, .v .int] [.v .bool] (fun x=>mF x.1 x.2) [(false,1)] [] false
theorem c29:eA prog 29 zm6:=eC 346 (pc iB (pc c80 (pc c81 (pc FF pn)))) func29 ⟨[(4063254,⟨[.slot 6 (.v .int), .slot 7 (.v .int), .slot 8 (.v .int)],[(4,4),(64,317)],[]⟩),(4522007,⟨[.slot 6 (.v .int)],[(4,4),(70,76)],[]⟩),(6029339,⟨[.slot 7 (.v .int)],[],[]⟩),(6488095,⟨[.slot 6 (.v .int), .slot 7 (.v .int), .slot 8 (.v .int)],[(4,4),(101,317)],[]⟩),(8060961,⟨[.slot 7 (.v .int)],[],[]⟩),(8519717,⟨[.slot 6 (.v .int), .slot 7 (.v .int), .slot 8 (.v .int)],[(4,4),(132,317)],[]⟩),(10551335,⟨[.slot 7 (.v .int)],[],[]⟩),(11403305,⟨[],[(4,4),(175,199)],[]⟩),(13107246,⟨[.slot 6 (.v .int), .slot 7 (.v .int), .slot 8 (.v .int)],[(4,4),(202,317)],[]⟩),(15466547,⟨[.slot 7 (.v .int)],[],[]⟩),(16908341,⟨[.slot 7 (.v .int)],[],[]⟩),(16973879,⟨[.slot 6 (.v .int), .slot 7 (.v .int), .slot 8 (.v .int)],[(4,4),(261,317)],[]⟩),(17629241,⟨[.slot 7 (.v .int)],[],[]⟩),(17694779,⟨[.slot 6 (.v .int), .slot 7 (.v .int), .slot 8 (.v .int)],[(4,4),(272,317)],[]⟩),(18153532,⟨[.slot 6 (.v .int), .slot 8 (.v .int)],[(4,4),(278,298)],[]⟩),(20381761,⟨[.slot 7 (.v .int)],[],[]⟩),(20971590,⟨[.slot 320 (.v .bool)],[(322,325)],[]⟩),(20971591,⟨[.slot 320 (.v .bool)],[(323,325)],[]⟩),(20971592,⟨[.slot 320 (.v .bool)],[(324,325)],[]⟩),(20971593,⟨[.slot 320 (.v .bool)],[(325,325)],[]⟩)],[(0,⟨[.slot 6 (.v .int), .slot 7 (.v .int)],[(4,4),(8,13),(33,317)],[]⟩),(1,⟨[.slot 6 (.v .int), .slot 7 (.v .int), .slot 8 (.v .int)],[(4,4),(10,13),(38,317)],[]⟩)],[(12,⟨[.slot 6 (.v .int), .slot 7 (.v .int), .slot 8 (.v .int), .slot 9 (.v .int)],[(4,4),(10,13),(33,317)],[]⟩)],[(21,⟨[.slot 69 (.v .bool)],[(64,68)],[]⟩),(25,⟨[.slot 92 (.v .bool)],[(77,91)],[]⟩),(27,⟨[.slot 98 (.v .bool)],[(93,97)],[]⟩),(31,⟨[.slot 123 (.v .bool)],[(101,122)],[]⟩),(33,⟨[.slot 129 (.v .bool)],[(124,128)],[]⟩),(37,⟨[.slot 161 (.v .bool)],[(132,160)],[]⟩),(39,⟨[.slot 174 (.v .bool)],[(162,173)],[]⟩),(40,⟨[.slot 186 (.v .bool)],[(175,185)],[]⟩),(42,⟨[.slot 199 (.v .bool)],[(187,198)],[]⟩),(46,⟨[.slot 208 (.v .bool)],[(202,207)],[]⟩),(47,⟨[.slot 220 (.v .bool)],[(209,219)],[]⟩),(49,⟨[.slot 236 (.v .bool)],[(221,235)],[]⟩),(51,⟨[.slot 258 (.v .bool)],[(237,257)],[]⟩),(55,⟨[.slot 269 (.v .bool)],[(261,268)],[]⟩),(58,⟨[.slot 277 (.v .bool)],[(272,276)],[]⟩),(61,⟨[.slot 298 (.v .bool)],[(281,297)],[]⟩),(63,⟨[.slot 311 (.v .bool)],[(299,310)],[]⟩),(65,⟨[.slot 317 (.v .bool)],[(312,316)],[]⟩),(73,⟨[.slot 4 (.v .bool)],[(326,331)],[]⟩),(75,⟨[.slot 4 (.v .bool)],[(334,345)],[]⟩)],[]⟩ (u2 FL.raw) (by kernel_rfl) FL.ok
def znh:=gA (kA 1) [.sl .Note] [.v .bool] (fun x=>fG x) [(false,1)] [] false
theorem c30:eA prog 30 znh:=eC 14 (pc c29 pn) func30 ⟨[],[(0,⟨[],[(2,13)],[]⟩)],[(2,⟨[.slot 3 (.v .int)],[(2,2),(4,13)],[]⟩)],[],[]⟩ (fun x=>lT.raw x) (by kernel_rfl) lT.ok
def zj7:=gA (kA 1) [.v .Jar] [.v .bool] (fun x=>some (xE x)) [(false,1)] [] false
theorem zhI:eA prog 101 zj7:=eD 7 pn func101 a0 (fun x=>yR.raw x) (by kernel_rfl) yR.ok
def zos:=gA (kA 1) [.v .Dice] [.v .bool] (fun x=>some (tC x)) [(false,1)] [] false
theorem c62:eA prog 62 zos:=eD 12 (pc WC pn) func62 ⟨[],[],[],[(1,⟨[.slot 2 (.v .bool)],[(3,11)],[]⟩)],[]⟩ (fun x=>uR.raw x) (by kernel_rfl) uR.ok
def zoa:=gA (kA 1) [.v .Tab] [.v .int] (fun x=>VG x) [(false,1)] [] false
theorem c40:eA prog 40 zoa:=eC 20 pn func40 ⟨[(983047,⟨[.slot 3 (.v .int)],[(16,17)],[]⟩)],[(0,⟨[.slot 3 (.v .int)],[(5,5),(9,18)],[]⟩)],[(3,⟨[.slot 3 (.v .int), .slot 9 (.v .int)],[(5,5),(10,18)],[]⟩)],[],[]⟩ (fun x=>zR.raw x) (by kernel_rfl) zR.ok
def zkd:=gA (kA 1) [.sl .byte] [.v .bool] (fun x=>some (MB x)) [(false,1)] [] false
theorem pK:eA prog 107 zkd:=eD 6 pn func107 a0 (fun x=>UR.raw x) (by kernel_rfl) UR.ok
def zmd:=gA (kA 2) [.sl .int, .sl .int] [.v .bool] (fun x=>some (zS x.1 x.2)) [(false,1)] [] false
theorem ziV:eA prog 235 zmd:=eD 26 pn func235 ⟨[],[(0,⟨[],[(4,6),(14,25)],[]⟩)],[(4,⟨[.slot 14 (.v .int)],[(4,6),(15,25)],[]⟩)],[],[]⟩ (u2 WR.raw) (by kernel_rfl) WR.ok
def zla:=gA (kA 2) [.v .Ep, .v .Ep] [.v .bool] (fun x=>DJ x.1 x.2) [(false,1)] [] false
theorem zc7:eA prog 170 zla:=eC 42 (pc RC (pc ziV pn)) func170 ⟨[],[],[],[(1,⟨[.slot 4 (.v .bool)],[(5,41)],[]⟩)],[]⟩ (u2 bL.raw) (by kernel_rfl) bL.ok
def zkc:=gA (kA 1) [.v .Chan] [.v .bool] (fun x=>AJ x) [(false,1)] [] false
theorem zcU:eA prog 106 zkc:=eC 40 (pc zc7 pn) func106 ⟨[],[],[],[(1,⟨[.slot 2 (.v .bool)],[(3,39)],[]⟩)],[]⟩ (fun x=>YK.raw x) (by kernel_rfl) YK.ok
def zlc:=gA (kA 1) [.v .int] [.v .bool] (fun x=>some (ON x)) [(false,1)] [] false
theorem zii:eA prog 172 zlc:=eD 9 pn func172 ⟨[],[],[],[(1,⟨[.slot 2 (.v .bool)],[(3,8)],[]⟩)],[]⟩ (fun x=>AN.raw x) (by kernel_rfl) AN.ok
def znb:=gA (kA 2) [.sl .int, .v .int] [.v .bool] (fun x=>some (vC x.1 x.2)) [(false,1)] [] false
theorem zjg:eA prog 294 znb:=eD 21 (pc WC pn) func294 ⟨[],[(0,⟨[],[(4,4),(6,6),(9,16)],[]⟩)],[(2,⟨[.slot 9 (.v .int)],[(4,4),(6,6),(10,16)],[]⟩)],[],[]⟩ (u2 sN.raw) (by kernel_rfl) sN.ok
def znc:=gA (kA 2) [.v .Win, .v .int] [.v .bool] (fun x=>KE x.1 x.2) [(false,1)] [] false
theorem zjh:eA prog 295 znc:=eC 17 pn func295 a0 (u2 TR.raw) (by kernel_rfl) TR.ok
def zmg:=gA (kA 1) [.v .Win] [.v .bool] (fun x=>some (lE x)) [(false,1)] [] false
theorem ziY:eA prog 238 zmg:=eD 33 (pc WC (pc zjg (pc zjh pn))) func238 ⟨[],[(0,⟨[],[(2,3),(17,23)],[]⟩)],[(4,⟨[.slot 3 (.v .int)],[(2,2),(17,23)],[]⟩)],[(1,⟨[.slot 13 (.v .bool)],[(4,12)],[]⟩),(8,⟨[.slot 2 (.v .bool)],[(24,32)],[]⟩)],[]⟩ (fun x=>UK.raw x) (by kernel_rfl) UK.ok
def zld:=gA (kA 1) [.v .Ep] [.v .bool] (fun x=>some (fE x)) [(false,1)] [] false
theorem zc8:eA prog 173 zld:=eD 22 (pc WC (pc ziY pn)) func173 ⟨[],[],[],[(1,⟨[.slot 2 (.v .bool)],[(3,21)],[]⟩)],[]⟩ (fun x=>vR.raw x) (by kernel_rfl) vR.ok
def zle:=gA (kA 1) [.v .Chan] [.v .bool] (fun x=>mS x) [(false,1)] [] false
theorem zij:eA prog 174 zle:=eC 42 (pc WC (pc zc7 (pc zc8 pn))) func174 ⟨[],[],[],[(2,⟨[.slot 2 (.v .bool)],[(6,14)],[]⟩),(3,⟨[.slot 28 (.v .bool)],[(15,27)],[]⟩),(5,⟨[.slot 2 (.v .bool)],[(29,41)],[]⟩)],[]⟩ (fun x=>aL.raw x) (by kernel_rfl) aL.ok
def zkg:=gA (kA 1) [.v .Chan] [.v .bool] (fun x=>yC x) [(false,1)] [] false
theorem CV:eA prog 110 zkg:=eC 45 (pc pK (pc zii (pc zc8 (pc zij pn)))) func110 ⟨[],[],[],[(1,⟨[.slot 23 (.v .bool)],[(3,22)],[]⟩),(3,⟨[.slot 2 (.v .bool)],[(24,44)],[]⟩)],[]⟩ (fun x=>GK.raw x) (by kernel_rfl) GK.ok
def zmc:=gA (kA 1) [.v .Paths] [.v .bool] (fun x=>some (sD x)) [(false,1)] [] false
theorem ziU:eA prog 234 zmc:=eD 64 (pc WC (pc WM (pc pK pn))) func234 ⟨[],[(0,⟨[],[(2,4),(6,6),(20,63)],[]⟩),(2,⟨[],[(2,2),(6,6),(53,62)],[]⟩)],[(4,⟨[.slot 20 (.v .int)],[(2,4),(6,6),(21,63)],[]⟩),(9,⟨[.slot 53 (.v .int)],[(2,2),(6,6),(54,62)],[]⟩)],[(1,⟨[.slot 16 (.v .bool)],[(7,15)],[]⟩),(6,⟨[.slot 47 (.v .bool)],[(25,46)],[]⟩)],[]⟩ (fun x=>OK.raw x) (by kernel_rfl) OK.ok
def zk9:=gA (kA 1) [.v .Sess] [.v .bool] (fun x=>XD x) [(false,1)] [] false
theorem zig:eA prog 169 zk9:=eC 76 (pc WC (pc RC (pc zcU (pc pK (pc CV (pc ziU pn)))))) func169 ⟨[],[],[],[(1,⟨[.slot 24 (.v .bool)],[(3,23)],[]⟩),(4,⟨[.slot 2 (.v .bool)],[(27,48)],[]⟩),(5,⟨[.slot 2 (.v .bool)],[(49,75)],[]⟩)],[]⟩ (fun x=>QK.raw x) (by kernel_rfl) QK.ok
def zob:=gA (kA 2) [.v .Tab, .sl .byte] [.v .int] (fun x=>pD x.1 x.2) [(false,1)] [] false
theorem c41:eA prog 41 zob:=eC 21 (pc RC pn) func41 ⟨[],[(0,⟨[],[(4,6),(10,20)],[]⟩)],[(2,⟨[.slot 10 (.v .int)],[(4,6),(11,20)],[]⟩)],[],[]⟩ (u2 wR.raw) (by kernel_rfl) wR.ok
def zj8:=gA (kA 1) [.v .Tab] [.v .bool] (fun x=>kH x) [(false,1)] [] false
theorem zhJ:eA prog 102 zj8:=eC 42 (pc WC (pc c40 (pc c41 (pc zig pn)))) func102 ⟨[],[(0,⟨[],[(2,4),(25,41)],[]⟩)],[(4,⟨[.slot 25 (.v .int)],[(2,4),(26,41)],[]⟩)],[(1,⟨[.slot 21 (.v .bool)],[(5,20)],[]⟩),(6,⟨[.slot 40 (.v .bool)],[(30,39)],[]⟩)],[]⟩ (fun x=>SK.raw x) (by kernel_rfl) SK.ok
def zoo:=gA (kA 2) [.sl .Credit, .v .Addr] [.v .int] (fun x=>some (BB x.1 x.2)) [(false,1)] [] false
theorem c57:eA prog 57 zoo:=eD 20 pn func57 ⟨[],[(0,⟨[],[(4,6),(9,19)],[]⟩)],[(2,⟨[.slot 9 (.v .int)],[(4,6),(10,19)],[]⟩)],[],[]⟩ (u2 SR.raw) (by kernel_rfl) SR.ok
def zon:=gA (kA 1) [.sl .Credit] [.v .bool] (fun x=>some (SD x)) [(false,1)] [] false
theorem c56:eA prog 56 zon:=eD 43 (pc WC (pc WM (pc c57 pn))) func56 ⟨[],[(0,⟨[],[(2,4),(10,42)],[]⟩)],[(4,⟨[.slot 10 (.v .int)],[(2,4),(11,42)],[]⟩)],[(6,⟨[.slot 41 (.v .bool)],[(15,40)],[]⟩)],[]⟩ (fun x=>IK.raw x) (by kernel_rfl) IK.ok
def zj9:=gA (kA 1) [.sl .byte] [.v .bool] (fun x=>some (mC x)) [(false,1)] [] false
theorem zcS:eA prog 103 zj9:=eD 6 (pc WC pn) func103 a0 (fun x=>AR.raw x) (by kernel_rfl) AR.ok
def zor:=gA (kA 1) [.v .Server] [.v .bool] (fun x=>dD x) [(false,1)] [] false
theorem c61:eA prog 61 zor:=eC 62 (pc WC (pc c56 (pc c62 (pc zhI (pc zhJ (pc zcS pn)))))) func61 ⟨[],[(0,⟨[],[(2,2),(4,4),(39,46)],[]⟩),(2,⟨[],[(2,2),(6,6),(51,61)],[]⟩)],[(4,⟨[.slot 39 (.v .int)],[(2,2),(4,4),(40,46)],[]⟩),(10,⟨[.slot 51 (.v .int)],[(2,2),(6,6),(52,61)],[]⟩)],[(1,⟨[.slot 35 (.v .bool)],[(7,34)],[]⟩)],[]⟩ (fun x=>PK.raw x) (by kernel_rfl) PK.ok
def zka:=gA (kA 1) [.v .Wire] [.v .bool] (fun x=>some (lH x)) [(false,1)] [] false
theorem zhK:eA prog 104 zka:=eD 17 (pc WM pn) func104 ⟨[],[],[],[(1,⟨[.slot 2 (.v .bool)],[(3,16)],[]⟩)],[]⟩ (fun x=>CR.raw x) (by kernel_rfl) CR.ok
def zot:=gA (kA 1) [.sl .Wire] [.v .bool] (fun x=>some (yG x)) [(false,1)] [] false
theorem c63:eA prog 63 zot:=eD 18 (pc zhK pn) func63 ⟨[],[(0,⟨[],[(2,2),(4,4),(7,14)],[]⟩)],[(2,⟨[.slot 7 (.v .int)],[(2,2),(4,4),(8,14)],[]⟩)],[],[]⟩ (fun x=>VK.raw x) (by kernel_rfl) VK.ok
def zkb:=gA (kA 2) [.v .Frame, .v .Frame] [.v .bool] (fun x=>EJ x.1 x.2) [(false,1)] [] false
theorem zcT:eA prog 105 zkb:=eC 80 (pc RC pn) func105 ⟨[],[],[],[(1,⟨[.slot 4 (.v .bool)],[(5,79)],[]⟩)],[]⟩ (u2 cL.raw) (by kernel_rfl) cL.ok
def zke:=gA (kA 1) [.v .Timer] [.v .bool] (fun x=>some (wD x)) [(false,1)] [] false
theorem zhL:eA prog 108 zke:=eD 39 (pc WC pn) func108 ⟨[],[],[],[(3,⟨[.slot 3 (.v .bool)],[(10,27)],[]⟩),(4,⟨[.slot 2 (.v .bool)],[(28,38)],[]⟩)],[]⟩ (fun x=>TK.raw x) (by kernel_rfl) TK.ok
def zme:=gA (kA 1) [.v .int] [.v .bool] (fun x=>some (GC x)) [(false,1)] [] false
theorem ziW:eA prog 236 zme:=eD 5 (pc WC pn) func236 a0 (fun x=>BR.raw x) (by kernel_rfl) BR.ok
def zmf:=gA (kA 2) [.v .int, .v .int] [.v .bool] (fun x=>some (DF x.1 x.2)) [(false,1)] [] false
theorem ziX:eA prog 237 zmf:=eD 17 pn func237 ⟨[(655366,⟨[.slot 10 (.v .bool)],[(12,12)],[]⟩)],[],[],[],[]⟩ (u2 tN.raw) (by kernel_rfl) tN.ok
def zlb:=gA (kA 1) [.v .Frame] [.v .bool] (fun x=>jR x) [(false,1)] [] false
theorem zih:eA prog 171 zlb:=eC 165 (pc WC (pc zcT (pc pK (pc ziW (pc ziX pn))))) func171 ⟨[(524293,⟨[.slot 4 (.v .bool), .box 3 .Frame []],[(12,158)],[]⟩),(1703944,⟨[.slot 4 (.v .bool), .box 3 .Frame []],[(30,158)],[]⟩),(3997707,⟨[.slot 4 (.v .bool), .box 3 .Frame []],[(65,158)],[]⟩),(7405582,⟨[.slot 4 (.v .bool), .box 3 .Frame [2,5,6]],[(117,158)],[]⟩)],[],[],[(5,⟨[.slot 4 (.v .bool)],[(18,25)],[]⟩),(8,⟨[.slot 4 (.v .bool)],[(42,60)],[]⟩),(11,⟨[.slot 4 (.v .bool)],[(83,112)],[]⟩),(14,⟨[.slot 4 (.v .bool)],[(132,158)],[]⟩),(15,⟨[.slot 2 (.v .bool)],[(159,164)],[]⟩)],[]⟩ (fun x=>MK.raw x) (by kernel_rfl) MK.ok
def zkf:=gA (kA 1) [.v .Client] [.v .bool] (fun x=>dR x) [(false,1)] [] false
theorem zhM:eA prog 109 zkf:=eC 74 (pc RC (pc pK (pc CV (pc zih pn)))) func109 ⟨[],[],[],[(1,⟨[.slot 35 (.v .bool)],[(3,34)],[]⟩),(3,⟨[.slot 2 (.v .bool)],[(36,73)],[]⟩)],[]⟩ (fun x=>XK.raw x) (by kernel_rfl) XK.ok
def zou:=gA (kA 1) [.v .Client] [.v .bool] (fun x=>dE x) [(false,1)] [] false
theorem c64:eA prog 64 zou:=eC 161 (pc WC (pc WM (pc zcS (pc zcT (pc zcU (pc pK (pc zhL (pc zhM (pc CV pn))))))))) func64 ⟨[],[],[],[(1,⟨[.slot 20 (.v .bool)],[(5,19)],[]⟩),(7,⟨[.slot 2 (.v .bool)],[(33,58)],[]⟩),(9,⟨[.slot 2 (.v .bool)],[(61,92)],[]⟩),(11,⟨[.slot 2 (.v .bool)],[(95,117)],[]⟩),(13,⟨[.slot 2 (.v .bool)],[(120,160)],[]⟩)],[]⟩ (fun x=>HK.raw x) (by kernel_rfl) HK.ok
def zlZ:=gA (kA 1) [.v .World] [.v .bool] (fun x=>SI x) [(false,1)] [] false
theorem c22:eA prog 22 zlZ:=eC 101 (pc WC (pc RC (pc c61 (pc c62 (pc c63 (pc c64 (pc BD pn))))))) func22 ⟨[],[(0,⟨[],[(2,4),(51,78)],[]⟩),(2,⟨[],[(2,2),(6,6),(82,89)],[]⟩),(4,⟨[],[(2,2),(8,8),(93,100)],[]⟩)],[(6,⟨[.slot 51 (.v .int)],[(2,4),(52,78)],[]⟩),(12,⟨[.slot 82 (.v .int)],[(2,2),(6,6),(83,89)],[]⟩),(18,⟨[.slot 93 (.v .int)],[(2,2),(8,8),(94,100)],[]⟩)],[(1,⟨[.slot 31 (.v .bool)],[(9,30)],[]⟩),(3,⟨[.slot 47 (.v .bool)],[(32,46)],[]⟩),(8,⟨[.slot 77 (.v .bool)],[(56,76)],[]⟩)],[]⟩ (fun x=>WK.raw x) (by kernel_rfl) WK.ok
def zoi:=gA (kA 2) [.v .World, .v .int] [.v .Client, .v .Sess, .v .bool] (fun x=>HJ x.1 x.2) [(true,41),(true,24),(false,1)] [] false
theorem c49:eA prog 49 zoi:=eC 49 (pc c41 pn) func49 ⟨[],[],[],[(3,⟨[.slot 38 (.v .bool)],[(22,37)],[]⟩)],[]⟩ (u2 dL.raw) (by kernel_rfl) dL.ok
def zlO:=gA (kA 2) [.v .World, .v .int] [.v .bool] (fun x=>xH x.1 x.2) [(false,1)] [] false
theorem c21:eA prog 21 zlO:=eC 117 (pc c22 (pc WC (pc c49 (pc RC pn)))) func21 ⟨[],[],[],[(1,⟨[.slot 18 (.v .bool)],[(11,17)],[]⟩),(9,⟨[.slot 51 (.v .bool)],[(40,50)],[]⟩),(10,⟨[.slot 4 (.v .bool)],[(52,65)],[]⟩),(12,⟨[.slot 4 (.v .bool)],[(69,116)],[]⟩)],[]⟩ (u2 JK.raw) (by kernel_rfl) JK.ok
def zk1:=gA (kA 1) [.v .Wire] [.v .bool] (fun x=>some (lH x)) [(false,1)] [] false
theorem zid:eA prog 161 zk1:=eD 17 (pc pE pn) func161 ⟨[],[],[],[(1,⟨[.slot 2 (.v .bool)],[(3,16)],[]⟩)],[]⟩ (fun x=>UT.raw x) (by kernel_rfl) UT.ok
def zoN:=gA (kA 1) [.sl .Wire] [.v .bool] (fun x=>some (yG x)) [(false,1)] [] false
theorem c94:eA prog 94 zoN:=eD 19 (pc zid pn) func94 ⟨[],[(0,⟨[],[(2,15)],[]⟩)],[(2,⟨[.slot 3 (.v .int)],[(2,2),(4,15)],[]⟩)],[],[]⟩ (fun x=>VT.raw x) (by kernel_rfl) VT.ok
def zoc:=gA (kA 1) [.v .World] [.v .bool] (fun x=>SI x) [(false,1)] [] false
theorem c43:eA prog 43 zoc:=eC 113 (pc iB (pc c80 (pc FF (pc eI (pc iQ (pc c94 (pc fI pn))))))) func43 ⟨[],[(0,⟨[],[(2,3),(47,84)],[]⟩),(2,⟨[],[(2,2),(4,4),(85,98)],[]⟩),(4,⟨[],[(2,2),(5,5),(99,112)],[]⟩)],[(4,⟨[.slot 3 (.v .int)],[(2,2),(47,84)],[]⟩),(9,⟨[.slot 4 (.v .int)],[(2,2),(85,98)],[]⟩),(14,⟨[.slot 5 (.v .int)],[(2,2),(99,112)],[]⟩)],[(1,⟨[.slot 46 (.v .bool)],[(6,45)],[]⟩),(6,⟨[.slot 84 (.v .bool)],[(51,83)],[]⟩)],[]⟩ (fun x=>eM.raw x) (by kernel_rfl) eM.ok
def zns:=gA (kA 2) [.v .World, .v .int] [.v .bool] (fun x=>xH x.1 x.2) [(false,1)] [] false
theorem c31:eA prog 31 zns:=eC 167 (pc c43 (pc iB (pc VM (pc FF pn)))) func31 ⟨[],[],[],[(1,⟨[.slot 15 (.v .bool)],[(8,14)],[]⟩),(5,⟨[.slot 45 (.v .bool)],[(29,44)],[]⟩),(11,⟨[.slot 4 (.v .bool)],[(68,100)],[]⟩),(12,⟨[.slot 4 (.v .bool)],[(101,166)],[]⟩)],[]⟩ (u2 CL.raw) (by kernel_rfl) CL.ok
def ci4:=gA (kA 1) [.sl .byte] [.v .bool] (fun x=>some ((fun (a0:List UInt8)=>qV a0) x)) [(false,1)] [] false
theorem c4:eA prog 4 ci4:=eD 75 (pc c5 (pc c21 (pc c23 (pc c24 (pc c25 (pc c26 (pc c27 (pc c28 (pc c29 (pc c30 (pc c31 pn))))))))))) func4 ⟨[],[],[],[(8,⟨[.slot 2 (.v .bool)],[(32,74)],[3,5,1000007]⟩)],[]⟩ (fun x=>RN.raw x) (by kernel_rfl) RN.ok
end
end Go.D

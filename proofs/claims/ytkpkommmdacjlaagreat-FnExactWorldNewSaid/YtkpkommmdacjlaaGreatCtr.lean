/-
 The functions of the program: each computes what is said of it.
-/
import Derived.Test.YtkpkommmdacjlaaGreatN20
import Derived.Test.YtkpkommmdacjlaaGreatN11
import Derived.Test.YtkpkommmdacjlaaGreatL0
import Derived.Test.YtkpkommmdacjlaaGreatProg
import Derived.KernelRfl
set_option linter.all false
namespace Go.D
open Go.Proofs
open Tryz
noncomputable section
def tnT:TypeId→Option TN:=λt=>KA t [(3, .int),(5, .byte),(24, .bs),(79, .Wire),(84, .Wire),(104, .Frame),(115, .Client),(119, .Note),(141, .Client),(147, .Note),(185, .Sess),(211, .Credit),(214, .Credit),(247, .Sess),(283, .Cand),(309, .Cand)]
theorem GP:Tryz.prog.follows .mixedOrders=true:=by kernel_rfl
def TL:List (TypeId×TN):=[(3, .int),(5, .byte),(24, .bs),(79, .Wire),(84, .Wire),(104, .Frame),(115, .Client),(119, .Note),(141, .Client),(147, .Note),(185, .Sess),(211, .Credit),(214, .Credit),(247, .Sess),(283, .Cand),(309, .Cand)]
theorem TQ:IL prog TL=true:=by kernel_rfl
variable [iJ TL]
def a0:An:=⟨[],[],[],[],[]⟩
abbrev u2{A B R:Type}(f:A→B→R):A×B→R:=λx=>f x.1 x.2
abbrev u3{A B C R:Type}(f:A→B→C→R):A×B×C→R:=λx=>f x.1 x.2.1 x.2.2
abbrev u4{A B C D R:Type}(f:A→B→C→D→R):A×B×C×D→R:=λx=>f x.1 x.2.1 x.2.2.1 x.2.2.2
abbrev u5{A B C D E R:Type}(f:A→B→C→D→E→R):A×B×C×D×E→R:=λx=>f x.1 x.2.1 x.2.2.1 x.2.2.2.1 x.2.2.2.2
abbrev u8{A B C D E F G H R:Type}(f:A→B→C→D→E→F→G→H→R):A×B×C×D×E×F×G×H→R:=λx=>f x.1 x.2.1 x.2.2.1 x.2.2.2.1 x.2.2.2.2.1 x.2.2.2.2.2.1 x.2.2.2.2.2.2.1 x.2.2.2.2.2.2.2
def Ph:List (Nat×RB)→Prop
 | []=>True
 | (g,ci) :: l=>nA prog g ci∧Ph l
theorem pn:Ph []:=trivial
theorem pc{g:Nat}{ci:RB}{l:List (Nat×RB)}(h:nA prog g ci)(k:Ph l):Ph ((g,ci) :: l):=⟨h,k⟩
theorem ph{n:Nat}:∀(l:List (Nat×RB)),(l.all λp=>Nat.blt p.1 1048576)=true→Ph l→cD ⟨prog,λt=>KA t TL,λf=>NC f l,n,IB⟩
 | [],_,_=>WS
 | (g,ci) :: l,h,k=>by
  simp only[List.all_cons,Bool.and_eq_true]at h;have hg:g % 1048576=g:=Nat.mod_eq_of_lt (by simpa[Nat.blt_eq]using h.1);exact zgL (by rw[hg];exact k.1) (ph l h.2 k.2)
def fU (n m : Nat) (l : List (Nat × RB)) (fn : Func) (ks : List IA) (ats : List Ty) : Bool := (l.all λp => Nat.blt p.1 1048576) && (fn.body.isSome && !(fn.name == "runtime.NumGoroutine") && Nat.beq n fn.ntmps && QA ks ats && Nat.ble m fn.ntmps)
theorem eC{f:Nat}{fn:Func}{ks:List IA}{ats rts:List Ty}{F:MA ats→Option (MA rts)}{sh:List (Bool×Nat)}{own:List Nat}(n:Nat){l:List (Nat×RB)}
  (hp:Ph l) (hf:prog.funcs[f]?=some fn) (an:An) (Raw:MA ats→Option (MA rts))
  (he:(fU n ks.length l fn ks ats,λx=>GN ⟨prog,λt=>KA t TL,λf=>NC f l,n,IB⟩ fn (fn.body.getD .skip) an ks own sh rts (CA ats x))=(true,Raw))
  (EV:∀{x},sA ats x→∀{r},F x=some r→Raw x=some r):nA prog f (rA ks ats rts F sh own false):=by
 obtain⟨h0,h1⟩:=Prod.mk.inj he;obtain⟨ha,hb⟩:=Bool.and_eq_true_iff.1 h0;exact evC n GP TQ (ph l ha hp) hf an Raw hb (λx=>congrFun h1 x) λ_ _ hb h=>EV hb h
theorem eR{f:Nat}{fn:Func}{ks:List IA}{ats rts:List Ty}{F:MA ats→Option (MA rts)}{sh:List (Bool×Nat)}{own:List Nat}(n:Nat){l:List (Nat×RB)}
  (hp:Ph l) (hf:prog.funcs[f]?=some fn) (an:An)
  (he:(fU n ks.length l fn ks ats,λx=>GN ⟨prog,λt=>KA t TL,λf=>NC f l,n,IB⟩ fn (fn.body.getD .skip) an ks own sh rts (CA ats x))=(true,F)):
  nA prog f (rA ks ats rts F sh own false):=eC n hp hf an F he λ_ _ h=>h
theorem mn:AD prog (λf=>KA f []) IB:=zhF
theorem mc{f:Nat}{ki:AC}{l:List (Nat×AC)}(h:RC prog f ki IB)(k:AD prog (λf=>KA f l) IB):AD prog (λk=>KA k ((f,ki) :: l)) IB:=zgK h k
theorem eM{f:Nat}{fn:Func}{t:TN}(n:Nat){l:List (Nat×AC)}(hM:AD prog (λf=>KA f l) IB)(hf:prog.funcs[f]?=some fn)(md:List (Nat×Nat))
  (he : ((fn.body.isSome && !(fn.name == "runtime.NumGoroutine") && Nat.beq n fn.ntmps && Nat.ble 2 fn.ntmps && (lk t).all tJ), (fun x k => OL ⟨prog, fun t => KA t TL, fun f => NC f [], n, IB⟩ (fun f => KA f l) FU fn (fn.body.getD .skip) md t false x k),
   (λk=>OL ⟨prog,λt=>KA t TL,λf=>NC f [],n,IB⟩ (λf=>KA f l) 1 fn (fn.body.getD .skip) md t true [] k))=(true,hR t,λk=>some ([],k))):RC prog f ⟨.sl t,wC t⟩ IB:=by
 obtain⟨h0,h1⟩:=Prod.mk.inj he;obtain⟨h1,h2⟩:=Prod.mk.inj h1;exact evM n GP TQ hM hf md h0 (λx k=>congrFun (congrFun h1 x) k) λk=>congrFun h2 k
theorem eS{f:Nat}{fn:Func}{t:TN}(n:Nat){l:List (Nat×AC)}(hM:AD prog (λf=>KA f l) IB)(hf:prog.funcs[f]?=some fn)(md:List (Nat×Nat))(Raw:Value→El t→Int→Option (El t×Int×Value))
  (he : ((fn.body.isSome && !(fn.name == "runtime.NumGoroutine") && Nat.beq n fn.ntmps && Nat.ble 2 fn.ntmps), (λu x k => IT ⟨prog, λt => KA t TL, λf => NC f [], n, IB⟩ (λf => KA f l) fn (fn.body.getD .skip) md t u x k)) = (true, Raw))
  (F:El t→Int→Option (El t×Int)) (hF:∀u x k r,F x k=some r→Raw u x k=some (r.1,r.2,u)):RC prog f ⟨.st t,F⟩ IB:=by
 obtain⟨h0,h1⟩:=Prod.mk.inj he;exact evS n GP TQ hM hf md Raw h0 (λu x k=>congrFun (congrFun (congrFun h1 u) x) k) F hF
theorem eL{f:Nat}{fn:Func}{m:Nat}{ats:List Ty}{G:MA ats→Bool}(n:Nat){l:List (Nat×RB)}{lm:List (Nat×AC)}(hp:Ph l)(hM:AD prog (λf=>KA f lm) IB)(hf:prog.funcs[f]?=some fn)
  (md:List (Nat×Nat)) (tr:List (Nat×List (Nat×Bool))) (fz:List (Nat×List Nat)) (Raw:MA ats→Option Bool)
  (he : ((l.all λp => Nat.blt p.1 1048576), (fn.body.isSome && !(fn.name == "runtime.NumGoroutine") && Nat.beq n fn.ntmps && QA (lA m) ats && aI ats && Nat.ble m fn.ntmps), (λx => GT ⟨prog, λt => KA t TL, λf => NC f l, n, IB⟩ (λf => KA f lm) fn (fn.body.getD .skip) md tr fz (CA ats x))) = (true, true, Raw))
  (EV:∀{x},sA ats x→Raw x=some (G x)):nA prog f (rA (lA m) ats [.v .bool] (λx=>some (G x)) [(false,1)] [] false):=by
 obtain⟨ha,h1⟩:=Prod.mk.inj he;obtain⟨hb,h1⟩:=Prod.mk.inj h1;exact evL n GP TQ (ph l ha hp) hM hf md tr fz Raw hb (λx=>congrFun h1 x) λ_ _ hx h=>(EV hx).trans h
theorem eD{f:Nat}{fn:Func}{ks:List IA}{ats rts:List Ty}{G:MA ats→MA rts}{sh:List (Bool×Nat)}{own:List Nat}(n:Nat){l:List (Nat×RB)}
  (hp:Ph l) (hf:prog.funcs[f]?=some fn) (an:An) (Raw:MA ats→Option (MA rts))
  (he:(fU n ks.length l fn ks ats,λx=>GN ⟨prog,λt=>KA t TL,λf=>NC f l,n,IB⟩ fn (fn.body.getD .skip) an ks own sh rts (CA ats x))=(true,Raw))
  (EV:∀{x},sA ats x→Raw x=some (G x)):nA prog f (rA ks ats rts (λx=>some (G x)) sh own false):=eC n hp hf an Raw he λhb _ h=>(EV hb).trans h
def zmp:=rA (lA 1) [.sl .byte] [.sl .byte] (λx=>(λ(a0:List UInt8)=>qE a0) x) [(false,1)] [0] false
theorem gU:nA prog 18 zmp:=eC 22 pn func18 ⟨[],[(0,⟨[.own 3 .byte],[(4,4),(8,20)],[]⟩)],[(3,⟨[.slot 4 (.v .int), .own 3 .byte],[(8,20)],[]⟩)],[],[]⟩ (λx=>Fk x) (by kernel_rfl) jO.ok
def zmB:=rA (lA 1) [.v .Dice] [.v .Dice] (λx=>oP x) [(true,2)] [0] false
theorem c86:nA prog 86 zmB:=eC 10 pn func86 a0 (λx=>Ez x) (by kernel_rfl) vM.ok
def zjH:=rA (lA 3) [.v .int, .v .int, .v .int] [.v .bool] (λx=>some (oA x.1 x.2.1 x.2.2)) [(false,1)] [] false
theorem oE:nA prog 121 zjH:=eD 15 pn func121 ⟨[],[],[],[(1,⟨[.slot 6 (.v .bool)],[(7,14)],[]⟩)],[]⟩ (u3 Fl) (by kernel_rfl) uP.ok
def zkV:=rA (lA 1) [.v .Dice] [.v .bool] (λx=>some (mE x)) [(false,1)] [] false
theorem zcU:nA prog 123 zkV:=eD 12 (pc oE pn) func123 ⟨[],[],[],[(1,⟨[.slot 2 (.v .bool)],[(3,11)],[]⟩)],[]⟩ (λx=>Gr x) (by kernel_rfl) vO.ok
def zkp:=rA (lA 3) [.sl .byte, .v .int, .v .int] [.sl .byte] (λx=>TD x.1 x.2.1 x.2.2) [(false,1)] [0] false
theorem QT:nA prog 129 zkp:=eC 35 pn func129 ⟨[],[(0,⟨[.own 7 .byte],[(8,8),(21,33)],[]⟩)],[(5,⟨[.own 7 .byte, .slot 8 (.v .int)],[(21,33)],[]⟩)],[(2,⟨[.slot 17 (.v .bool)],[(12,16)],[]⟩)],[]⟩ (u3 Hb) (by kernel_rfl) fP.ok
def zkK:=rA (lA 1) [.v .int] [.sl .byte] (λx=>uI x) [(false,1)] [0] false
theorem zmZ:nA prog 244 zkK:=eC 27 (pc QT pn) func244 ⟨[],[(0,⟨[.own 3 .byte],[(12,21)],[]⟩)],[(4,⟨[.own 3 .byte],[(12,21)],[]⟩)],[(1,⟨[.slot 9 (.v .bool)],[(4,8)],[]⟩)],[]⟩ (λx=>Ds x) (by kernel_rfl) kL.ok
def zj0:=rA (lA 0) [] [.sl .int] (λ_=>some (TC)) [(false,1)] [0] false
theorem znc:nA prog 245 zj0:=eD 2 pn func245 a0 (λ_=>Hc) (by kernel_rfl) WO.ok
def zkD:=rA (lA 1) [.sl .int] [.v .bool] (λx=>some (xQ x)) [(false,1)] [] false
theorem znb:nA prog 285 zkD:=eD 19 (pc oE pn) func285 ⟨[],[(0,⟨[],[(2,15)],[]⟩)],[(2,⟨[.slot 3 (.v .int)],[(2,2),(4,15)],[]⟩)],[],[]⟩ (λx=>Dt x) (by kernel_rfl) WJ.ok
def zkC:=rA (lA 0) [] [.sl .int] (λ_=>some (DF)) [(false,1)] [0] false
theorem zld:nA prog 286 zkC:=eD 2 pn func286 a0 (λ_=>Hd) (by kernel_rfl) NP.ok
def zjC:=rA (lA 3) [.sl .byte, .v .int, .v .int] [.v .int, .v .int, .v .bool] (λx=>tI x.1 x.2.1 x.2.2) [(false,1),(false,1),(false,1)] [] false
theorem zmR:nA prog 313 zjC:=eC 48 pn func313 ⟨[],[(0,⟨[.slot 9 (.v .int)],[(10,10),(29,43)],[]⟩)],[(5,⟨[.slot 9 (.v .int), .slot 10 (.v .int)],[(29,43)],[]⟩)],[(1,⟨[.slot 28 (.v .bool)],[(11,27)],[]⟩)],[]⟩ (u3 Du) (by kernel_rfl) RK.ok
def zkU:=rA (lA 2) [.v .int, .v .int] [.v .int] (λx=>DC x.1 x.2) [(false,1)] [] false
theorem zcR:nA prog 288 zkU:=eC 24 pn func288 ⟨[],[],[],[(2,⟨[.slot 13 (.v .bool)],[(8,12)],[]⟩)],[]⟩ (u2 Dv) (by kernel_rfl) tL.ok
def zjo:=rA (lA 1) [.sl .byte] [.sl .int] (λx=>KH x) [(false,1)] [0] false
theorem zlN:nA prog 287 zjo:=eC 84 (pc zcR (pc zmR pn)) func287 ⟨[],[(0,⟨[.own 3 .int],[(4,7),(18,33)],[]⟩),(2,⟨[.own 3 .int],[(8,12),(34,82)],[]⟩)],[(5,⟨[.own 3 .int, .slot 4 (.v .int)],[(5,7),(18,33)],[]⟩),(10,⟨[.own 3 .int, .slot 8 (.v .int)],[(9,12),(34,82)],[]⟩)],[],[]⟩ (λx=>Dw x) (by kernel_rfl) EJ.ok
def zkx:=rA (lA 2) [.sl .int, .sl .byte] [.sl .int] (λx=>dH x.1 x.2) [(false,1)] [0] false
theorem zlR:nA prog 246 zkx:=eC 156 (pc znb (pc zld (pc zlN (pc zcR pn)))) func246 ⟨[],[(0,⟨[.slot 8 (.v .int), .slot 9 (.v .int), .slot 10 (.v .int), .slot 11 (.v .int), .slot 12 (.v .int), .slot 13 (.v .int), .slot 14 (.v .int), .slot 15 (.v .int)],[(16,18),(60,128)],[]⟩),(2,⟨[.own 5 .int],[(20,20),(138,154)],[]⟩)],[(8,⟨[.slot 8 (.v .int), .slot 9 (.v .int), .slot 10 (.v .int), .slot 11 (.v .int), .slot 12 (.v .int), .slot 13 (.v .int), .slot 14 (.v .int), .slot 15 (.v .int), .slot 16 (.v .int)],[(17,18),(60,128)],[]⟩),(22,⟨[.slot 20 (.v .int), .own 5 .int],[(138,154)],[]⟩)],[(2,⟨[.slot 31 (.v .bool)],[(24,30)],[]⟩)],[]⟩ (u2 Dx) (by kernel_rfl) KJ.ok
def zkE:=rA (lA 1) [.sl .int] [.sl .byte] (λx=>ZG x) [(false,1)] [0] false
theorem zlW:nA prog 247 zkE:=eC 17 (pc QT pn) func247 ⟨[],[(0,⟨[.own 3 .byte],[(4,4),(6,15)],[]⟩)],[(3,⟨[.own 3 .byte, .slot 4 (.v .int)],[(6,15)],[]⟩)],[],[]⟩ (λx=>Dy x) (by kernel_rfl) JK.ok
def zkA:=rA (lA 1) [.sl .byte] [.sl .byte] (λx=>some (YC x)) [(false,1)] [0] false
theorem zc8:nA prog 189 zkA:=eD 33 (pc zmZ (pc znc (pc zlR (pc zlW pn)))) func189 ⟨[],[(0,⟨[.own 4 .int],[(5,5),(18,30)],[3]⟩)],[(6,⟨[.own 4 .int, .slot 5 (.v .int)],[(18,30)],[]⟩)],[],[]⟩ (λx=>Dz x) (by kernel_rfl) rL.ok
def zjI:=rA (lA 1) [.sl .byte] [.sl .byte] (λx=>some (xC x)) [(false,1)] [0] false
theorem zl0:nA prog 188 zjI:=eD 23 (pc zc8 pn) func188 ⟨[(851974,⟨[.own 3 .byte],[(14,15)],[]⟩)],[(0,⟨[.own 3 .byte],[(16,21)],[]⟩)],[(6,⟨[.own 3 .byte],[(16,21)],[]⟩)],[],[]⟩ (λx=>Ea x) (by kernel_rfl) MJ.ok
def zkQ:=rA (lA 2) [.sl .byte, .sl .byte] [.sl .byte] (λx=>some (xD x.1 x.2)) [(false,1)] [0] false
theorem zcP:nA prog 128 zkQ:=eD 49 (pc zl0 (pc zc8 pn)) func128 ⟨[],[(0,⟨[.own 6 .byte, .own 7 .byte],[(8,8),(22,41)],[]⟩)],[(7,⟨[.own 6 .byte, .own 7 .byte, .slot 8 (.v .int)],[(22,41)],[]⟩)],[(1,⟨[.slot 16 (.v .bool)],[(9,15)],[]⟩)],[]⟩ (u2 Eb) (by kernel_rfl) ZK.ok
def zlV:=rA (lA 2) [.sl .byte, .v .int] [.sl .byte] (λx=>some (SD x.1 x.2)) [(false,1)] [0] false
theorem c63:nA prog 63 zlV:=eD 24 (pc oE (pc zcP (pc QT pn))) func63 ⟨[],[],[],[(1,⟨[.slot 13 (.v .bool)],[(5,12)],[]⟩)],[]⟩ (u2 Ec) (by kernel_rfl) oK.ok
def zkt:=rA (lA 1) [.v .Dice] [.v .Dice, .sl .byte] (λx=>lI x) [(true,2),(false,1)] [0,2] false
theorem zmj:nA prog 118 zkt:=eC 27 (pc c63 (pc c86 (pc zcU pn))) func118 ⟨[],[],[],[(2,⟨[.slot 14 (.v .bool)],[(7,13)],[]⟩)],[]⟩ (λx=>Fa x) (by kernel_rfl) TM.ok
def zk5:=rA (lA 3) [.sl .byte, .sl .byte, .v .int] [.sl .byte, .v .bool] (λx=>some (KE x.1 x.2.1 x.2.2)) [(false,1),(false,1)] [0] false
theorem zlm:nA prog 242 zk5:=eD 52 (pc oE (pc zcP pn)) func242 ⟨[],[(0,⟨[.own 8 .byte, .own 9 .byte],[(10,10),(27,46)],[]⟩)],[(6,⟨[.own 8 .byte, .own 9 .byte, .slot 10 (.v .int)],[(27,46)],[]⟩)],[(1,⟨[.slot 23 (.v .bool)],[(11,22)],[]⟩)],[]⟩ (u3 Ee) (by kernel_rfl) wK.ok
def zjL:=rA (lA 2) [.sl .byte, .v .str] [.sl .byte] (λx=>VH x.1 x.2) [(false,1)] [0] false
theorem zl5:nA prog 184 zjL:=eC 15 (pc zlm pn) func184 a0 (u2 Fb) (by kernel_rfl) FM.ok
def zjb:=rA (lA 1) [.sl .byte] [.v .Jar] (λx=>some (yF x)) [(true,1)] [0] false
theorem zlA:nA prog 119 zjb:=eD 10 (pc zl5 pn) func119 a0 (λx=>Fc x) (by kernel_rfl) KM.ok
def zj1:=rA (lA 1) [.v .int] [.v .Tab] (λx=>some (vF x)) [(true,2)] [1] false
theorem zlz:nA prog 120 zj1:=eD 9 (pc oE pn) func120 a0 (λx=>Fd x) (by kernel_rfl) CM.ok
def zjX:=rA (lA 1) [.v .Jar] [.v .bool] (λx=>some (nI x)) [(false,1)] [] false
theorem zmg:nA prog 122 zjX:=eD 7 pn func122 a0 (λx=>Gs x) (by kernel_rfl) LO.ok
def zj2:=rA (lA 1) [.v .Tab] [.v .int] (λx=>qI x) [(false,1)] [] false
theorem zmh:nA prog 185 zj2:=eC 22 pn func185 ⟨[(1179655,⟨[.slot 3 (.v .int)],[(19,20)],[]⟩)],[(0,⟨[.slot 3 (.v .int)],[(4,20)],[]⟩)],[(3,⟨[.slot 3 (.v .int), .slot 4 (.v .int)],[(5,20)],[]⟩)],[],[]⟩ (λx=>Gt x) (by kernel_rfl) eP.ok
def zj6:=rA (lA 1) [.v .Ep] [.v .bool] (λx=>some (FF x)) [(false,1)] [] false
theorem zcL:nA prog 258 zj6:=eD 30 pn func258 ⟨[],[],[],[(1,⟨[.slot 2 (.v .bool)],[(3,29)],[]⟩)],[]⟩ (λx=>Bl x) (by kernel_rfl) XJ.ok
def zjF:=rA (lA 1) [.v .Chan] [.v .bool] (λx=>some (gG x)) [(false,1)] [] false
theorem zne:nA prog 206 zjF:=eD 38 (pc zcL pn) func206 ⟨[],[],[],[(1,⟨[.slot 2 (.v .bool)],[(3,37)],[]⟩)],[]⟩ (λx=>Cu x) (by kernel_rfl) AJ.ok
def zl7:=rA (lA 1) [.v .int] [.v .Addr] (λx=>some (KD x)) [(true,2)] [] false
theorem c61:nA prog 61 zl7:=eD 12 (pc oE pn) func61 a0 (λx=>Ga x) (by kernel_rfl) lP.ok
def zkY:=rA (lA 2) [.v .Win, .v .int] [.v .bool] (λx=>IF x.1 x.2) [(false,1)] [] false
theorem znd:nA prog 317 zkY:=eC 19 pn func317 a0 (u2 Fr) (by kernel_rfl) UO.ok
def zkn:=rA (lA 1) [.v .Win] [.v .bool] (λx=>some (BF x)) [(false,1)] [] false
theorem zlD:nA prog 298 zkn:=eD 46 (pc oE (pc znd pn)) func298 ⟨[],[(0,⟨[],[(2,3),(15,25)],[]⟩),(2,⟨[],[(2,2),(4,4),(39,45)],[]⟩)],[(4,⟨[.slot 3 (.v .int)],[(2,2),(15,25)],[]⟩),(11,⟨[.slot 4 (.v .int)],[(2,2),(39,45)],[]⟩)],[(1,⟨[.slot 14 (.v .bool)],[(5,13)],[]⟩),(8,⟨[.slot 35 (.v .bool)],[(26,34)],[]⟩)],[]⟩ (λx=>Bk x) (by kernel_rfl) KK.ok
def zi9:=rA (lA 1) [.v .Ep] [.v .bool] (λx=>some (KF x)) [(false,1)] [] false
theorem zmk:nA prog 259 zi9:=eD 22 (pc oE (pc zlD pn)) func259 ⟨[],[],[],[(1,⟨[.slot 2 (.v .bool)],[(3,21)],[]⟩)],[]⟩ (λx=>Fs x) (by kernel_rfl) aP.ok
def zkc:=rA (lA 1) [.v .Chan] [.v .bool] (λx=>tF x) [(false,1)] [] false
theorem zlj:nA prog 207 zkc:=eC 74 (pc oE (pc zcL (pc zmk pn))) func207 ⟨[(1376261,⟨[],[(2,3),(22,54)],[]⟩),(1572871,⟨[.slot 3 (.v .int)],[],[]⟩)],[],[],[(1,⟨[.slot 19 (.v .bool)],[(4,18)],[]⟩),(7,⟨[.slot 45 (.v .bool)],[(25,44)],[]⟩),(9,⟨[.slot 54 (.v .bool)],[(46,53)],[]⟩),(13,⟨[.slot 2 (.v .bool)],[(59,73)],[]⟩)],[]⟩ (λx=>Bm x) (by kernel_rfl) eK.ok
def zjO:=rA (lA 2) [.sl .byte, .sl .byte] [.v .bool] (λx=>wD x.1 x.2) [(false,1)] [] false
theorem zc6:nA prog 143 zjO:=eC 10 pn func143 a0 (u2 Fo) (by kernel_rfl) BO.ok
def zjJ:=rA (lA 1) [.v .Addr] [.v .bool] (λx=>some (WB x)) [(false,1)] [] false
theorem YT:nA prog 127 zjJ:=eD 11 (pc oE pn) func127 ⟨[],[],[],[(1,⟨[.slot 2 (.v .bool)],[(3,10)],[]⟩)],[]⟩ (λx=>Fy x) (by kernel_rfl) rO.ok
def zkv:=rA (lA 1) [.v .Paths] [.v .bool] (λx=>some (bG x)) [(false,1)] [] false
theorem zm5:nA prog 243 zkv:=eD 65 (pc oE (pc YT pn)) func243 ⟨[],[(0,⟨[],[(2,5),(16,64)],[]⟩),(2,⟨[],[(2,2),(5,5),(51,64)],[]⟩)],[(4,⟨[.slot 3 (.v .int)],[(2,2),(4,5),(16,64)],[]⟩),(10,⟨[.slot 5 (.v .int)],[(2,2),(51,64)],[]⟩)],[(1,⟨[.slot 15 (.v .bool)],[(6,14)],[]⟩),(7,⟨[.slot 50 (.v .bool)],[(28,49)],[]⟩)],[]⟩ (λx=>Cv x) (by kernel_rfl) YJ.ok
def zkS:=rA (lA 1) [.v .Sess] [.v .bool] (λx=>JG x) [(false,1)] [] false
theorem zmH:nA prog 186 zkS:=eC 77 (pc c61 (pc oE (pc zc6 (pc zne (pc zlj (pc zm5 pn)))))) func186 ⟨[],[],[],[(1,⟨[.slot 30 (.v .bool)],[(3,29)],[]⟩),(4,⟨[.slot 2 (.v .bool)],[(33,54)],[]⟩),(5,⟨[.slot 2 (.v .bool)],[(55,76)],[]⟩)],[]⟩ (λx=>Cw x) (by kernel_rfl) gK.ok
def zjn:=rA (lA 2) [.v .Tab, .sl .byte] [.v .int] (λx=>HG x.1 x.2) [(false,1)] [] false
theorem zna:nA prog 187 zjn:=eC 22 (pc zc6 pn) func187 ⟨[],[(0,⟨[],[(4,21)],[]⟩)],[(2,⟨[.slot 5 (.v .int)],[(4,4),(6,21)],[]⟩)],[],[]⟩ (u2 Gu) (by kernel_rfl) AO.ok
def zkf:=rA (lA 1) [.v .Tab] [.v .bool] (λx=>bJ x) [(false,1)] [] false
theorem zmm:nA prog 124 zkf:=eC 47 (pc oE (pc zmh (pc zmH (pc zna pn)))) func124 ⟨[],[(0,⟨[],[(2,3),(21,46)],[]⟩)],[(4,⟨[.slot 3 (.v .int)],[(2,2),(21,46)],[]⟩)],[(1,⟨[.slot 20 (.v .bool)],[(4,19)],[]⟩),(6,⟨[.slot 46 (.v .bool)],[(28,45)],[]⟩)],[]⟩ (λx=>Cy x) (by kernel_rfl) FK.ok
def zjU:=rA (lA 1) [.sl .Credit] [.v .bool] (λx=>some (pF x)) [(false,1)] [] false
theorem zmz:nA prog 125 zjU:=eD 61 (pc oE (pc YT pn)) func125 ⟨[],[(0,⟨[],[(2,4),(8,60)],[]⟩),(2,⟨[],[(2,2),(4,4),(45,60)],[]⟩)],[(4,⟨[.slot 3 (.v .int)],[(2,2),(4,4),(8,60)],[]⟩),(9,⟨[.slot 4 (.v .int)],[(2,2),(45,60)],[]⟩)],[(6,⟨[.slot 44 (.v .bool)],[(14,43)],[]⟩)],[]⟩ (λx=>Cz x) (by kernel_rfl) BJ.ok
def zjy:=rA (lA 1) [.sl .byte] [.v .bool] (λx=>some (nE x)) [(false,1)] [] false
theorem zcM:nA prog 126 zjy:=eD 6 (pc oE pn) func126 a0 (λx=>Gv x) (by kernel_rfl) RO.ok
def zlM:=rA (lA 1) [.v .Server] [.v .bool] (λx=>jE x) [(false,1)] [] false
theorem c58:nA prog 58 zlM:=eC 67 (pc oE (pc zmg (pc zcU (pc zmm (pc zmz (pc zcM pn)))))) func58 ⟨[],[(0,⟨[],[(2,3),(34,47)],[]⟩),(2,⟨[],[(2,2),(4,4),(48,66)],[]⟩)],[(4,⟨[.slot 3 (.v .int)],[(2,2),(34,47)],[]⟩),(9,⟨[.slot 4 (.v .int)],[(2,2),(48,66)],[]⟩)],[(1,⟨[.slot 33 (.v .bool)],[(5,32)],[]⟩)],[]⟩ (λx=>Gw x) (by kernel_rfl) cO.ok
def zmI:=rA (lA 3) [.sl .bs, .sl .byte, .v .int] [.v .Server] (λx=>IH x.1 x.2.1 x.2.2) [(true,7)] [0,1,2,5,6] false
theorem c57:nA prog 57 zmI:=eC 45 (pc c58 (pc zmj (pc zlA (pc zlz pn)))) func57 ⟨[],[(0,⟨[.box 9 .Server [0,1,2,5,6]],[(10,10),(23,39)],[]⟩)],[(4,⟨[.slot 10 (.v .int), .box 9 .Server [0,1,2,5,6]],[(23,39)],[]⟩)],[],[]⟩ (u3 Fe) (by kernel_rfl) aM.ok
def zmP:=rA (lA 1) [.sl .byte] [.sl .byte] (λx=>UP x) [(false,1)] [0] false
theorem c59:nA prog 59 zmP:=eC 15 pn func59 ⟨[(589828,⟨[.own 3 .byte],[(10,11)],[]⟩)],[],[],[],[]⟩ (λx=>Ff x) (by kernel_rfl) wM.ok
def zlX:=rA (lA 3) [.v .int, .sl .byte, .v .Addr] [.v .Client] (λx=>JE x.1 x.2.1 x.2.2) [(true,41)] [1,5,8,9,11,12,15,16,18,20,23,25,28,31] false
theorem c60:nA prog 60 zlX:=eC 27 (pc oE (pc zcM (pc YT pn))) func60 ⟨[],[],[],[(1,⟨[.slot 19 (.v .bool)],[(7,18)],[]⟩)],[]⟩ (u3 Fg) (by kernel_rfl) gM.ok
def zmD:=rA (lA 1) [.sl .byte] [.v .Note] (λx=>WG x) [(true,12)] [3,4,7,8] false
theorem c62:nA prog 62 zmD:=eC 7 pn func62 a0 (λx=>Fh x) (by kernel_rfl) cM.ok
def zlx:=rA (lA 4) [.sl .byte, .sl .byte, .sl .byte, .v .int] [.v .World] (λx=>NH x.1 x.2.1 x.2.2.1 x.2.2.2) [(true,14)] [1,2,3,4,7,8,9,11,12,13] false
theorem jU:nA prog 17 zlx:=eC 46 (pc c57 (pc c58 (pc c59 (pc c60 (pc c61 (pc c62 (pc c63 pn))))))) func17 a0 (u4 Fi) (by kernel_rfl) nM.ok
def zmY:=rA (lA 1) [.sl .byte] [.sl .byte] (λx=>lE x) [(false,1)] [0] false
theorem AH:nA prog 71 zmY:=eC 6 pn func71 a0 (λx=>Gx x) (by kernel_rfl) OO.ok
def zjd:=rA (lA 3) [.v .int, .v .int, .v .int] [.v .bool] (λx=>some (oA x.1 x.2.1 x.2.2)) [(false,1)] [] false
theorem fD:nA prog 133 zjd:=eD 15 pn func133 ⟨[],[],[],[(1,⟨[.slot 6 (.v .bool)],[(7,14)],[]⟩)],[]⟩ (u3 Fm) (by kernel_rfl) DO.ok
def zjY:=rA (lA 1) [.v .Dice] [.v .bool] (λx=>some (mE x)) [(false,1)] [] false
theorem zcW:nA prog 135 zjY:=eD 12 (pc fD pn) func135 ⟨[],[],[],[(1,⟨[.slot 2 (.v .bool)],[(3,11)],[]⟩)],[]⟩ (λx=>Gi x) (by kernel_rfl) uO.ok
def zkN:=rA (lA 3) [.sl .byte, .v .int, .v .int] [.sl .byte] (λx=>TD x.1 x.2.1 x.2.2) [(false,1)] [0] false
theorem XT:nA prog 141 zkN:=eC 35 pn func141 ⟨[],[(0,⟨[.own 7 .byte],[(8,8),(21,33)],[]⟩)],[(5,⟨[.own 7 .byte, .slot 8 (.v .int)],[(21,33)],[]⟩)],[(2,⟨[.slot 17 (.v .bool)],[(12,16)],[]⟩)],[]⟩ (u3 Da) (by kernel_rfl) aL.ok
def zka:=rA (lA 0) [] [.sl .int] (λ_=>some (TC)) [(false,1)] [0] false
theorem zmM:nA prog 297 zka:=eD 2 pn func297 a0 (λ_=>Gy) (by kernel_rfl) XO.ok
def zj9:=rA (lA 0) [] [.v .Hash] (λ_=>some (YI)) [(true,3)] [0,1] false
theorem zlL:nA prog 257 zj9:=eD 3 (pc zmM pn) func257 a0 (λ_=>Gz) (by kernel_rfl) oO.ok
def zk1:=rA (lA 2) [.sl .int, .v .int] [.v .bool] (λx=>some (BB x.1 x.2)) [(false,1)] [] false
theorem ST:nA prog 314 zk1:=eD 21 (pc fD pn) func314 ⟨[],[(0,⟨[],[(4,4),(6,6),(9,16)],[]⟩)],[(2,⟨[.slot 9 (.v .int)],[(4,4),(6,6),(10,16)],[]⟩)],[],[]⟩ (u2 Ek) (by kernel_rfl) lM.ok
def zkO:=rA (lA 1) [.v .Hash] [.v .bool] (λx=>some (CE x)) [(false,1)] [] false
theorem zcO:nA prog 293 zkO:=eD 20 (pc fD (pc ST pn)) func293 ⟨[],[],[],[(1,⟨[.slot 2 (.v .bool)],[(3,19)],[]⟩)],[]⟩ (λx=>Db x) (by kernel_rfl) pK.ok
def zmw:=rA (lA 1) [.sl .bs] [.sl .byte] (λx=>AE x) [(false,1)] [0] false
theorem VN:nA prog 66 zmw:=eC 18 pn func66 ⟨[],[(0,⟨[.own 3 .byte],[(5,5),(9,16)],[]⟩)],[(3,⟨[.own 3 .byte, .slot 9 (.v .int)],[(5,5),(10,16)],[]⟩)],[],[]⟩ (λx=>Dc x) (by kernel_rfl) iK.ok
def zjr:=rA (lA 3) [.sl .byte, .v .int, .v .int] [.sl .byte, .v .bool] (λx=>jR x.1 x.2.1 x.2.2) [(false,1),(false,1)] [0] false
theorem zlG:nA prog 334 zjr:=eC 36 pn func334 ⟨[],[],[],[(1,⟨[.slot 27 (.v .bool)],[(8,26)],[]⟩)],[]⟩ (u3 Dd) (by kernel_rfl) gL.ok
def zkk:=rA (lA 3) [.sl .byte, .v .int, .v .int] [.v .int, .v .int, .v .bool] (λx=>tI x.1 x.2.1 x.2.2) [(false,1),(false,1),(false,1)] [] false
theorem zm9:nA prog 331 zkk:=eC 45 (pc zlG pn) func331 ⟨[],[(0,⟨[.slot 11 (.v .int)],[(13,13),(31,40)],[]⟩)],[(8,⟨[.slot 11 (.v .int), .slot 31 (.v .int)],[(13,13),(32,40)],[]⟩)],[(1,⟨[.slot 19 (.v .bool)],[(14,18)],[]⟩)],[]⟩ (u3 De) (by kernel_rfl) UK.ok
def zjZ:=rA (lA 2) [.v .int, .v .int] [.v .int] (λx=>DC x.1 x.2) [(false,1)] [] false
theorem zc4:nA prog 324 zjZ:=eC 23 pn func324 ⟨[],[],[],[(2,⟨[.slot 12 (.v .bool)],[(7,11)],[]⟩)],[]⟩ (u2 Df) (by kernel_rfl) uL.ok
def zjj:=rA (lA 1) [.sl .byte] [.sl .int] (λx=>KH x) [(false,1)] [0] false
theorem zlu:nA prog 323 zjj:=eC 79 (pc zc4 (pc zm9 pn)) func323 ⟨[],[(0,⟨[.own 3 .int],[(4,4),(14,28)],[]⟩),(2,⟨[.own 3 .int],[(5,9),(29,77)],[]⟩)],[(5,⟨[.slot 4 (.v .int), .own 3 .int],[(14,28)],[]⟩),(9,⟨[.slot 5 (.v .int), .own 3 .int],[(6,9),(29,77)],[]⟩)],[],[]⟩ (λx=>Dg x) (by kernel_rfl) OJ.ok
def zjc:=rA (lA 1) [.v .int] [.v .int] (λx=>some (MH x)) [(false,1)] [] false
theorem zlh:nA prog 325 zjc:=eD 14 pn func325 ⟨[],[],[],[(1,⟨[.slot 9 (.v .bool)],[(4,8)],[]⟩)],[]⟩ (λx=>Be x) (by kernel_rfl) DI.ok
def zjs:=rA (lA 2) [.v .int, .v .int] [.v .int] (λx=>some (YD x.1 x.2)) [(false,1)] [] false
theorem zlr:nA prog 326 zjs:=eD 9 pn func326 a0 (u2 Ha) (by kernel_rfl) PO.ok
def zjN:=rA (lA 2) [.sl .int, .sl .byte] [.sl .int] (λx=>dH x.1 x.2) [(false,1)] [0] false
theorem zm4:nA prog 316 zjN:=eC 151 (pc ST (pc zlu (pc zc4 (pc zlh (pc zlr pn))))) func316 ⟨[],[(0,⟨[.slot 7 (.v .int), .slot 8 (.v .int), .slot 9 (.v .int), .slot 10 (.v .int), .slot 11 (.v .int), .slot 12 (.v .int), .slot 13 (.v .int), .slot 14 (.v .int)],[(15,19),(60,124)],[]⟩),(2,⟨[.own 5 .int],[(20,21),(135,149)],[]⟩)],[(7,⟨[.slot 7 (.v .int), .slot 8 (.v .int), .slot 9 (.v .int), .slot 10 (.v .int), .slot 11 (.v .int), .slot 12 (.v .int), .slot 13 (.v .int), .slot 14 (.v .int), .slot 15 (.v .int)],[(16,19),(60,124)],[]⟩),(16,⟨[.slot 135 (.v .int), .own 5 .int],[(20,21),(136,149)],[]⟩)],[(2,⟨[.slot 32 (.v .bool)],[(25,31)],[]⟩)],[]⟩ (u2 Dh) (by kernel_rfl) LJ.ok
def zju:=rA (lA 2) [.sl .int, .sl .byte] [.sl .int, .sl .byte] (λx=>UL x.1 x.2) [(false,1),(false,1)] [] false
theorem zcT:nA prog 294 zju:=eC 17 (pc zm4 pn) func294 ⟨[],[(0,⟨[.slot 0 (.sl .int), .slot 1 (.sl .byte)],[(6,14)],[]⟩)],[(1,⟨[.slot 0 (.sl .int), .slot 1 (.sl .byte)],[(6,14)],[]⟩)],[],[]⟩ (u2 Di) (by kernel_rfl) wJ.ok
def zj7:=rA (lA 2) [.v .Hash, .sl .byte] [.v .Hash] (λx=>QP x.1 x.2) [(true,3)] [0,1] false
theorem znf:nA prog 256 zj7:=eC 50 (pc VN (pc AH (pc zcO (pc zcT pn)))) func256 ⟨[],[],[],[(1,⟨[.slot 17 (.v .bool)],[(7,16)],[]⟩)],[]⟩ (u2 Dj) (by kernel_rfl) dK.ok
def zjl:=rA (lA 1) [.v .int] [.sl .byte] (λx=>uI x) [(false,1)] [0] false
theorem zmS:nA prog 295 zjl:=eC 25 (pc fD (pc XT pn)) func295 ⟨[],[(0,⟨[.own 3 .byte],[(8,17)],[]⟩)],[(4,⟨[.own 3 .byte],[(8,17)],[]⟩)],[],[]⟩ (λx=>Dk x) (by kernel_rfl) fL.ok
def zjQ:=rA (lA 1) [.sl .int] [.sl .byte] (λx=>ZG x) [(false,1)] [0] false
theorem zlI:nA prog 296 zjQ:=eC 18 (pc XT pn) func296 ⟨[],[(0,⟨[.own 3 .byte],[(5,5),(9,16)],[]⟩)],[(3,⟨[.own 3 .byte, .slot 9 (.v .int)],[(5,5),(10,16)],[]⟩)],[],[]⟩ (λx=>Dl x) (by kernel_rfl) DJ.ok
def zkR:=rA (lA 1) [.v .Hash] [.sl .byte] (λx=>HP x) [(false,1)] [0] false
theorem zl4:nA prog 255 zkR:=eC 23 (pc VN (pc zcO (pc zcT (pc zmS (pc zlI pn))))) func255 a0 (λx=>Dm x) (by kernel_rfl) TJ.ok
def zjV:=rA (lA 1) [.sl .byte] [.sl .byte] (λx=>some (YC x)) [(false,1)] [0] false
theorem zc1:nA prog 202 zjV:=eD 10 (pc zl4 (pc znf (pc zlL pn))) func202 a0 (λx=>Dn x) (by kernel_rfl) sL.ok
def zji:=rA (lA 1) [.sl .byte] [.sl .byte] (λx=>some (xC x)) [(false,1)] [0] false
theorem zll:nA prog 201 zji:=eD 21 (pc AH (pc zc1 pn)) func201 ⟨[(720902,⟨[.own 3 .byte],[(12,13)],[]⟩)],[(0,⟨[.own 3 .byte],[(14,19)],[]⟩)],[(6,⟨[.own 3 .byte],[(14,19)],[]⟩)],[],[]⟩ (λx=>Do x) (by kernel_rfl) JJ.ok
def zjv:=rA (lA 2) [.sl .byte, .v .byte] [.sl .byte] (λx=>tN x.1 x.2) [(false,1)] [0] false
theorem zl1:nA prog 203 zjv:=eC 23 pn func203 ⟨[],[(0,⟨[.own 5 .byte],[(7,7),(11,21)],[]⟩)],[(3,⟨[.own 5 .byte, .slot 11 (.v .int)],[(7,7),(12,21)],[]⟩)],[],[]⟩ (u2 Dp) (by kernel_rfl) fK.ok
def zj3:=rA (lA 2) [.sl .byte, .sl .byte] [.sl .byte] (λx=>some (xD x.1 x.2)) [(false,1)] [0] false
theorem zcH:nA prog 140 zj3:=eD 27 (pc VN (pc zll (pc zc1 (pc zl1 pn)))) func140 ⟨[],[],[],[(1,⟨[.slot 13 (.v .bool)],[(6,12)],[]⟩)],[]⟩ (u2 Dq) (by kernel_rfl) YK.ok
def zml:=rA (lA 2) [.sl .byte, .v .int] [.sl .byte] (λx=>some (SD x.1 x.2)) [(false,1)] [0] false
theorem c70:nA prog 70 zml:=eD 22 (pc AH (pc fD (pc zcH (pc XT pn)))) func70 ⟨[],[],[],[(1,⟨[.slot 13 (.v .bool)],[(5,12)],[]⟩)],[]⟩ (u2 Dr) (by kernel_rfl) nK.ok
def zkh:=rA (lA 1) [.v .Dice] [.v .Dice, .sl .byte] (λx=>lI x) [(true,2),(false,1)] [0,2] false
theorem zmA:nA prog 130 zkh:=eC 30 (pc c70 (pc AH (pc zcW pn))) func130 ⟨[],[],[],[(2,⟨[.slot 18 (.v .bool)],[(11,17)],[]⟩)],[]⟩ (λx=>En x) (by kernel_rfl) ZM.ok
def zk6:=rA (lA 1) [.sl .bs] [.sl .bs] (λx=>pP x) [(false,1)] [0,256] false
theorem zlv:nA prog 101 zk6:=eC 20 (pc AH pn) func101 ⟨[],[(0,⟨[.own 3 .bs true],[(5,5),(9,18)],[]⟩)],[(3,⟨[.own 3 .bs true, .slot 9 (.v .int)],[(5,5),(10,18)],[]⟩)],[],[]⟩ (λx=>Eo x) (by kernel_rfl) pM.ok
def zkl:=rA (lA 1) [.sl .byte] [.v .bool] (λx=>some (PB x)) [(false,1)] [] false
theorem mJ:nA prog 190 zkl:=eD 6 pn func190 a0 (λx=>Ft x) (by kernel_rfl) kO.ok
def zkq:=rA (lA 3) [.sl .byte, .sl .byte, .v .int] [.sl .byte, .v .bool] (λx=>some (KE x.1 x.2.1 x.2.2)) [(false,1),(false,1)] [0] false
theorem zmC:nA prog 248 zkq:=eD 48 (pc VN (pc AH (pc fD (pc zcH pn)))) func248 ⟨[],[(0,⟨[.own 8 .byte, .own 9 .byte],[(10,10),(26,43)],[]⟩)],[(6,⟨[.own 8 .byte, .own 9 .byte, .slot 10 (.v .int)],[(26,43)],[]⟩)],[(1,⟨[.slot 23 (.v .bool)],[(11,22)],[]⟩)],[]⟩ (u3 Ed) (by kernel_rfl) lK.ok
def zk2:=rA (lA 2) [.sl .byte, .v .str] [.sl .byte] (λx=>VH x.1 x.2) [(false,1)] [0] false
theorem zmi:nA prog 191 zk2:=eC 15 (pc zmC pn) func191 a0 (u2 Eq) (by kernel_rfl) LM.ok
def zkz:=rA (lA 1) [.sl .byte] [.v .Jar] (λx=>some (yF x)) [(true,1)] [0] false
theorem zly:nA prog 131 zkz:=eD 10 (pc mJ (pc zmi pn)) func131 a0 (λx=>Er x) (by kernel_rfl) GM.ok
def zjG:=rA (lA 1) [.v .int] [.v .Tab] (λx=>some (vF x)) [(true,2)] [1,257] false
theorem zlg:nA prog 132 zjG:=eD 9 (pc fD pn) func132 a0 (λx=>Es x) (by kernel_rfl) zM.ok
def zkW:=rA (lA 1) [.v .Jar] [.v .bool] (λx=>some (nI x)) [(false,1)] [] false
theorem zmt:nA prog 134 zkW:=eD 7 pn func134 a0 (λx=>Gj x) (by kernel_rfl) KO.ok
def zi7:=rA (lA 1) [.v .Tab] [.v .int] (λx=>qI x) [(false,1)] [] false
theorem zlF:nA prog 192 zi7:=eC 20 pn func192 ⟨[(983047,⟨[.slot 3 (.v .int)],[(16,17)],[]⟩)],[(0,⟨[.slot 3 (.v .int)],[(5,5),(9,18)],[]⟩)],[(3,⟨[.slot 3 (.v .int), .slot 9 (.v .int)],[(5,5),(10,18)],[]⟩)],[],[]⟩ (λx=>Gk x) (by kernel_rfl) ZO.ok
def zjx:=rA (lA 2) [.sl .byte, .sl .byte] [.v .bool] (λx=>wD x.1 x.2) [(false,1)] [] false
theorem ON:nA prog 148 zjx:=eC 10 pn func148 a0 (u2 Fp) (by kernel_rfl) FO.ok
def zkb:=rA (lA 2) [.sl .int, .sl .int] [.v .bool] (λx=>some (XQ x.1 x.2)) [(false,1)] [] false
theorem zm8:nA prog 289 zkb:=eD 26 pn func289 ⟨[],[(0,⟨[],[(4,6),(14,25)],[]⟩)],[(4,⟨[.slot 14 (.v .int)],[(4,6),(15,25)],[]⟩)],[],[]⟩ (u2 Fw) (by kernel_rfl) dO.ok
def zkT:=rA (lA 2) [.v .Ep, .v .Ep] [.v .bool] (λx=>VI x.1 x.2) [(false,1)] [] false
theorem zcN:nA prog 250 zkT:=eC 42 (pc ON (pc zm8 pn)) func250 ⟨[],[],[],[(1,⟨[.slot 4 (.v .bool)],[(5,41)],[]⟩)],[]⟩ (u2 Bo) (by kernel_rfl) xK.ok
def zjM:=rA (lA 1) [.v .Chan] [.v .bool] (λx=>TI x) [(false,1)] [] false
theorem zcS:nA prog 197 zjM:=eC 40 (pc zcN pn) func197 ⟨[],[],[],[(1,⟨[.slot 2 (.v .bool)],[(3,39)],[]⟩)],[]⟩ (λx=>Ch x) (by kernel_rfl) xJ.ok
def zjh:=rA (lA 1) [.v .int] [.v .bool] (λx=>some (DN x)) [(false,1)] [] false
theorem zmO:nA prog 252 zjh:=eD 9 pn func252 ⟨[],[],[],[(1,⟨[.slot 2 (.v .bool)],[(3,8)],[]⟩)],[]⟩ (λx=>Ej x) (by kernel_rfl) BM.ok
def zj5:=rA (lA 2) [.v .Win, .v .int] [.v .bool] (λx=>IF x.1 x.2) [(false,1)] [] false
theorem zmN:nA prog 315 zj5:=eC 17 pn func315 a0 (u2 Fu) (by kernel_rfl) yO.ok
def zkX:=rA (lA 1) [.v .Win] [.v .bool] (λx=>some (BF x)) [(false,1)] [] false
theorem zl3:nA prog 292 zkX:=eD 33 (pc fD (pc ST (pc zmN pn))) func292 ⟨[],[(0,⟨[],[(2,3),(17,23)],[]⟩)],[(4,⟨[.slot 3 (.v .int)],[(2,2),(17,23)],[]⟩)],[(1,⟨[.slot 13 (.v .bool)],[(4,12)],[]⟩),(8,⟨[.slot 2 (.v .bool)],[(24,32)],[]⟩)],[]⟩ (λx=>Bn x) (by kernel_rfl) IK.ok
def zkg:=rA (lA 1) [.v .Ep] [.v .bool] (λx=>some (KF x)) [(false,1)] [] false
theorem zcY:nA prog 253 zkg:=eD 22 (pc fD (pc zl3 pn)) func253 ⟨[],[],[],[(1,⟨[.slot 2 (.v .bool)],[(3,21)],[]⟩)],[]⟩ (λx=>Fv x) (by kernel_rfl) nP.ok
def zj8:=rA (lA 1) [.v .Chan] [.v .bool] (λx=>vQ x) [(false,1)] [] false
theorem zm2:nA prog 254 zj8:=eC 42 (pc fD (pc zcN (pc zcY pn))) func254 ⟨[],[],[],[(2,⟨[.slot 2 (.v .bool)],[(6,14)],[]⟩),(3,⟨[.slot 28 (.v .bool)],[(15,27)],[]⟩),(5,⟨[.slot 2 (.v .bool)],[(29,41)],[]⟩)],[]⟩ (λx=>Bp x) (by kernel_rfl) GK.ok
def zjD:=rA (lA 1) [.v .Chan] [.v .bool] (λx=>tF x) [(false,1)] [] false
theorem OT:nA prog 200 zjD:=eC 45 (pc mJ (pc zmO (pc zcY (pc zm2 pn)))) func200 ⟨[],[],[],[(1,⟨[.slot 23 (.v .bool)],[(3,22)],[]⟩),(3,⟨[.slot 2 (.v .bool)],[(24,44)],[]⟩)],[]⟩ (λx=>Bq x) (by kernel_rfl) kK.ok
def zjP:=rA (lA 1) [.v .Addr] [.v .bool] (λx=>some (WB x)) [(false,1)] [] false
theorem PT:nA prog 194 zjP:=eD 11 (pc fD pn) func194 ⟨[],[],[],[(1,⟨[.slot 2 (.v .bool)],[(3,10)],[]⟩)],[]⟩ (λx=>Fz x) (by kernel_rfl) EO.ok
def zku:=rA (lA 1) [.v .Paths] [.v .bool] (λx=>some (bG x)) [(false,1)] [] false
theorem zmn:nA prog 249 zku:=eD 64 (pc fD (pc mJ (pc PT pn))) func249 ⟨[],[(0,⟨[],[(2,4),(6,6),(20,63)],[]⟩),(2,⟨[],[(2,2),(6,6),(53,62)],[]⟩)],[(4,⟨[.slot 20 (.v .int)],[(2,4),(6,6),(21,63)],[]⟩),(9,⟨[.slot 53 (.v .int)],[(2,2),(6,6),(54,62)],[]⟩)],[(1,⟨[.slot 16 (.v .bool)],[(7,15)],[]⟩),(6,⟨[.slot 47 (.v .bool)],[(25,46)],[]⟩)],[]⟩ (λx=>Ci x) (by kernel_rfl) VJ.ok
def zkG:=rA (lA 1) [.v .Sess] [.v .bool] (λx=>JG x) [(false,1)] [] false
theorem zlC:nA prog 193 zkG:=eC 76 (pc fD (pc ON (pc mJ (pc zcS (pc OT (pc zmn pn)))))) func193 ⟨[],[],[],[(1,⟨[.slot 24 (.v .bool)],[(3,23)],[]⟩),(4,⟨[.slot 2 (.v .bool)],[(27,48)],[]⟩),(5,⟨[.slot 2 (.v .bool)],[(49,75)],[]⟩)],[]⟩ (λx=>Cj x) (by kernel_rfl) rK.ok
def zk0:=rA (lA 2) [.v .Tab, .sl .byte] [.v .int] (λx=>HG x.1 x.2) [(false,1)] [] false
theorem zlQ:nA prog 158 zk0:=eC 21 (pc ON pn) func158 ⟨[],[(0,⟨[],[(4,6),(10,20)],[]⟩)],[(2,⟨[.slot 10 (.v .int)],[(4,6),(11,20)],[]⟩)],[],[]⟩ (u2 Gm) (by kernel_rfl) zO.ok
def zja:=rA (lA 1) [.v .Tab] [.v .bool] (λx=>bJ x) [(false,1)] [] false
theorem zlO:nA prog 136 zja:=eC 42 (pc fD (pc zlQ (pc zlF (pc zlC pn)))) func136 ⟨[],[(0,⟨[],[(2,4),(25,41)],[]⟩)],[(4,⟨[.slot 25 (.v .int)],[(2,4),(26,41)],[]⟩)],[(1,⟨[.slot 21 (.v .bool)],[(5,20)],[]⟩),(6,⟨[.slot 40 (.v .bool)],[(30,39)],[]⟩)],[]⟩ (λx=>Ck x) (by kernel_rfl) DK.ok
def zkL:=rA (lA 2) [.sl .Credit, .v .Addr] [.v .int] (λx=>some (UN x.1 x.2)) [(false,1)] [] false
theorem zmb:nA prog 195 zkL:=eD 20 pn func195 ⟨[],[(0,⟨[],[(4,6),(9,19)],[]⟩)],[(2,⟨[.slot 9 (.v .int)],[(4,6),(10,19)],[]⟩)],[],[]⟩ (u2 Gn) (by kernel_rfl) fO.ok
def zk3:=rA (lA 1) [.sl .Credit] [.v .bool] (λx=>some (pF x)) [(false,1)] [] false
theorem zmy:nA prog 137 zk3:=eD 43 (pc fD (pc PT (pc zmb pn))) func137 ⟨[],[(0,⟨[],[(2,4),(10,42)],[]⟩)],[(4,⟨[.slot 10 (.v .int)],[(2,4),(11,42)],[]⟩)],[(6,⟨[.slot 41 (.v .bool)],[(15,40)],[]⟩)],[]⟩ (λx=>Cl x) (by kernel_rfl) CJ.ok
def zkZ:=rA (lA 1) [.sl .byte] [.v .bool] (λx=>some (nE x)) [(false,1)] [] false
theorem zcQ:nA prog 138 zkZ:=eD 6 (pc fD pn) func138 a0 (λx=>Gp x) (by kernel_rfl) QO.ok
def zlB:=rA (lA 1) [.v .Server] [.v .bool] (λx=>jE x) [(false,1)] [] false
theorem c65:nA prog 65 zlB:=eC 62 (pc fD (pc zmt (pc zcW (pc zlO (pc zmy (pc zcQ pn)))))) func65 ⟨[],[(0,⟨[],[(2,2),(4,4),(39,46)],[]⟩),(2,⟨[],[(2,2),(6,6),(51,61)],[]⟩)],[(4,⟨[.slot 39 (.v .int)],[(2,2),(4,4),(40,46)],[]⟩),(10,⟨[.slot 51 (.v .int)],[(2,2),(6,6),(52,61)],[]⟩)],[(1,⟨[.slot 35 (.v .bool)],[(7,34)],[]⟩)],[]⟩ (λx=>Cm x) (by kernel_rfl) NJ.ok
def zmT:=rA (lA 3) [.sl .bs, .sl .byte, .v .int] [.v .Server] (λx=>IH x.1 x.2.1 x.2.2) [(true,7)] [0,1,2,5,6,256,261] false
theorem c64:nA prog 64 zmT:=eC 29 (pc c65 (pc zlv (pc zmA (pc zly (pc zlg pn))))) func64 a0 (u3 Et) (by kernel_rfl) dM.ok
def zlJ:=rA (lA 1) [.v .int] [.v .Addr] (λx=>some (KD x)) [(true,2)] [] false
theorem c68:nA prog 68 zlJ:=eD 12 (pc fD pn) func68 a0 (λx=>Gb x) (by kernel_rfl) xP.ok
def zi5:=rA (lA 2) [.v .Frame, .v .Frame] [.v .bool] (λx=>II x.1 x.2) [(false,1)] [] false
theorem zcZ:nA prog 196 zi5:=eC 80 (pc ON pn) func196 ⟨[],[],[],[(1,⟨[.slot 4 (.v .bool)],[(5,79)],[]⟩)],[]⟩ (u2 Co) (by kernel_rfl) yJ.ok
def zkI:=rA (lA 1) [.v .Timer] [.v .bool] (λx=>some (IG x)) [(false,1)] [] false
theorem zmF:nA prog 198 zkI:=eD 39 (pc fD pn) func198 ⟨[],[],[],[(3,⟨[.slot 3 (.v .bool)],[(10,27)],[]⟩),(4,⟨[.slot 2 (.v .bool)],[(28,38)],[]⟩)],[]⟩ (λx=>Cp x) (by kernel_rfl) ZJ.ok
def zi6:=rA (lA 1) [.v .int] [.v .bool] (λx=>some (YE x)) [(false,1)] [] false
theorem zls:nA prog 290 zi6:=eD 5 (pc fD pn) func290 a0 (λx=>Gq x) (by kernel_rfl) CO.ok
def zke:=rA (lA 2) [.v .int, .v .int] [.v .bool] (λx=>some (yN x.1 x.2)) [(false,1)] [] false
theorem zlS:nA prog 291 zke:=eD 17 pn func291 ⟨[(655366,⟨[.slot 10 (.v .bool)],[(12,12)],[]⟩)],[],[],[],[]⟩ (u2 Em) (by kernel_rfl) AM.ok
def zje:=rA (lA 1) [.v .Frame] [.v .bool] (λx=>EP x) [(false,1)] [] false
theorem zlU:nA prog 251 zje:=eC 165 (pc fD (pc mJ (pc zcZ (pc zls (pc zlS pn))))) func251 ⟨[(524293,⟨[.slot 4 (.v .bool), .box 3 .Frame []],[(12,158)],[]⟩),(1703944,⟨[.slot 4 (.v .bool), .box 3 .Frame []],[(30,158)],[]⟩),(3997707,⟨[.slot 4 (.v .bool), .box 3 .Frame []],[(65,158)],[]⟩),(7405582,⟨[.slot 4 (.v .bool), .box 3 .Frame [2,5,6]],[(117,158)],[]⟩)],[],[],[(5,⟨[.slot 4 (.v .bool)],[(18,25)],[]⟩),(8,⟨[.slot 4 (.v .bool)],[(42,60)],[]⟩),(11,⟨[.slot 4 (.v .bool)],[(83,112)],[]⟩),(14,⟨[.slot 4 (.v .bool)],[(132,158)],[]⟩),(15,⟨[.slot 2 (.v .bool)],[(159,164)],[]⟩)],[]⟩ (λx=>Cq x) (by kernel_rfl) SJ.ok
def zj4:=rA (lA 1) [.v .Client] [.v .bool] (λx=>sP x) [(false,1)] [] false
theorem zma:nA prog 199 zj4:=eC 74 (pc ON (pc mJ (pc OT (pc zlU pn)))) func199 ⟨[],[],[],[(1,⟨[.slot 35 (.v .bool)],[(3,34)],[]⟩),(3,⟨[.slot 2 (.v .bool)],[(36,73)],[]⟩)],[]⟩ (λx=>Cs x) (by kernel_rfl) RJ.ok
def zjS:=rA (lA 1) [.v .Client] [.v .bool] (λx=>UM x) [(false,1)] [] false
theorem zmX:nA prog 139 zjS:=eC 161 (pc fD (pc zcQ (pc mJ (pc PT (pc zcZ (pc zcS (pc zmF (pc zma (pc OT pn))))))))) func139 ⟨[],[],[],[(1,⟨[.slot 20 (.v .bool)],[(5,19)],[]⟩),(7,⟨[.slot 2 (.v .bool)],[(33,58)],[]⟩),(9,⟨[.slot 2 (.v .bool)],[(61,92)],[]⟩),(11,⟨[.slot 2 (.v .bool)],[(95,117)],[]⟩),(13,⟨[.slot 2 (.v .bool)],[(120,160)],[]⟩)],[]⟩ (λx=>Ct x) (by kernel_rfl) QJ.ok
def zlw:=rA (lA 3) [.v .int, .sl .byte, .v .Addr] [.v .Client] (λx=>JE x.1 x.2.1 x.2.2) [(true,41)] [1,5,8,9,11,12,15,16,18,20,23,25,28,31] false
theorem c67:nA prog 67 zlw:=eC 18 (pc AH (pc zmX pn)) func67 a0 (u3 Eu) (by kernel_rfl) fM.ok
def zlp:=rA (lA 1) [.sl .byte] [.v .Note] (λx=>WG x) [(true,12)] [3,4,7,8] false
theorem c69:nA prog 69 zlp:=eC 6 (pc AH pn) func69 a0 (λx=>Ew x) (by kernel_rfl) oM.ok
def zmd:=rA (lA 4) [.sl .byte, .sl .byte, .sl .byte, .v .int] [.v .World] (λx=>NH x.1 x.2.1 x.2.2.1 x.2.2.2) [(true,14)] [1,2,3,4,7,8,9,11,12,13,257,258,263,267,268,269] false
theorem cU:nA prog 19 zmd:=eC 57 (pc c64 (pc c65 (pc VN (pc c67 (pc c68 (pc c69 (pc c70 (pc AH pn)))))))) func19 ⟨[(1835015,⟨[.own 10 .byte],[(29,33)],[]⟩)],[],[],[],[]⟩ (u4 Ey) (by kernel_rfl) qM.ok
def zmx:=rA (lA 2) [.sl .byte, .sl .byte] [.v .bool] (λx=>some ((λ(a0:List UInt8) (a1:List UInt8)=>qA a0 a1) x.1 x.2)) [(false,1)] [] false
theorem SE:nA prog 20 zmx:=eD 26 pn func20 ⟨[],[(0,⟨[],[(4,5),(11,25)],[]⟩)],[(4,⟨[.slot 5 (.v .int)],[(4,4),(11,25)],[]⟩)],[],[]⟩ (u2 Fn) (by kernel_rfl) nO.ok
def zjt:=rA (lA 2) [.v .Addr, .v .Addr] [.v .bool] (λx=>some ((λ(a0:Af) (a1:Af)=>qA a0 a1) x.1 x.2)) [(false,1)] [] false
theorem PL:nA prog 109 zjt:=eD 15 pn func109 a0 (u2 Bi) (by kernel_rfl) uK.ok
def zjq:=rA (lA 2) [.v .Frame, .v .Frame] [.v .bool] (λx=>some ((λ(a0:Ac) (a1:Ac)=>qA a0 a1) x.1 x.2)) [(false,1)] [] false
theorem zlT:nA prog 177 zjq:=eD 66 (pc SE pn) func177 a0 (u2 Bu) (by kernel_rfl) cK.ok
def zkP:=rA (lA 2) [.sl .int, .sl .int] [.v .bool] (λx=>some ((λ(a0:List Int) (a1:List Int)=>qA a0 a1) x.1 x.2)) [(false,1)] [] false
theorem zmQ:nA prog 311 zkP:=eD 26 pn func311 ⟨[],[(0,⟨[],[(4,5),(11,25)],[]⟩)],[(4,⟨[.slot 5 (.v .int)],[(4,4),(11,25)],[]⟩)],[],[]⟩ (u2 Fx) (by kernel_rfl) xO.ok
def zks:=rA (lA 2) [.v .Win, .v .Win] [.v .bool] (λx=>some ((λ(a0:Al) (a1:Al)=>qA a0 a1) x.1 x.2)) [(false,1)] [] false
theorem zlt:nA prog 283 zks:=eD 16 (pc zmQ pn) func283 a0 (u2 Br) (by kernel_rfl) HK.ok
def zjA:=rA (lA 2) [.v .Ep, .v .Ep] [.v .bool] (λx=>some ((λ(a0:Aq) (a1:Aq)=>qA a0 a1) x.1 x.2)) [(false,1)] [] false
theorem zmr:nA prog 238 zjA:=eD 27 (pc SE (pc zlt pn)) func238 a0 (u2 Bs) (by kernel_rfl) WK.ok
def zjK:=rA (lA 2) [.v .Chan, .v .Chan] [.v .bool] (λx=>some ((λ(a0:Ah) (a1:Ah)=>qA a0 a1) x.1 x.2)) [(false,1)] [] false
theorem zc3:nA prog 178 zjK:=eD 44 (pc SE (pc zmr pn)) func178 a0 (u2 Bt) (by kernel_rfl) mK.ok
def zjW:=rA (lA 2) [.v .Timer, .v .Timer] [.v .bool] (λx=>some ((λ(a0:Aj) (a1:Aj)=>qA a0 a1) x.1 x.2)) [(false,1)] [] false
theorem zlH:nA prog 179 zjW:=eD 25 pn func179 a0 (u2 Bv) (by kernel_rfl) bK.ok
def zjT:=rA (lA 2) [.v .Client, .v .Client] [.v .bool] (λx=>some ((λ(a0:Ab) (a1:Ab)=>qA a0 a1) x.1 x.2)) [(false,1)] [] false
theorem zl2:nA prog 104 zjT:=eD 62 (pc SE (pc PL (pc zlT (pc zc3 (pc zlH pn))))) func104 a0 (u2 Bw) (by kernel_rfl) HJ.ok
def zm6:=rA (lA 2) [.sl .Client, .sl .Client] [.v .bool] (λx=>some ((λ(a0:List Ab) (a1:List Ab)=>qA a0 a1) x.1 x.2)) [(false,1)] [] false
theorem c41:nA prog 41 zm6:=eD 27 (pc zl2 pn) func41 ⟨[],[(0,⟨[],[(4,5),(11,26)],[]⟩)],[(4,⟨[.slot 5 (.v .int)],[(4,4),(11,26)],[]⟩)],[],[]⟩ (u2 Gc) (by kernel_rfl) XN.ok
def zln:=rA (lA 2) [.sl .bs, .sl .bs] [.v .bool] (λx=>some ((λ(a0:List (List UInt8)) (a1:List (List UInt8))=>qA a0 a1) x.1 x.2)) [(false,1)] [] false
theorem c44:nA prog 44 zln:=eD 27 (pc SE pn) func44 ⟨[],[(0,⟨[],[(4,5),(11,26)],[]⟩)],[(4,⟨[.slot 5 (.v .int)],[(4,4),(11,26)],[]⟩)],[],[]⟩ (u2 Gd) (by kernel_rfl) eO.ok
def zjR:=rA (lA 2) [.v .Jar, .v .Jar] [.v .bool] (λx=>some ((λ(a0:Ap) (a1:Ap)=>qA a0 a1) x.1 x.2)) [(false,1)] [] false
theorem zmu:nA prog 105 zjR:=eD 11 (pc SE pn) func105 a0 (u2 Bx) (by kernel_rfl) AK.ok
def zmq:=rA (lA 2) [.v .Dice, .v .Dice] [.v .bool] (λx=>some ((λ(a0:Ae) (a1:Ae)=>qA a0 a1) x.1 x.2)) [(false,1)] [] false
theorem c43:nA prog 43 zmq:=eD 16 (pc SE pn) func43 a0 (u2 By) (by kernel_rfl) jK.ok
def zko:=rA (lA 2) [.v .Cand, .v .Cand] [.v .bool] (λx=>some ((λ(a0:Ar) (a1:Ar)=>qA a0 a1) x.1 x.2)) [(false,1)] [] false
theorem zl8:nA prog 322 zko:=eD 22 (pc SE (pc PL pn)) func322 a0 (u2 Bz) (by kernel_rfl) vK.ok
def zky:=rA (lA 2) [.sl .Cand, .sl .Cand] [.v .bool] (λx=>some ((λ(a0:List Ar) (a1:List Ar)=>qA a0 a1) x.1 x.2)) [(false,1)] [] false
theorem zmf:nA prog 312 zky:=eD 27 (pc zl8 pn) func312 ⟨[],[(0,⟨[],[(4,5),(11,26)],[]⟩)],[(4,⟨[.slot 5 (.v .int)],[(4,4),(11,26)],[]⟩)],[],[]⟩ (u2 Ge) (by kernel_rfl) mO.ok
def zjp:=rA (lA 2) [.v .Paths, .v .Paths] [.v .bool] (λx=>some ((λ(a0:Ao) (a1:Ao)=>qA a0 a1) x.1 x.2)) [(false,1)] [] false
theorem zlo:nA prog 284 zjp:=eD 17 (pc PL (pc zmf pn)) func284 a0 (u2 Ca) (by kernel_rfl) aK.ok
def zkr:=rA (lA 2) [.v .Sess, .v .Sess] [.v .bool] (λx=>some ((λ(a0:Am) (a1:Am)=>qA a0 a1) x.1 x.2)) [(false,1)] [] false
theorem zl9:nA prog 239 zkr:=eD 49 (pc SE (pc zc3 (pc zlo pn))) func239 a0 (u2 Cb) (by kernel_rfl) qK.ok
def zjk:=rA (lA 2) [.sl .Sess, .sl .Sess] [.v .bool] (λx=>some ((λ(a0:List Am) (a1:List Am)=>qA a0 a1) x.1 x.2)) [(false,1)] [] false
theorem zla:nA prog 180 zjk:=eD 27 (pc zl9 pn) func180 ⟨[],[(0,⟨[],[(4,5),(11,26)],[]⟩)],[(4,⟨[.slot 5 (.v .int)],[(4,4),(11,26)],[]⟩)],[],[]⟩ (u2 Gf) (by kernel_rfl) qO.ok
def zkF:=rA (lA 2) [.v .Tab, .v .Tab] [.v .bool] (λx=>some ((λ(a0:Ai) (a1:Ai)=>qA a0 a1) x.1 x.2)) [(false,1)] [] false
theorem zms:nA prog 106 zkF:=eD 16 (pc zla pn) func106 a0 (u2 Cc) (by kernel_rfl) CK.ok
def zjB:=rA (lA 2) [.v .Credit, .v .Credit] [.v .bool] (λx=>some ((λ(a0:Ad) (a1:Ad)=>qA a0 a1) x.1 x.2)) [(false,1)] [] false
theorem zlE:nA prog 181 zjB:=eD 21 (pc PL pn) func181 a0 (u2 Cd) (by kernel_rfl) IJ.ok
def zkM:=rA (lA 2) [.sl .Credit, .sl .Credit] [.v .bool] (λx=>some ((λ(a0:List Ad) (a1:List Ad)=>qA a0 a1) x.1 x.2)) [(false,1)] [] false
theorem zlZ:nA prog 107 zkM:=eD 27 (pc zlE pn) func107 ⟨[],[(0,⟨[],[(4,5),(11,26)],[]⟩)],[(4,⟨[.slot 5 (.v .int)],[(4,4),(11,26)],[]⟩)],[],[]⟩ (u2 Gg) (by kernel_rfl) YN.ok
def zmE:=rA (lA 2) [.v .Server, .v .Server] [.v .bool] (λx=>some ((λ(a0:Aa) (a1:Aa)=>qA a0 a1) x.1 x.2)) [(false,1)] [] false
theorem c42:nA prog 42 zmE:=eD 35 (pc c43 (pc c44 (pc zmu (pc zms (pc zlZ pn))))) func42 a0 (u2 Ce) (by kernel_rfl) PJ.ok
def zk9:=rA (lA 2) [.v .Wire, .v .Wire] [.v .bool] (λx=>some ((λ(a0:As) (a1:As)=>qA a0 a1) x.1 x.2)) [(false,1)] [] false
theorem c46:nA prog 46 zk9:=eD 23 (pc SE (pc PL pn)) func46 a0 (u2 Cf) (by kernel_rfl) yK.ok
def zk8:=rA (lA 2) [.sl .Wire, .sl .Wire] [.v .bool] (λx=>some ((λ(a0:List As) (a1:List As)=>qA a0 a1) x.1 x.2)) [(false,1)] [] false
theorem SN:nA prog 13 zk8:=eD 27 (pc c46 pn) func13 ⟨[],[(0,⟨[],[(4,5),(11,26)],[]⟩)],[(4,⟨[.slot 5 (.v .int)],[(4,4),(11,26)],[]⟩)],[],[]⟩ (u2 Gh) (by kernel_rfl) pO.ok
def zkd:=rA (lA 2) [.v .Note, .v .Note] [.v .bool] (λx=>some ((λ(a0:Ak) (a1:Ak)=>qA a0 a1) x.1 x.2)) [(false,1)] [] false
theorem zlK:nA prog 108 zkd:=eD 65 (pc SE (pc PL pn)) func108 a0 (u2 Bj) (by kernel_rfl) tK.ok
def zmV:=rA (lA 2) [.sl .Note, .sl .Note] [.v .bool] (λx=>some ((λ(a0:List Ak) (a1:List Ak)=>qA a0 a1) x.1 x.2)) [(false,1)] [] false
theorem c45:nA prog 45 zmV:=eD 27 (pc zlK pn) func45 ⟨[],[(0,⟨[],[(4,5),(11,26)],[]⟩)],[(4,⟨[.slot 5 (.v .int)],[(4,4),(11,26)],[]⟩)],[],[]⟩ (u2 Fq) (by kernel_rfl) gO.ok
def zk7:=rA (lA 2) [.v .World, .v .World] [.v .bool] (λx=>some ((λ(a0:Ag) (a1:Ag)=>qA a0 a1) x.1 x.2)) [(false,1)] [] false
theorem XL:nA prog 12 zk7:=eD 46 (pc SN (pc c41 (pc c42 (pc c43 (pc c44 (pc c45 pn)))))) func12 a0 (u2 Cg) (by kernel_rfl) UJ.ok
theorem CH:RC prog 21 ⟨.sl .byte,wC .byte⟩ IB:=eM 20 mn func21 [] (by kernel_rfl)
theorem zc9:RC prog 110 ⟨.sl .int,wC .int⟩ IB:=eM 19 mn func110 [] (by kernel_rfl)
theorem k47:RC prog 47 ⟨.sl .Client,wC .Client⟩ IB:=eM 356 (mc CH (mc zc9 mn)) func47 [(6,4),(13,4),(18,5),(19,5),(22,5),(23,5),(28,5),(29,5),(32,5),(35,6),(40,7),(43,6),(48,7),(53,5)] (by kernel_rfl)
theorem k50:RC prog 50 ⟨.sl .bs,wC .bs⟩ IB:=eM 19 (mc CH mn) func50 [(4,3)] (by kernel_rfl)
theorem zlb:RC prog 111 ⟨.st .Jar,gE.F⟩ IB:=eS (t:= .Jar) 10 (mc CH mn) func111 [(0,0),(1,1)] (λu x k=>Aw x k λz k=>some (z,k,u)) (by kernel_rfl) gE.F gE.nat
theorem k49:RC prog 49 ⟨.st .Dice,ND.F⟩ IB:=eS (t:= .Dice) 10 (mc CH mn) func49 [(0,0),(1,1)] (λu x k=>Ax x k λz k=>some (z,k,u)) (by kernel_rfl) ND.F ND.nat
theorem zm1:RC prog 240 ⟨.sl .Cand,wC .Cand⟩ IB:=eM 43 (mc CH mn) func240 [(8,4)] (by kernel_rfl)
theorem zme:RC prog 182 ⟨.sl .Sess,wC .Sess⟩ IB:=eM 219 (mc CH (mc zc9 (mc zm1 mn))) func182 [(6,4),(7,4),(10,5),(13,6),(18,7),(21,6),(26,7),(31,5),(36,5)] (by kernel_rfl)
theorem zlc:RC prog 112 ⟨.st .Tab,iE.F⟩ IB:=eS (t:= .Tab) 10 (mc zme mn) func112 [(0,0),(1,1)] (λu x k=>Ay x k λz k=>some (z,k,u)) (by kernel_rfl) iE.F iE.nat
theorem zm3:RC prog 113 ⟨.sl .Credit,wC .Credit⟩ IB:=eM 43 mn func113 [] (by kernel_rfl)
theorem k48:RC prog 48 ⟨.st .Server,eE.F⟩ IB:=eS (t:= .Server) 26 (mc k49 (mc k50 (mc zlb (mc zlc (mc zm3 mn))))) func48 [(0,0),(1,1),(2,1),(3,1),(4,1),(5,1)] (λu x k=>Az x k λz k=>some (z,k,u)) (by kernel_rfl) eE.F eE.nat
theorem DH:RC prog 15 ⟨.sl .Wire,wC .Wire⟩ IB:=eM 52 (mc CH mn) func15 [(12,4)] (by kernel_rfl)
theorem k51:RC prog 51 ⟨.sl .Note,wC .Note⟩ IB:=eM 99 (mc CH mn) func51 [(10,4),(11,4),(16,4),(17,4)] (by kernel_rfl)
theorem TE:RC prog 14 ⟨.st .World,fE.F⟩ IB:=eS (t:= .World) 30 (mc DH (mc k47 (mc k48 (mc k49 (mc k50 (mc k51 mn)))))) func14 [(0,0),(1,1),(2,1),(3,1),(4,1),(5,1),(6,1)] (λu x k=>Ba x k λz k=>some (z,k,u)) (by kernel_rfl) fE.F fE.nat
def zmG:=rA (lA 2) [.sl .byte, .v .int] [.v .int] (λx=>WC .byte x.1 x.2) [(false,1)] [] false
theorem AI:nA prog 78 zmG:=eC 22 pn func78 ⟨[],[(0,⟨[.slot 1 (.v .int)],[(4,20)],[]⟩)],[(2,⟨[.slot 1 (.v .int), .slot 5 (.v .int)],[(4,4),(6,20)],[]⟩)],[],[]⟩ (u2 (EF .byte)) (by kernel_rfl) λhb _ h=>pH rfl h
def zkJ:=rA (lA 2) [.sl .int, .v .int] [.v .int] (λx=>WC .int x.1 x.2) [(false,1)] [] false
theorem zcV:nA prog 114 zkJ:=eC 21 pn func114 ⟨[],[(0,⟨[.slot 1 (.v .int)],[(4,19)],[]⟩)],[(2,⟨[.slot 1 (.v .int), .slot 5 (.v .int)],[(4,4),(6,19)],[]⟩)],[],[]⟩ (u2 (EF .int)) (by kernel_rfl) λhb _ h=>pH rfl h
def zmL:=rA (lA 2) [.sl .Client, .v .int] [.v .int] (λx=>WC .Client x.1 x.2) [(false,1)] [] false
theorem c52:nA prog 52 zmL:=eC 438 (pc AI (pc zcV pn)) func52 ⟨[],[(0,⟨[.slot 1 (.v .int)],[(4,436)],[]⟩)],[(2,⟨[.slot 1 (.v .int), .slot 5 (.v .int)],[(4,4),(6,436)],[]⟩)],[],[]⟩ (u2 (EF .Client)) (by kernel_rfl) λhb _ h=>pH rfl h
def zlf:=rA (lA 2) [.sl .bs, .v .int] [.v .int] (λx=>WC .bs x.1 x.2) [(false,1)] [] false
theorem c55:nA prog 55 zlf:=eC 21 (pc AI pn) func55 ⟨[],[(0,⟨[.slot 1 (.v .int)],[(4,19)],[]⟩)],[(2,⟨[.slot 1 (.v .int), .slot 5 (.v .int)],[(4,4),(6,19)],[]⟩)],[],[]⟩ (u2 (EF .bs)) (by kernel_rfl) λhb _ h=>pH rfl h
def zjE:=rA (lA 2) [.v .Jar, .v .int] [.v .int] (u2 Ef) [(false,1)] [] false
theorem zmv:nA prog 115 zjE:=eR 12 (pc AI pn) func115 a0 (by kernel_rfl)
def zmo:=rA (lA 2) [.v .Dice, .v .int] [.v .int] (u2 Bf) [(false,1)] [] false
theorem c54:nA prog 54 zmo:=eR 12 (pc AI pn) func54 a0 (by kernel_rfl)
def zkB:=rA (lA 2) [.sl .Cand, .v .int] [.v .int] (λx=>WC .Cand x.1 x.2) [(false,1)] [] false
theorem zmW:nA prog 241 zkB:=eC 51 (pc AI pn) func241 ⟨[],[(0,⟨[.slot 1 (.v .int)],[(4,49)],[]⟩)],[(2,⟨[.slot 1 (.v .int), .slot 5 (.v .int)],[(4,4),(6,49)],[]⟩)],[],[]⟩ (u2 (EF .Cand)) (by kernel_rfl) λhb _ h=>pH rfl h
def zjf:=rA (lA 2) [.sl .Sess, .v .int] [.v .int] (λx=>WC .Sess x.1 x.2) [(false,1)] [] false
theorem zlP:nA prog 183 zjf:=eC 267 (pc AI (pc zcV (pc zmW pn))) func183 ⟨[],[(0,⟨[.slot 1 (.v .int)],[(4,265)],[]⟩)],[(2,⟨[.slot 1 (.v .int), .slot 5 (.v .int)],[(4,4),(6,265)],[]⟩)],[],[]⟩ (u2 (EF .Sess)) (by kernel_rfl) λhb _ h=>pH rfl h
def zkj:=rA (lA 2) [.v .Tab, .v .int] [.v .int] (u2 Eg) [(false,1)] [] false
theorem zm7:nA prog 116 zkj:=eR 12 (pc zlP pn) func116 a0 (by kernel_rfl)
def zjg:=rA (lA 2) [.sl .Credit, .v .int] [.v .int] (λx=>WC .Credit x.1 x.2) [(false,1)] [] false
theorem zli:nA prog 117 zjg:=eC 51 pn func117 ⟨[],[(0,⟨[.slot 1 (.v .int)],[(4,49)],[]⟩)],[(2,⟨[.slot 1 (.v .int), .slot 5 (.v .int)],[(4,4),(6,49)],[]⟩)],[],[]⟩ (u2 (EF .Credit)) (by kernel_rfl) λhb _ h=>pH rfl h
def zmJ:=rA (lA 2) [.v .Server, .v .int] [.v .int] (u2 Eh) [(false,1)] [] false
theorem c53:nA prog 53 zmJ:=eR 36 (pc c54 (pc c55 (pc zmv (pc zm7 (pc zli pn))))) func53 a0 (by kernel_rfl)
def zlY:=rA (lA 2) [.sl .Wire, .v .int] [.v .int] (λx=>WC .Wire x.1 x.2) [(false,1)] [] false
theorem c24:nA prog 24 zlY:=eC 62 (pc AI pn) func24 ⟨[],[(0,⟨[.slot 1 (.v .int)],[(4,60)],[]⟩)],[(2,⟨[.slot 1 (.v .int), .slot 5 (.v .int)],[(4,4),(6,60)],[]⟩)],[],[]⟩ (u2 (EF .Wire)) (by kernel_rfl) λhb _ h=>pH rfl h
def zm0:=rA (lA 2) [.sl .Note, .v .int] [.v .int] (λx=>WC .Note x.1 x.2) [(false,1)] [] false
theorem c56:nA prog 56 zm0:=eC 123 (pc AI pn) func56 ⟨[],[(0,⟨[.slot 1 (.v .int)],[(4,121)],[]⟩)],[(2,⟨[.slot 1 (.v .int), .slot 5 (.v .int)],[(4,4),(6,121)],[]⟩)],[],[]⟩ (u2 (EF .Note)) (by kernel_rfl) λhb _ h=>pH rfl h
def zlq:=rA (lA 2) [.v .World, .v .int] [.v .int] (u2 Bg) [(false,1)] [] false
theorem aU:nA prog 16 zlq:=eR 42 (pc c24 (pc c52 (pc c53 (pc c54 (pc c55 (pc c56 pn)))))) func16 a0 (by kernel_rfl)
def ci4:=rA (lA 4) [.sl .byte, .sl .byte, .sl .byte, .v .int] [.v .bool] (λx=>some (bT x.1 x.2.1 x.2.2.1 x.2.2.2)) [(false,1)] [] false
theorem c4:nA prog 4 ci4:=eL 113 (pc XL (pc aU (pc jU (pc gU (pc cU (pc SE pn)))))) (mc TE (mc CH mn)) func4 [(21,1),(22,1),(23,1),(27,1)] [(8,[(10,false)]),(9,[(11,false)]),(10,[(12,false)]),(11,[(13,true)]),(34,[(17,true)])] [(7,[9])] (u4 Fj) (by kernel_rfl) ZL.ok
end
end Go.D

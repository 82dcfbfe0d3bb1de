/-
 The functions of the program: each computes what is said of it.
-/
import Derived.Test.YtkpkommmdacjlaaGreatN20
import Derived.Test.YtkpkommmdacjlaaGreatN11
import Derived.Test.YtkpkommmdacjlaaGreatL0
import Derived.Test.YtkpkommmdacjlaaGreatProg
import Derived.KernelRfl
set_option linter.all false
namespace Go.D
open Go.Proofs
open Tryz
noncomputable section
def aU:TypeId→Option TN:=λt=>JA t [(3, .int),(5, .byte),(24, .bs),(79, .Wire),(84, .Wire),(104, .Frame),(115, .Client),(119, .Note),(141, .Client),(147, .Note),(185, .Sess),(211, .Credit),(214, .Credit),(247, .Sess),(283, .Cand),(309, .Cand)]
theorem tM:Tryz.prog.follows .mixedOrders=true:=by kernel_rfl
def TL:List (TypeId×TN):=[(3, .int),(5, .byte),(24, .bs),(79, .Wire),(84, .Wire),(104, .Frame),(115, .Client),(119, .Note),(141, .Client),(147, .Note),(185, .Sess),(211, .Credit),(214, .Credit),(247, .Sess),(283, .Cand),(309, .Cand)]
theorem qN:pJ prog TL=true:=by kernel_rfl
variable [kH TL]
def a0:An:=⟨[],[],[],[],[]⟩
abbrev u2{A B R:Type}(f:A→B→R):A×B→R:=λx=>f x.1 x.2
abbrev u3{A B C R:Type}(f:A→B→C→R):A×B×C→R:=λx=>f x.1 x.2.1 x.2.2
abbrev u4{A B C D R:Type}(f:A→B→C→D→R):A×B×C×D→R:=λx=>f x.1 x.2.1 x.2.2.1 x.2.2.2
abbrev u5{A B C D E R:Type}(f:A→B→C→D→E→R):A×B×C×D×E→R:=λx=>f x.1 x.2.1 x.2.2.1 x.2.2.2.1 x.2.2.2.2
abbrev u8{A B C D E F G H R:Type}(f:A→B→C→D→E→F→G→H→R):A×B×C×D×E×F×G×H→R:=λx=>f x.1 x.2.1 x.2.2.1 x.2.2.2.1 x.2.2.2.2.1 x.2.2.2.2.2.1 x.2.2.2.2.2.2.1 x.2.2.2.2.2.2.2
def Ph:List (Nat×KB)→Prop
 | []=>True
 | (g,ci) :: l=>oA prog g ci∧Ph l
theorem pn:Ph []:=trivial
theorem pc{g:Nat}{ci:KB}{l:List (Nat×KB)}(h:oA prog g ci)(k:Ph l):Ph ((g,ci) :: l):=⟨h,k⟩
theorem ph{n:Nat}:∀(l:List (Nat×KB)),(l.all λp=>Nat.blt p.1 1048576)=true→Ph l→JC ⟨prog,λt=>JA t TL,λf=>yC f l,n,CB⟩
 | [],_,_=>WO
 | (g,ci) :: l,h,k=>by
  simp only[List.all_cons,Bool.and_eq_true]at h;have hg:g % 1048576=g:=Nat.mod_eq_of_lt (by simpa[Nat.blt_eq]using h.1);exact zcs (by rw[hg];exact k.1) (ph l h.2 k.2)
def SP (n m : Nat) (l : List (Nat × KB)) (fn : Func) (ks : List GA) (ats : List Ty) : Bool := (l.all λp => Nat.blt p.1 1048576) && (fn.body.isSome && !(fn.name == "runtime.NumGoroutine") && Nat.beq n fn.ntmps && RA ks ats && Nat.ble m fn.ntmps)
theorem eC{f:Nat}{fn:Func}{ks:List GA}{ats rts:List Ty}{F:LA ats→Option (LA rts)}{sh:List (Bool×Nat)}{own:List Nat}(n:Nat){l:List (Nat×KB)}
  (hp:Ph l) (hf:prog.funcs[f]?=some fn) (an:An) (Raw:LA ats→Option (LA rts))
  (he:(SP n ks.length l fn ks ats,λx=>IK ⟨prog,λt=>JA t TL,λf=>yC f l,n,CB⟩ fn (fn.body.getD .skip) an ks own sh rts (zA ats x))=(true,Raw))
  (QV:∀{x},rA ats x→∀{r},F x=some r→Raw x=some r):oA prog f (pA ks ats rts F sh own false):=by
 obtain⟨h0,h1⟩:=Prod.mk.inj he;obtain⟨ha,hb⟩:=Bool.and_eq_true_iff.1 h0;exact evC n tM qN (ph l ha hp) hf an Raw hb (λx=>congrFun h1 x) λ_ _ hb h=>QV hb h
theorem eR{f:Nat}{fn:Func}{ks:List GA}{ats rts:List Ty}{F:LA ats→Option (LA rts)}{sh:List (Bool×Nat)}{own:List Nat}(n:Nat){l:List (Nat×KB)}
  (hp:Ph l) (hf:prog.funcs[f]?=some fn) (an:An)
  (he:(SP n ks.length l fn ks ats,λx=>IK ⟨prog,λt=>JA t TL,λf=>yC f l,n,CB⟩ fn (fn.body.getD .skip) an ks own sh rts (zA ats x))=(true,F)):
  oA prog f (pA ks ats rts F sh own false):=eC n hp hf an F he λ_ _ h=>h
theorem mn:XC prog (λf=>JA f []) CB:=zdf
theorem mc{f:Nat}{ki:nC}{l:List (Nat×nC)}(h:BC prog f ki CB)(k:XC prog (λf=>JA f l) CB):XC prog (λk=>JA k ((f,ki) :: l)) CB:=zcr h k
theorem eM{f:Nat}{fn:Func}{t:TN}(n:Nat){l:List (Nat×nC)}(hM:XC prog (λf=>JA f l) CB)(hf:prog.funcs[f]?=some fn)(md:List (Nat×Nat))
  (he : ((fn.body.isSome && !(fn.name == "runtime.NumGoroutine") && Nat.beq n fn.ntmps && Nat.ble 2 fn.ntmps && (lk t).all sH), (fun x k => uJ ⟨prog, fun t => JA t TL, fun f => yC f [], n, CB⟩ (fun f => JA f l) FU fn (fn.body.getD .skip) md t false x k),
   (λk=>uJ ⟨prog,λt=>JA t TL,λf=>yC f [],n,CB⟩ (λf=>JA f l) 1 fn (fn.body.getD .skip) md t true [] k))=(true,AN t,λk=>some ([],k))):BC prog f ⟨.sl t,rC t⟩ CB:=by
 obtain⟨h0,h1⟩:=Prod.mk.inj he;obtain⟨h1,h2⟩:=Prod.mk.inj h1;exact evM n tM qN hM hf md h0 (λx k=>congrFun (congrFun h1 x) k) λk=>congrFun h2 k
theorem eS{f:Nat}{fn:Func}{t:TN}(n:Nat){l:List (Nat×nC)}(hM:XC prog (λf=>JA f l) CB)(hf:prog.funcs[f]?=some fn)(md:List (Nat×Nat))(Raw:Value→El t→Int→Option (El t×Int×Value))
  (he : ((fn.body.isSome && !(fn.name == "runtime.NumGoroutine") && Nat.beq n fn.ntmps && Nat.ble 2 fn.ntmps), (λu x k => BP ⟨prog, λt => JA t TL, λf => yC f [], n, CB⟩ (λf => JA f l) fn (fn.body.getD .skip) md t u x k)) = (true, Raw))
  (F:El t→Int→Option (El t×Int)) (hF:∀u x k r,F x k=some r→Raw u x k=some (r.1,r.2,u)):BC prog f ⟨.st t,F⟩ CB:=by
 obtain⟨h0,h1⟩:=Prod.mk.inj he;exact evS n tM qN hM hf md Raw h0 (λu x k=>congrFun (congrFun (congrFun h1 u) x) k) F hF
theorem eL{f:Nat}{fn:Func}{m:Nat}{ats:List Ty}{G:LA ats→Bool}(n:Nat){l:List (Nat×KB)}{lm:List (Nat×nC)}(hp:Ph l)(hM:XC prog (λf=>JA f lm) CB)(hf:prog.funcs[f]?=some fn)
  (md:List (Nat×Nat)) (tr:List (Nat×List (Nat×Bool))) (fz:List (Nat×List Nat)) (Raw:LA ats→Option Bool)
  (he : ((l.all λp => Nat.blt p.1 1048576), (fn.body.isSome && !(fn.name == "runtime.NumGoroutine") && Nat.beq n fn.ntmps && RA (kA m) ats && wG ats && Nat.ble m fn.ntmps), (λx => zP ⟨prog, λt => JA t TL, λf => yC f l, n, CB⟩ (λf => JA f lm) fn (fn.body.getD .skip) md tr fz (zA ats x))) = (true, true, Raw))
  (QV:∀{x},rA ats x→Raw x=some (G x)):oA prog f (pA (kA m) ats [.v .bool] (λx=>some (G x)) [(false,1)] [] false):=by
 obtain⟨ha,h1⟩:=Prod.mk.inj he;obtain⟨hb,h1⟩:=Prod.mk.inj h1;exact evL n tM qN (ph l ha hp) hM hf md tr fz Raw hb (λx=>congrFun h1 x) λ_ _ hx h=>(QV hx).trans h
theorem eD{f:Nat}{fn:Func}{ks:List GA}{ats rts:List Ty}{G:LA ats→LA rts}{sh:List (Bool×Nat)}{own:List Nat}(n:Nat){l:List (Nat×KB)}
  (hp:Ph l) (hf:prog.funcs[f]?=some fn) (an:An) (Raw:LA ats→Option (LA rts))
  (he:(SP n ks.length l fn ks ats,λx=>IK ⟨prog,λt=>JA t TL,λf=>yC f l,n,CB⟩ fn (fn.body.getD .skip) an ks own sh rts (zA ats x))=(true,Raw))
  (QV:∀{x},rA ats x→Raw x=some (G x)):oA prog f (pA ks ats rts (λx=>some (G x)) sh own false):=eC n hp hf an Raw he λhb _ h=>(QV hb).trans h
def zhi:=pA (kA 2) [.sl .byte, .v .int] [.v .int] (λx=>(λ(a0:List UInt8) (a1:Int)=>vA a0 a1) x.1 x.2) [(false,1)] [] false
theorem iF:oA prog 83 zhi:=eC 12 pn func83 a0 (u2 Eu) (by kernel_rfl) AL.ok
def ze6:=pA (kA 2) [.v .Frame, .v .int] [.v .int] (λx=>(λ(a0:Ai) (a1:Int)=>vA a0 a1) x.1 x.2) [(false,1)] [] false
theorem zga:oA prog 160 ze6:=eC 42 (pc iF pn) func160 a0 (u2 Bu) (by kernel_rfl) WH.ok
def zey:=pA (kA 2) [.sl .int, .v .int] [.v .int] (λx=>(λ(a0:List Int) (a1:Int)=>vA a0 a1) x.1 x.2) [(false,1)] [] false
theorem zho:oA prog 306 zey:=eC 12 pn func306 a0 (u2 Ff) (by kernel_rfl) GL.ok
def ze3:=pA (kA 2) [.v .Win, .v .int] [.v .int] (λx=>(λ(a0:Ap) (a1:Int)=>vA a0 a1) x.1 x.2) [(false,1)] [] false
theorem zgX:oA prog 275 ze3:=eC 12 (pc zho pn) func275 a0 (u2 Bl) (by kernel_rfl) HI.ok
def zfb:=pA (kA 2) [.v .Ep, .v .int] [.v .int] (λx=>(λ(a0:As) (a1:Int)=>vA a0 a1) x.1 x.2) [(false,1)] [] false
theorem zhN:oA prog 229 zfb:=eC 18 (pc iF (pc zgX pn)) func229 a0 (u2 Bm) (by kernel_rfl) QI.ok
def zes:=pA (kA 2) [.v .Chan, .v .int] [.v .int] (λx=>(λ(a0:Al) (a1:Int)=>vA a0 a1) x.1 x.2) [(false,1)] [] false
theorem BT:oA prog 161 zes:=eC 30 (pc iF (pc zhN pn)) func161 a0 (u2 Bn) (by kernel_rfl) wI.ok
def zg2:=pA (kA 2) [.v .Client, .v .int] [.v .int] (λx=>(λ(a0:Ac) (a1:Int)=>vA a0 a1) x.1 x.2) [(false,1)] [] false
theorem c79:oA prog 79 zg2:=eC 30 (pc iF (pc zga (pc BT pn))) func79 a0 (u2 Bv) (by kernel_rfl) CH.ok
def zgM:=pA (kA 2) [.sl .Client, .v .int] [.v .int] (λx=>(λ(a0:List Ac) (a1:Int)=>vA a0 a1) x.1 x.2) [(false,1)] [] false
theorem TT:oA prog 25 zgM:=eC 27 (pc c79 pn) func25 ⟨[],[(0,⟨[.slot 1 (.v .int)],[(4,5),(12,25)],[]⟩)],[(5,⟨[.slot 1 (.v .int), .slot 5 (.v .int)],[(4,4),(12,25)],[]⟩)],[],[]⟩ (u2 Fk) (by kernel_rfl) XK.ok
def zhK:=pA (kA 2) [.sl .bs, .v .int] [.v .int] (λx=>(λ(a0:List (List UInt8)) (a1:Int)=>vA a0 a1) x.1 x.2) [(false,1)] [] false
theorem RP:oA prog 28 zhK:=eC 27 (pc iF pn) func28 ⟨[],[(0,⟨[.slot 1 (.v .int)],[(4,5),(12,25)],[]⟩)],[(5,⟨[.slot 1 (.v .int), .slot 5 (.v .int)],[(4,4),(12,25)],[]⟩)],[],[]⟩ (u2 Fl) (by kernel_rfl) gL.ok
def zgx:=pA (kA 2) [.v .Jar, .v .int] [.v .int] (λx=>(λ(a0:Ao) (a1:Int)=>vA a0 a1) x.1 x.2) [(false,1)] [] false
theorem c80:oA prog 80 zgx:=eC 12 (pc iF pn) func80 a0 (u2 Bw) (by kernel_rfl) EI.ok
def zhE:=pA (kA 2) [.v .Dice, .v .int] [.v .int] (λx=>(λ(a0:Ak) (a1:Int)=>vA a0 a1) x.1 x.2) [(false,1)] [] false
theorem NP:oA prog 27 zhE:=eC 12 (pc iF pn) func27 a0 (u2 Bx) (by kernel_rfl) nI.ok
def zfC:=pA (kA 2) [.v .Cand, .v .int] [.v .int] (λx=>(λ(a0:Aj) (a1:Int)=>vA a0 a1) x.1 x.2) [(false,1)] [] false
theorem zgz:oA prog 320 zfC:=eC 12 (pc iF pn) func320 a0 (u2 By) (by kernel_rfl) tI.ok
def zeR:=pA (kA 2) [.sl .Cand, .v .int] [.v .int] (λx=>(λ(a0:List Aj) (a1:Int)=>vA a0 a1) x.1 x.2) [(false,1)] [] false
theorem zgd:oA prog 307 zeR:=eC 27 (pc zgz pn) func307 ⟨[],[(0,⟨[.slot 1 (.v .int)],[(4,5),(12,25)],[]⟩)],[(5,⟨[.slot 1 (.v .int), .slot 5 (.v .int)],[(4,4),(12,25)],[]⟩)],[],[]⟩ (u2 Fm) (by kernel_rfl) rL.ok
def zeC:=pA (kA 2) [.v .Paths, .v .int] [.v .int] (λx=>(λ(a0:Ah) (a1:Int)=>vA a0 a1) x.1 x.2) [(false,1)] [] false
theorem zha:oA prog 276 zeC:=eC 12 (pc zgd pn) func276 a0 (u2 Bz) (by kernel_rfl) XH.ok
def zfx:=pA (kA 2) [.v .Sess, .v .int] [.v .int] (λx=>(λ(a0:Ag) (a1:Int)=>vA a0 a1) x.1 x.2) [(false,1)] [] false
theorem zhg:oA prog 230 zfx:=eC 30 (pc iF (pc BT (pc zha pn))) func230 a0 (u2 Ca) (by kernel_rfl) qI.ok
def zff:=pA (kA 2) [.sl .Sess, .v .int] [.v .int] (λx=>(λ(a0:List Ag) (a1:Int)=>vA a0 a1) x.1 x.2) [(false,1)] [] false
theorem zgN:oA prog 162 zff:=eC 27 (pc zhg pn) func162 ⟨[],[(0,⟨[.slot 1 (.v .int)],[(4,5),(12,25)],[]⟩)],[(5,⟨[.slot 1 (.v .int), .slot 5 (.v .int)],[(4,4),(12,25)],[]⟩)],[],[]⟩ (u2 Fn) (by kernel_rfl) zL.ok
def zgh:=pA (kA 2) [.v .Tab, .v .int] [.v .int] (λx=>(λ(a0:Am) (a1:Int)=>vA a0 a1) x.1 x.2) [(false,1)] [] false
theorem c81:oA prog 81 zgh:=eC 12 (pc zgN pn) func81 a0 (u2 Cb) (by kernel_rfl) MI.ok
def zg7:=pA (kA 2) [.sl .Credit, .v .int] [.v .int] (λx=>(λ(a0:List Af) (a1:Int)=>vA a0 a1) x.1 x.2) [(false,1)] [] false
theorem c82:oA prog 82 zg7:=eC 12 pn func82 a0 (u2 Fo) (by kernel_rfl) ZK.ok
def zhO:=pA (kA 2) [.v .Server, .v .int] [.v .int] (λx=>(λ(a0:Ad) (a1:Int)=>vA a0 a1) x.1 x.2) [(false,1)] [] false
theorem RT:oA prog 26 zhO:=eC 36 (pc NP (pc RP (pc c80 (pc c81 (pc c82 pn))))) func26 a0 (u2 Cc) (by kernel_rfl) HH.ok
def zhP:=pA (kA 2) [.v .Wire, .v .int] [.v .int] (λx=>(λ(a0:Ab) (a1:Int)=>vA a0 a1) x.1 x.2) [(false,1)] [] false
theorem kU:oA prog 30 zhP:=eC 12 (pc iF pn) func30 a0 (u2 Cd) (by kernel_rfl) fI.ok
def ci7:=pA (kA 2) [.sl .Wire, .v .int] [.v .int] (λx=>(λ(a0:List Ab) (a1:Int)=>vA a0 a1) x.1 x.2) [(false,1)] [] false
theorem c7:oA prog 7 ci7:=eC 27 (pc kU pn) func7 ⟨[],[(0,⟨[.slot 1 (.v .int)],[(4,5),(12,25)],[]⟩)],[(5,⟨[.slot 1 (.v .int), .slot 5 (.v .int)],[(4,4),(12,25)],[]⟩)],[],[]⟩ (u2 Fp) (by kernel_rfl) lL.ok
def zhu:=pA (kA 2) [.v .Note, .v .int] [.v .int] (λx=>(λ(a0:Ae) (a1:Int)=>vA a0 a1) x.1 x.2) [(false,1)] [] false
theorem c84:oA prog 84 zhu:=eC 30 (pc iF pn) func84 a0 (u2 Bh) (by kernel_rfl) cI.ok
def zf5:=pA (kA 2) [.sl .Note, .v .int] [.v .int] (λx=>(λ(a0:List Ae) (a1:Int)=>vA a0 a1) x.1 x.2) [(false,1)] [] false
theorem eU:oA prog 29 zf5:=eC 27 (pc c84 pn) func29 ⟨[],[(0,⟨[.slot 1 (.v .int)],[(4,5),(12,25)],[]⟩)],[(5,⟨[.slot 1 (.v .int), .slot 5 (.v .int)],[(4,4),(12,25)],[]⟩)],[],[]⟩ (u2 Fb) (by kernel_rfl) xL.ok
def ci6:=pA (kA 2) [.v .World, .v .int] [.v .int] (λx=>(λ(a0:Aa) (a1:Int)=>vA a0 a1) x.1 x.2) [(false,1)] [] false
theorem c6:oA prog 6 ci6:=eC 42 (pc c7 (pc TT (pc RT (pc NP (pc RP (pc eU pn)))))) func6 a0 (u2 Ce) (by kernel_rfl) PH.ok
def zgP:=pA (kA 1) [.sl .byte] [.sl .byte] (λx=>(λ(a0:List UInt8)=>eA a0) x) [(false,1)] [0] false
theorem oE:oA prog 18 zgP:=eC 22 pn func18 ⟨[],[(0,⟨[.own 3 .byte],[(4,4),(8,20)],[]⟩)],[(3,⟨[.slot 4 (.v .int), .own 3 .byte],[(8,20)],[]⟩)],[],[]⟩ (λx=>Ew x) (by kernel_rfl) oL.ok
def zgb:=pA (kA 1) [.v .Addr] [.v .Addr] (λx=>(λ(a0:Aq)=>eA a0) x) [(true,2)] [] false
theorem FJ:oA prog 97 zgb:=eC 11 pn func97 a0 (λx=>Fc x) (by kernel_rfl) QL.ok
def zfv:=pA (kA 1) [.v .Frame] [.v .Frame] (λx=>(λ(a0:Ai)=>eA a0) x) [(true,11)] [2,3,5,6,9,10] false
theorem zgk:oA prog 167 zfv:=eC 44 (pc oE pn) func167 a0 (λx=>Cf x) (by kernel_rfl) LH.ok
def zfI:=pA (kA 1) [.sl .int] [.sl .int] (λx=>(λ(a0:List Int)=>eA a0) x) [(false,1)] [0] false
theorem zhS:oA prog 309 zfI:=eC 22 pn func309 ⟨[],[(0,⟨[.own 3 .int],[(4,4),(8,20)],[]⟩)],[(3,⟨[.slot 4 (.v .int), .own 3 .int],[(8,20)],[]⟩)],[],[]⟩ (λx=>Fg x) (by kernel_rfl) IL.ok
def zfE:=pA (kA 1) [.v .Win] [.v .Win] (λx=>(λ(a0:Ap)=>eA a0) x) [(true,2)] [1] false
theorem zgS:oA prog 279 zfE:=eC 12 (pc zhS pn) func279 a0 (λx=>Bo x) (by kernel_rfl) KI.ok
def zeX:=pA (kA 1) [.v .Ep] [.v .Ep] (λx=>(λ(a0:As)=>eA a0) x) [(true,5)] [1,4] false
theorem zg4:oA prog 234 zeX:=eC 19 (pc oE (pc zgS pn)) func234 a0 (λx=>Bp x) (by kernel_rfl) SI.ok
def zfg:=pA (kA 1) [.v .Chan] [.v .Chan] (λx=>(λ(a0:Al)=>eA a0) x) [(true,15)] [1,3,6,8,11,14] false
theorem GT:oA prog 168 zfg:=eC 30 (pc oE (pc zg4 pn)) func168 a0 (λx=>Bq x) (by kernel_rfl) hI.ok
def zez:=pA (kA 1) [.v .Timer] [.v .Timer] (λx=>(λ(a0:Ar)=>eA a0) x) [(true,4)] [] false
theorem zhx:oA prog 169 zez:=eC 17 pn func169 a0 (λx=>Fq x) (by kernel_rfl) qL.ok
def zf6:=pA (kA 1) [.v .Client] [.v .Client] (λx=>(λ(a0:Ac)=>eA a0) x) [(true,41)] [1,5,8,9,11,12,15,16,18,20,23,25,28,31] false
theorem c92:oA prog 92 zf6:=eC 42 (pc oE (pc FJ (pc zgk (pc GT (pc zhx pn))))) func92 a0 (λx=>Cg x) (by kernel_rfl) EH.ok
def zhw:=pA (kA 1) [.sl .Client] [.sl .Client] (λx=>(λ(a0:List Ac)=>eA a0) x) [(false,1)] [0,256] false
theorem XT:oA prog 33 zhw:=eC 23 (pc c92 pn) func33 ⟨[],[(0,⟨[.own 3 .Client true],[(4,4),(8,21)],[]⟩)],[(3,⟨[.slot 4 (.v .int), .own 3 .Client true],[(8,21)],[]⟩)],[],[]⟩ (λx=>Fr x) (by kernel_rfl) YK.ok
def zf2:=pA (kA 1) [.sl .bs] [.sl .bs] (λx=>(λ(a0:List (List UInt8))=>eA a0) x) [(false,1)] [0,256] false
theorem KP:oA prog 36 zf2:=eC 23 (pc oE pn) func36 ⟨[],[(0,⟨[.own 3 .bs true],[(4,4),(8,21)],[]⟩)],[(3,⟨[.slot 4 (.v .int), .own 3 .bs true],[(8,21)],[]⟩)],[],[]⟩ (λx=>Fs x) (by kernel_rfl) dL.ok
def zhm:=pA (kA 1) [.v .Jar] [.v .Jar] (λx=>(λ(a0:Ao)=>eA a0) x) [(true,1)] [0] false
theorem c93:oA prog 93 zhm:=eC 9 (pc oE pn) func93 a0 (λx=>Ch x) (by kernel_rfl) CI.ok
def zhh:=pA (kA 1) [.v .Dice] [.v .Dice] (λx=>(λ(a0:Ak)=>eA a0) x) [(true,2)] [0] false
theorem MP:oA prog 35 zhh:=eC 12 (pc oE pn) func35 a0 (λx=>Ci x) (by kernel_rfl) lI.ok
def zfn:=pA (kA 1) [.v .Cand] [.v .Cand] (λx=>(λ(a0:Aj)=>eA a0) x) [(true,4)] [2] false
theorem zgj:oA prog 321 zfn:=eC 16 (pc oE (pc FJ pn)) func321 a0 (λx=>Cj x) (by kernel_rfl) eI.ok
def ze8:=pA (kA 1) [.sl .Cand] [.sl .Cand] (λx=>(λ(a0:List Aj)=>eA a0) x) [(false,1)] [0,256] false
theorem zhD:oA prog 310 ze8:=eC 23 (pc zgj pn) func310 ⟨[],[(0,⟨[.own 3 .Cand true],[(4,4),(8,21)],[]⟩)],[(3,⟨[.slot 4 (.v .int), .own 3 .Cand true],[(8,21)],[]⟩)],[],[]⟩ (λx=>Ft x) (by kernel_rfl) pL.ok
def zfk:=pA (kA 1) [.v .Paths] [.v .Paths] (λx=>(λ(a0:Ah)=>eA a0) x) [(true,3)] [2,258] false
theorem zgY:oA prog 280 zfk:=eC 13 (pc FJ (pc zhD pn)) func280 a0 (λx=>Ck x) (by kernel_rfl) ZH.ok
def zeL:=pA (kA 1) [.v .Sess] [.v .Sess] (λx=>(λ(a0:Ag)=>eA a0) x) [(true,24)] [1,2,4,6,9,11,14,17,20,276] false
theorem zgJ:oA prog 235 zeL:=eC 33 (pc oE (pc GT (pc zgY pn))) func235 a0 (λx=>Cl x) (by kernel_rfl) oI.ok
def zeU:=pA (kA 1) [.sl .Sess] [.sl .Sess] (λx=>(λ(a0:List Ag)=>eA a0) x) [(false,1)] [0,256] false
theorem zgq:oA prog 170 zeU:=eC 23 (pc zgJ pn) func170 ⟨[],[(0,⟨[.own 3 .Sess true],[(4,4),(8,21)],[]⟩)],[(3,⟨[.slot 4 (.v .int), .own 3 .Sess true],[(8,21)],[]⟩)],[],[]⟩ (λx=>Fu x) (by kernel_rfl) CL.ok
def zhA:=pA (kA 1) [.v .Tab] [.v .Tab] (λx=>(λ(a0:Am)=>eA a0) x) [(true,2)] [1,257] false
theorem c94:oA prog 94 zhA:=eC 12 (pc zgq pn) func94 a0 (λx=>Cm x) (by kernel_rfl) FI.ok
def zfF:=pA (kA 1) [.v .Credit] [.v .Credit] (λx=>(λ(a0:Af)=>eA a0) x) [(true,4)] [] false
theorem zf8:oA prog 171 zfF:=eC 15 (pc FJ pn) func171 a0 (λx=>Co x) (by kernel_rfl) GH.ok
def zfY:=pA (kA 1) [.sl .Credit] [.sl .Credit] (λx=>(λ(a0:List Af)=>eA a0) x) [(false,1)] [0] false
theorem c95:oA prog 95 zfY:=eC 23 (pc zf8 pn) func95 ⟨[],[(0,⟨[.own 3 .Credit],[(4,4),(8,21)],[]⟩)],[(3,⟨[.slot 4 (.v .int), .own 3 .Credit],[(8,21)],[]⟩)],[],[]⟩ (λx=>Fv x) (by kernel_rfl) aL.ok
def zhQ:=pA (kA 1) [.v .Server] [.v .Server] (λx=>(λ(a0:Ad)=>eA a0) x) [(true,7)] [0,1,2,5,6,256,261] false
theorem ST:oA prog 34 zhQ:=eC 25 (pc MP (pc KP (pc c93 (pc c94 (pc c95 pn))))) func34 a0 (λx=>Cp x) (by kernel_rfl) DH.ok
def zgQ:=pA (kA 1) [.v .Wire] [.v .Wire] (λx=>(λ(a0:Ab)=>eA a0) x) [(true,5)] [4] false
theorem dU:oA prog 38 zgQ:=eC 17 (pc oE (pc FJ pn)) func38 a0 (λx=>Cq x) (by kernel_rfl) gI.ok
def zg1:=pA (kA 1) [.sl .Wire] [.sl .Wire] (λx=>(λ(a0:List Ab)=>eA a0) x) [(false,1)] [0,256] false
theorem fD:oA prog 10 zg1:=eC 23 (pc dU pn) func10 ⟨[],[(0,⟨[.own 3 .Wire true],[(4,4),(8,21)],[]⟩)],[(3,⟨[.slot 4 (.v .int), .own 3 .Wire true],[(8,21)],[]⟩)],[],[]⟩ (λx=>Fw x) (by kernel_rfl) BL.ok
def zfZ:=pA (kA 1) [.v .Note] [.v .Note] (λx=>(λ(a0:Ae)=>eA a0) x) [(true,12)] [3,4,7,8] false
theorem c96:oA prog 96 zfZ:=eC 43 (pc oE (pc FJ pn)) func96 a0 (λx=>Bi x) (by kernel_rfl) zI.ok
def zf3:=pA (kA 1) [.sl .Note] [.sl .Note] (λx=>(λ(a0:List Ae)=>eA a0) x) [(false,1)] [0,256] false
theorem bU:oA prog 37 zf3:=eC 23 (pc c96 pn) func37 ⟨[],[(0,⟨[.own 3 .Note true],[(4,4),(8,21)],[]⟩)],[(3,⟨[.slot 4 (.v .int), .own 3 .Note true],[(8,21)],[]⟩)],[],[]⟩ (λx=>Fd x) (by kernel_rfl) jL.ok
def ci9:=pA (kA 1) [.v .World] [.v .World] (λx=>(λ(a0:Aa)=>eA a0) x) [(true,14)] [1,2,3,4,7,8,9,11,12,13,257,258,263,267,268,269] false
theorem c9:oA prog 9 ci9:=eC 32 (pc fD (pc XT (pc ST (pc MP (pc KP (pc bU pn)))))) func9 a0 (λx=>Cs x) (by kernel_rfl) NH.ok
def zg6:=pA (kA 1) [.v .Dice] [.v .Dice] (λx=>UI x) [(true,2)] [0] false
theorem uU:oA prog 86 zg6:=eC 10 pn func86 a0 (λx=>Eg x) (by kernel_rfl) ZJ.ok
def zfD:=pA (kA 1) [.v .Win] [.v .Win] (λx=>(λ(a0:Ap)=>eA a0) x) [(true,2)] [1] false
theorem zgo:oA prog 278 zfD:=eC 10 pn func278 a0 (λx=>Di x) (by kernel_rfl) kI.ok
def zev:=pA (kA 1) [.v .Ep] [.v .Ep] (λx=>(λ(a0:As)=>eA a0) x) [(true,5)] [1,4] false
theorem HT:oA prog 232 zev:=eC 15 (pc zgo pn) func232 a0 (λx=>Dj x) (by kernel_rfl) jI.ok
def zfp:=pA (kA 2) [.v .Ep, .v .bool] [.v .Ep] (λx=>YM x.1 x.2) [(true,5)] [1,4] false
theorem zhl:oA prog 233 zfp:=eC 27 (pc HT pn) func233 a0 (u2 Dk) (by kernel_rfl) II.ok
def zfB:=pA (kA 1) [.v .Chan] [.v .Chan] (λx=>(λ(a0:Al)=>eA a0) x) [(true,15)] [1,3,6,8,11,14] false
theorem FT:oA prog 166 zfB:=eC 26 (pc HT (pc zhl pn)) func166 a0 (λx=>Dl x) (by kernel_rfl) bI.ok
def zeY:=pA (kA 1) [.v .Cand] [.v .Cand] (λx=>iM x) [(true,4)] [2] false
theorem zhj:oA prog 308 zeY:=eC 12 pn func308 a0 (λx=>Gg x) (by kernel_rfl) yL.ok
def zex:=pA (kA 1) [.v .Paths] [.v .Paths] (λx=>(λ(a0:Ah)=>eA a0) x) [(true,3)] [2] false
theorem zhL:oA prog 277 zex:=eC 27 (pc zhj pn) func277 ⟨[],[(0,⟨[.box 3 .Paths [2]],[(4,4),(8,25)],[]⟩)],[(3,⟨[.slot 4 (.v .int), .box 3 .Paths [2]],[(8,25)],[]⟩)],[],[]⟩ (λx=>Dm x) (by kernel_rfl) UH.ok
def zer:=pA (kA 1) [.v .Sess] [.v .Sess] (λx=>(λ(a0:Ag)=>eA a0) x) [(true,24)] [1,2,4,6,9,11,14,17,20] false
theorem zfL:oA prog 231 zer:=eC 24 (pc FT (pc zhL pn)) func231 a0 (λx=>Dn x) (by kernel_rfl) VH.ok
def zfw:=pA (kA 1) [.v .Tab] [.v .Tab] (λx=>(λ(a0:Am)=>eA a0) x) [(true,2)] [1] false
theorem zgl:oA prog 163 zfw:=eC 27 (pc zfL pn) func163 ⟨[],[(0,⟨[.box 3 .Tab [1]],[(4,4),(8,25)],[]⟩)],[(3,⟨[.slot 4 (.v .int), .box 3 .Tab [1]],[(8,25)],[]⟩)],[],[]⟩ (λx=>Do x) (by kernel_rfl) IH.ok
def zg3:=pA (kA 1) [.v .Server] [.v .Server] (λx=>(λ(a0:Ad)=>eA a0) x) [(true,7)] [0,1,2,5,6] false
theorem c85:oA prog 85 zg3:=eC 42 (pc uU (pc zgl pn)) func85 ⟨[],[(0,⟨[.box 3 .Server [0,1,2,5,6]],[(4,4),(22,40)],[]⟩)],[(3,⟨[.slot 4 (.v .int), .box 3 .Server [0,1,2,5,6]],[(22,40)],[]⟩)],[],[]⟩ (λx=>Dp x) (by kernel_rfl) QH.ok
def zgK:=pA (kA 1) [.sl .Wire] [.sl .Wire] (λx=>(λ(a0:List Ab)=>eA a0) x) [(false,1)] [0] false
theorem VT:oA prog 87 zgK:=eC 34 pn func87 ⟨[],[(0,⟨[.own 3 .Wire],[(4,4),(6,32)],[]⟩)],[(3,⟨[.own 3 .Wire, .slot 4 (.v .int)],[(6,32)],[]⟩)],[],[]⟩ (λx=>Dq x) (by kernel_rfl) KH.ok
def ze4:=pA (kA 1) [.v .Note] [.v .Note] (λx=>(λ(a0:Ae)=>eA a0) x) [(true,12)] [3,4,7,8] false
theorem zgp:oA prog 164 ze4:=eC 24 pn func164 a0 (λx=>Dr x) (by kernel_rfl) aI.ok
def zgc:=pA (kA 1) [.sl .Note] [.sl .Note] (λx=>(λ(a0:List Ae)=>eA a0) x) [(false,1)] [0] false
theorem c88:oA prog 88 zgc:=eC 21 (pc zgp pn) func88 ⟨[],[(0,⟨[.own 3 .Note],[(4,4),(6,19)],[]⟩)],[(3,⟨[.own 3 .Note, .slot 4 (.v .int)],[(6,19)],[]⟩)],[],[]⟩ (λx=>Ds x) (by kernel_rfl) AI.ok
def zfA:=pA (kA 1) [.v .Frame] [.v .Frame] (λx=>(λ(a0:Ai)=>eA a0) x) [(true,11)] [2,3,5,6,9,10] false
theorem zhv:oA prog 165 zfA:=eC 34 pn func165 a0 (λx=>Dt x) (by kernel_rfl) mI.ok
def zfS:=pA (kA 1) [.v .Client] [.v .Client] (λx=>(λ(a0:Ac)=>eA a0) x) [(true,41)] [1,5,8,9,11,12,15,16,18,20,23,25,28,31] false
theorem c89:oA prog 89 zfS:=eC 24 (pc zhv (pc FT pn)) func89 a0 (λx=>Du x) (by kernel_rfl) MH.ok
def zhF:=pA (kA 1) [.v .World] [.v .World] (λx=>(λ(a0:Aa)=>eA a0) x) [(true,14)] [1,2,3,4,7,8,9,11,12,13] false
theorem gU:oA prog 31 zhF:=eC 59 (pc c85 (pc uU (pc VT (pc c88 (pc c89 pn))))) func31 ⟨[],[(0,⟨[.box 3 .World [1,2,3,4,7,8,9,11,12,13]],[(4,4),(21,38)],[]⟩),(2,⟨[.box 3 .World [1,2,3,4,7,8,9,11,12,13]],[(5,5),(39,57)],[]⟩)],[(3,⟨[.slot 4 (.v .int), .box 3 .World [1,2,3,4,7,8,9,11,12,13]],[(21,38)],[]⟩),(7,⟨[.slot 5 (.v .int), .box 3 .World [1,2,3,4,7,8,9,11,12,13]],[(39,57)],[]⟩)],[],[]⟩ (λx=>Dv x) (by kernel_rfl) OH.ok
def zeS:=pA (kA 3) [.v .int, .v .int, .v .int] [.v .bool] (λx=>some (YC x.1 x.2.1 x.2.2)) [(false,1)] [] false
theorem zgA:oA prog 121 zeS:=eD 15 pn func121 ⟨[],[],[],[(1,⟨[.slot 6 (.v .bool)],[(7,14)],[]⟩)],[]⟩ (u3 Ey) (by kernel_rfl) mM.ok
def zeT:=pA (kA 1) [.v .Addr] [.v .bool] (λx=>some (RD x)) [(false,1)] [] false
theorem zhq:oA prog 127 zeT:=eD 11 (pc zgA pn) func127 ⟨[],[],[],[(1,⟨[.slot 2 (.v .bool)],[(3,10)],[]⟩)],[]⟩ (λx=>Fi x) (by kernel_rfl) FL.ok
def zgZ:=pA (kA 1) [.v .Wire] [.v .bool] (λx=>some (KD x)) [(false,1)] [] false
theorem jU:oA prog 91 zgZ:=eD 17 (pc zhq pn) func91 ⟨[],[],[],[(1,⟨[.slot 2 (.v .bool)],[(3,16)],[]⟩)],[]⟩ (λx=>Gd x) (by kernel_rfl) JL.ok
def zhR:=pA (kA 1) [.sl .Wire] [.v .bool] (λx=>some (DD x)) [(false,1)] [] false
theorem c90:oA prog 90 zhR:=eD 19 (pc jU pn) func90 ⟨[],[(0,⟨[],[(2,15)],[]⟩)],[(2,⟨[.slot 3 (.v .int)],[(2,2),(4,15)],[]⟩)],[],[]⟩ (λx=>Ge x) (by kernel_rfl) kL.ok
def zhM:=pA (kA 2) [.sl .Wire, .v .Wire] [.sl .Wire] (u2 Ea) [(false,1)] [0] false
theorem vU:oA prog 32 zhM:=eR 34 (pc VT (pc c90 (pc jU pn))) func32 ⟨[],[],[],[(2,⟨[.slot 20 (.v .bool)],[(8,19)],[]⟩)],[]⟩ (by kernel_rfl)
def ci8:=pA (kA 2) [.v .World, .sl .Wire] [.v .World] (u2 Es) [(true,14)] [1,2,3,4,7,8,9,11,12,13] false
theorem c8:oA prog 8 ci8:=eR 24 (pc gU (pc vU pn)) func8 ⟨[],[(0,⟨[.box 5 .World [1,2,3,4,7,8,9,11,12,13]],[(6,6),(9,22)],[]⟩)],[(3,⟨[.slot 6 (.v .int), .box 5 .World [1,2,3,4,7,8,9,11,12,13]],[(9,22)],[]⟩)],[],[]⟩ (by kernel_rfl)
def zhy:=pA (kA 1) [.sl .byte] [.sl .byte] (λx=>wB x) [(false,1)] [0] false
theorem fF:oA prog 71 zhy:=eC 6 pn func71 a0 (λx=>Gh x) (by kernel_rfl) VL.ok
def zfK:=pA (kA 1) [.sl .bs] [.sl .bs] (λx=>VI x) [(false,1)] [0,256] false
theorem ET:oA prog 101 zfK:=eC 20 (pc fF pn) func101 ⟨[],[(0,⟨[.own 3 .bs true],[(5,5),(9,18)],[]⟩)],[(3,⟨[.own 3 .bs true, .slot 9 (.v .int)],[(5,5),(10,18)],[]⟩)],[],[]⟩ (λx=>Ef x) (by kernel_rfl) TJ.ok
def zeW:=pA (kA 1) [.v .Win] [.v .Win] (λx=>(λ(a0:Ap)=>eA a0) x) [(true,2)] [1] false
theorem zge:oA prog 282 zeW:=eC 10 pn func282 a0 (λx=>Gi x) (by kernel_rfl) wL.ok
def zew:=pA (kA 1) [.v .Ep] [.v .Ep] (λx=>(λ(a0:As)=>eA a0) x) [(true,5)] [1,4] false
theorem zhe:oA prog 237 zew:=eC 14 (pc fF (pc zge pn)) func237 a0 (λx=>Eh x) (by kernel_rfl) cK.ok
def zfH:=pA (kA 1) [.v .Chan] [.v .Chan] (λx=>(λ(a0:Al)=>eA a0) x) [(true,15)] [1,3,6,8,11,14] false
theorem AT:oA prog 174 zfH:=eC 20 (pc fF (pc zhe pn)) func174 a0 (λx=>Ei x) (by kernel_rfl) RJ.ok
def zfj:=pA (kA 1) [.v .Paths] [.v .Paths] (λx=>(λ(a0:Ah)=>eA a0) x) [(true,3)] [2,258] false
theorem zgC:oA prog 281 zfj:=eC 31 (pc fF pn) func281 ⟨[],[(0,⟨[.box 3 .Paths [2,258]],[(5,5),(12,29)],[]⟩)],[(3,⟨[.slot 12 (.v .int), .box 3 .Paths [2,258]],[(5,5),(13,29)],[]⟩)],[],[]⟩ (λx=>Dw x) (by kernel_rfl) xH.ok
def zeO:=pA (kA 1) [.v .Sess] [.v .Sess] (λx=>(λ(a0:Ag)=>eA a0) x) [(true,24)] [1,2,4,6,9,11,14,17,20,276] false
theorem zgL:oA prog 236 zeO:=eC 20 (pc fF (pc AT (pc zgC pn))) func236 a0 (λx=>Ej x) (by kernel_rfl) UJ.ok
def zeJ:=pA (kA 1) [.v .Tab] [.v .Tab] (λx=>(λ(a0:Am)=>eA a0) x) [(true,2)] [1,257] false
theorem zfV:oA prog 172 zeJ:=eC 25 (pc zgL pn) func172 ⟨[],[(0,⟨[.box 3 .Tab [1,257]],[(5,5),(12,23)],[]⟩)],[(3,⟨[.slot 12 (.v .int), .box 3 .Tab [1,257]],[(5,5),(13,23)],[]⟩)],[],[]⟩ (λx=>Gj x) (by kernel_rfl) vL.ok
def zfq:=pA (kA 1) [.sl .Credit] [.sl .Credit] (λx=>(λ(a0:List Af)=>eA a0) x) [(false,1)] [0] false
theorem zgt:oA prog 173 zfq:=eC 6 pn func173 a0 (λx=>Ek x) (by kernel_rfl) HJ.ok
def zhG:=pA (kA 1) [.v .Server] [.v .Server] (λx=>(λ(a0:Ad)=>eA a0) x) [(true,7)] [0,1,2,5,6,256,261] false
theorem c98:oA prog 98 zhG:=eC 26 (pc fF (pc ET (pc zfV (pc zgt pn)))) func98 a0 (λx=>Em x) (by kernel_rfl) IJ.ok
def zeK:=pA (kA 1) [.v .Frame] [.v .Frame] (λx=>(λ(a0:Ai)=>eA a0) x) [(true,11)] [2,3,5,6,9,10] false
theorem zgB:oA prog 154 zeK:=eC 28 (pc fF pn) func154 a0 (λx=>En x) (by kernel_rfl) NJ.ok
def zgm:=pA (kA 1) [.v .Client] [.v .Client] (λx=>(λ(a0:Ac)=>eA a0) x) [(true,41)] [1,5,8,9,11,12,15,16,18,20,23,25,28,31] false
theorem c99:oA prog 99 zgm:=eC 20 (pc fF (pc zgB (pc AT pn))) func99 a0 (λx=>Eo x) (by kernel_rfl) JJ.ok
def zfr:=pA (kA 1) [.sl .Wire] [.sl .Wire] (λx=>(λ(a0:List Ab)=>eA a0) x) [(false,1)] [0,256] false
theorem JT:oA prog 100 zfr:=eC 26 (pc fF pn) func100 ⟨[],[(0,⟨[.own 3 .Wire true],[(5,5),(9,24)],[]⟩)],[(3,⟨[.own 3 .Wire true, .slot 9 (.v .int)],[(5,5),(10,24)],[]⟩)],[],[]⟩ (λx=>Dx x) (by kernel_rfl) vH.ok
def zfm:=pA (kA 1) [.v .Note] [.v .Note] (λx=>(λ(a0:Ae)=>eA a0) x) [(true,12)] [3,4,7,8] false
theorem zfW:oA prog 175 zfm:=eC 20 (pc fF pn) func175 a0 (λx=>Eq x) (by kernel_rfl) SJ.ok
def zeD:=pA (kA 1) [.sl .Note] [.sl .Note] (λx=>(λ(a0:List Ae)=>eA a0) x) [(false,1)] [0,256] false
theorem zgv:oA prog 102 zeD:=eC 20 (pc zfW pn) func102 ⟨[],[(0,⟨[.own 3 .Note true],[(5,5),(9,18)],[]⟩)],[(3,⟨[.own 3 .Note true, .slot 9 (.v .int)],[(5,5),(10,18)],[]⟩)],[],[]⟩ (λx=>Gk x) (by kernel_rfl) UK.ok
def zhd:=pA (kA 1) [.v .World] [.v .World] (λx=>(λ(a0:Aa)=>eA a0) x) [(true,14)] [1,2,3,4,7,8,9,11,12,13,257,258,263,267,268,269] false
theorem WT:oA prog 39 zhd:=eC 48 (pc fF (pc c98 (pc c99 (pc JT (pc ET (pc zgv pn)))))) func39 ⟨[],[(0,⟨[.box 3 .World [1,2,3,4,7,8,9,11,12,13,257,258,263,267,268,269]],[(5,5),(23,34)],[]⟩)],[(3,⟨[.slot 23 (.v .int), .box 3 .World [1,2,3,4,7,8,9,11,12,13,257,258,263,267,268,269]],[(5,5),(24,34)],[]⟩)],[],[]⟩ (λx=>Er x) (by kernel_rfl) OJ.ok
def zeu:=pA (kA 3) [.v .int, .v .int, .v .int] [.v .bool] (λx=>some (YC x.1 x.2.1 x.2.2)) [(false,1)] [] false
theorem zhp:oA prog 133 zeu:=eD 15 pn func133 ⟨[],[],[],[(1,⟨[.slot 6 (.v .bool)],[(7,14)],[]⟩)],[]⟩ (u3 Ez) (by kernel_rfl) OL.ok
def zeZ:=pA (kA 1) [.v .Addr] [.v .bool] (λx=>some (RD x)) [(false,1)] [] false
theorem zf9:oA prog 194 zeZ:=eD 11 (pc zhp pn) func194 ⟨[],[],[],[(1,⟨[.slot 2 (.v .bool)],[(3,10)],[]⟩)],[]⟩ (λx=>Fj x) (by kernel_rfl) PL.ok
def zfJ:=pA (kA 1) [.v .Wire] [.v .bool] (λx=>some (KD x)) [(false,1)] [] false
theorem zhr:oA prog 176 zfJ:=eD 17 (pc zf9 pn) func176 ⟨[],[],[],[(1,⟨[.slot 2 (.v .bool)],[(3,16)],[]⟩)],[]⟩ (λx=>Gf x) (by kernel_rfl) ML.ok
def ze2:=pA (kA 1) [.sl .Wire] [.v .bool] (λx=>some (DD x)) [(false,1)] [] false
theorem zhn:oA prog 103 ze2:=eD 18 (pc zhr pn) func103 ⟨[],[(0,⟨[],[(2,2),(4,4),(7,14)],[]⟩)],[(2,⟨[.slot 7 (.v .int)],[(2,2),(4,4),(8,14)],[]⟩)],[],[]⟩ (λx=>Dh x) (by kernel_rfl) RH.ok
def zgr:=pA (kA 2) [.sl .Wire, .v .Wire] [.sl .Wire] (u2 Dy) [(false,1)] [0,256] false
theorem QT:oA prog 40 zgr:=eR 19 (pc JT (pc zhn pn)) func40 a0 (by kernel_rfl)
def zhB:=pA (kA 2) [.v .World, .sl .Wire] [.v .World] (u2 Dz) [(true,14)] [1,2,3,4,7,8,9,11,12,13,257,258,263,267,268,269] false
theorem zD:oA prog 11 zhB:=eR 23 (pc WT (pc QT pn)) func11 ⟨[],[(0,⟨[.box 5 .World [1,2,3,4,7,8,9,11,12,13,257,258,263,267,268,269]],[(7,7),(12,21)],[]⟩)],[(3,⟨[.slot 12 (.v .int), .box 5 .World [1,2,3,4,7,8,9,11,12,13,257,258,263,267,268,269]],[(7,7),(13,21)],[]⟩)],[],[]⟩ (by kernel_rfl)
def zg0:=pA (kA 2) [.sl .byte, .sl .byte] [.v .bool] (λx=>some ((λ(a0:List UInt8) (a1:List UInt8)=>mA a0 a1) x.1 x.2)) [(false,1)] [] false
theorem nE:oA prog 20 zg0:=eD 26 pn func20 ⟨[],[(0,⟨[],[(4,5),(11,25)],[]⟩)],[(4,⟨[.slot 5 (.v .int)],[(4,4),(11,25)],[]⟩)],[],[]⟩ (u2 Fa) (by kernel_rfl) uL.ok
def zeH:=pA (kA 2) [.v .Addr, .v .Addr] [.v .bool] (λx=>some ((λ(a0:Aq) (a1:Aq)=>mA a0 a1) x.1 x.2)) [(false,1)] [] false
theorem vJ:oA prog 109 zeH:=eD 15 pn func109 a0 (u2 Bj) (by kernel_rfl) uI.ok
def zeG:=pA (kA 2) [.v .Frame, .v .Frame] [.v .bool] (λx=>some ((λ(a0:Ai) (a1:Ai)=>mA a0 a1) x.1 x.2)) [(false,1)] [] false
theorem zgs:oA prog 177 zeG:=eD 66 (pc nE pn) func177 a0 (u2 Ct) (by kernel_rfl) YH.ok
def zfz:=pA (kA 2) [.sl .int, .sl .int] [.v .bool] (λx=>some ((λ(a0:List Int) (a1:List Int)=>mA a0 a1) x.1 x.2)) [(false,1)] [] false
theorem zhk:oA prog 311 zfz:=eD 26 pn func311 ⟨[],[(0,⟨[],[(4,5),(11,25)],[]⟩)],[(4,⟨[.slot 5 (.v .int)],[(4,4),(11,25)],[]⟩)],[],[]⟩ (u2 Fh) (by kernel_rfl) LL.ok
def zfi:=pA (kA 2) [.v .Win, .v .Win] [.v .bool] (λx=>some ((λ(a0:Ap) (a1:Ap)=>mA a0 a1) x.1 x.2)) [(false,1)] [] false
theorem zf7:oA prog 283 zfi:=eD 16 (pc zhk pn) func283 a0 (u2 Br) (by kernel_rfl) LI.ok
def zeN:=pA (kA 2) [.v .Ep, .v .Ep] [.v .bool] (λx=>some ((λ(a0:As) (a1:As)=>mA a0 a1) x.1 x.2)) [(false,1)] [] false
theorem zgT:oA prog 238 zeN:=eD 27 (pc nE (pc zf7 pn)) func238 a0 (u2 Bs) (by kernel_rfl) ZI.ok
def zeV:=pA (kA 2) [.v .Chan, .v .Chan] [.v .bool] (λx=>some ((λ(a0:Al) (a1:Al)=>mA a0 a1) x.1 x.2)) [(false,1)] [] false
theorem NT:oA prog 178 zeV:=eD 44 (pc nE (pc zgT pn)) func178 a0 (u2 Bt) (by kernel_rfl) iI.ok
def ze5:=pA (kA 2) [.v .Timer, .v .Timer] [.v .bool] (λx=>some ((λ(a0:Ar) (a1:Ar)=>mA a0 a1) x.1 x.2)) [(false,1)] [] false
theorem zgg:oA prog 179 ze5:=eD 25 pn func179 a0 (u2 Cu) (by kernel_rfl) TH.ok
def ze1:=pA (kA 2) [.v .Client, .v .Client] [.v .bool] (λx=>some ((λ(a0:Ac) (a1:Ac)=>mA a0 a1) x.1 x.2)) [(false,1)] [] false
theorem zgy:oA prog 104 ze1:=eD 62 (pc nE (pc vJ (pc zgs (pc NT (pc zgg pn))))) func104 a0 (u2 Cv) (by kernel_rfl) AH.ok
def zhI:=pA (kA 2) [.sl .Client, .sl .Client] [.v .bool] (λx=>some ((λ(a0:List Ac) (a1:List Ac)=>mA a0 a1) x.1 x.2)) [(false,1)] [] false
theorem c41:oA prog 41 zhI:=eD 27 (pc zgy pn) func41 ⟨[],[(0,⟨[],[(4,5),(11,26)],[]⟩)],[(4,⟨[.slot 5 (.v .int)],[(4,4),(11,26)],[]⟩)],[],[]⟩ (u2 Fx) (by kernel_rfl) VK.ok
def zf0:=pA (kA 2) [.sl .bs, .sl .bs] [.v .bool] (λx=>some ((λ(a0:List (List UInt8)) (a1:List (List UInt8))=>mA a0 a1) x.1 x.2)) [(false,1)] [] false
theorem nU:oA prog 44 zf0:=eD 27 (pc nE pn) func44 ⟨[],[(0,⟨[],[(4,5),(11,26)],[]⟩)],[(4,⟨[.slot 5 (.v .int)],[(4,4),(11,26)],[]⟩)],[],[]⟩ (u2 Fy) (by kernel_rfl) fL.ok
def ze0:=pA (kA 2) [.v .Jar, .v .Jar] [.v .bool] (λx=>some ((λ(a0:Ao) (a1:Ao)=>mA a0 a1) x.1 x.2)) [(false,1)] [] false
theorem zgV:oA prog 105 ze0:=eD 11 (pc nE pn) func105 a0 (u2 Cw) (by kernel_rfl) BI.ok
def zgR:=pA (kA 2) [.v .Dice, .v .Dice] [.v .bool] (λx=>some ((λ(a0:Ak) (a1:Ak)=>mA a0 a1) x.1 x.2)) [(false,1)] [] false
theorem iU:oA prog 43 zgR:=eD 16 (pc nE pn) func43 a0 (u2 Cy) (by kernel_rfl) dI.ok
def zfd:=pA (kA 2) [.v .Cand, .v .Cand] [.v .bool] (λx=>some ((λ(a0:Aj) (a1:Aj)=>mA a0 a1) x.1 x.2)) [(false,1)] [] false
theorem zgD:oA prog 322 zfd:=eD 22 (pc nE (pc vJ pn)) func322 a0 (u2 Cz) (by kernel_rfl) vI.ok
def zfl:=pA (kA 2) [.sl .Cand, .sl .Cand] [.v .bool] (λx=>some ((λ(a0:List Aj) (a1:List Aj)=>mA a0 a1) x.1 x.2)) [(false,1)] [] false
theorem zgH:oA prog 312 zfl:=eD 27 (pc zgD pn) func312 ⟨[],[(0,⟨[],[(4,5),(11,26)],[]⟩)],[(4,⟨[.slot 5 (.v .int)],[(4,4),(11,26)],[]⟩)],[],[]⟩ (u2 Fz) (by kernel_rfl) tL.ok
def zeF:=pA (kA 2) [.v .Paths, .v .Paths] [.v .bool] (λx=>some ((λ(a0:Ah) (a1:Ah)=>mA a0 a1) x.1 x.2)) [(false,1)] [] false
theorem zf1:oA prog 284 zeF:=eD 17 (pc vJ (pc zgH pn)) func284 a0 (u2 Da) (by kernel_rfl) SH.ok
def zfe:=pA (kA 2) [.v .Sess, .v .Sess] [.v .bool] (λx=>some ((λ(a0:Ag) (a1:Ag)=>mA a0 a1) x.1 x.2)) [(false,1)] [] false
theorem zgE:oA prog 239 zfe:=eD 49 (pc nE (pc NT (pc zf1 pn))) func239 a0 (u2 Db) (by kernel_rfl) pI.ok
def zeE:=pA (kA 2) [.sl .Sess, .sl .Sess] [.v .bool] (λx=>some ((λ(a0:List Ag) (a1:List Ag)=>mA a0 a1) x.1 x.2)) [(false,1)] [] false
theorem zfP:oA prog 180 zeE:=eD 27 (pc zgE pn) func180 ⟨[],[(0,⟨[],[(4,5),(11,26)],[]⟩)],[(4,⟨[.slot 5 (.v .int)],[(4,4),(11,26)],[]⟩)],[],[]⟩ (u2 Ga) (by kernel_rfl) EL.ok
def zft:=pA (kA 2) [.v .Tab, .v .Tab] [.v .bool] (λx=>some ((λ(a0:Am) (a1:Am)=>mA a0 a1) x.1 x.2)) [(false,1)] [] false
theorem zgU:oA prog 106 zft:=eD 16 (pc zfP pn) func106 a0 (u2 Dc) (by kernel_rfl) DI.ok
def zeP:=pA (kA 2) [.v .Credit, .v .Credit] [.v .bool] (λx=>some ((λ(a0:Af) (a1:Af)=>mA a0 a1) x.1 x.2)) [(false,1)] [] false
theorem zgf:oA prog 181 zeP:=eD 21 (pc vJ pn) func181 a0 (u2 Dd) (by kernel_rfl) BH.ok
def zfy:=pA (kA 2) [.sl .Credit, .sl .Credit] [.v .bool] (λx=>some ((λ(a0:List Af) (a1:List Af)=>mA a0 a1) x.1 x.2)) [(false,1)] [] false
theorem zgw:oA prog 107 zfy:=eD 27 (pc zgf pn) func107 ⟨[],[(0,⟨[],[(4,5),(11,26)],[]⟩)],[(4,⟨[.slot 5 (.v .int)],[(4,4),(11,26)],[]⟩)],[],[]⟩ (u2 Gb) (by kernel_rfl) WK.ok
def zg8:=pA (kA 2) [.v .Server, .v .Server] [.v .bool] (λx=>some ((λ(a0:Ad) (a1:Ad)=>mA a0 a1) x.1 x.2)) [(false,1)] [] false
theorem c42:oA prog 42 zg8:=eD 35 (pc iU (pc nU (pc zgV (pc zgU (pc zgw pn))))) func42 a0 (u2 De) (by kernel_rfl) FH.ok
def zfO:=pA (kA 2) [.v .Wire, .v .Wire] [.v .bool] (λx=>some ((λ(a0:Ab) (a1:Ab)=>mA a0 a1) x.1 x.2)) [(false,1)] [] false
theorem c46:oA prog 46 zfO:=eD 23 (pc nE (pc vJ pn)) func46 a0 (u2 Df) (by kernel_rfl) xI.ok
def zfN:=pA (kA 2) [.sl .Wire, .sl .Wire] [.v .bool] (λx=>some ((λ(a0:List Ab) (a1:List Ab)=>mA a0 a1) x.1 x.2)) [(false,1)] [] false
theorem AJ:oA prog 13 zfN:=eD 27 (pc c46 pn) func13 ⟨[],[(0,⟨[],[(4,5),(11,26)],[]⟩)],[(4,⟨[.slot 5 (.v .int)],[(4,4),(11,26)],[]⟩)],[],[]⟩ (u2 Gc) (by kernel_rfl) DL.ok
def ze7:=pA (kA 2) [.v .Note, .v .Note] [.v .bool] (λx=>some ((λ(a0:Ae) (a1:Ae)=>mA a0 a1) x.1 x.2)) [(false,1)] [] false
theorem zgi:oA prog 108 ze7:=eD 65 (pc nE (pc vJ pn)) func108 a0 (u2 Bk) (by kernel_rfl) sI.ok
def zhs:=pA (kA 2) [.sl .Note, .sl .Note] [.v .bool] (λx=>some ((λ(a0:List Ae) (a1:List Ae)=>mA a0 a1) x.1 x.2)) [(false,1)] [] false
theorem c45:oA prog 45 zhs:=eD 27 (pc zgi pn) func45 ⟨[],[(0,⟨[],[(4,5),(11,26)],[]⟩)],[(4,⟨[.slot 5 (.v .int)],[(4,4),(11,26)],[]⟩)],[],[]⟩ (u2 Fe) (by kernel_rfl) iL.ok
def zfM:=pA (kA 2) [.v .World, .v .World] [.v .bool] (λx=>some ((λ(a0:Aa) (a1:Aa)=>mA a0 a1) x.1 x.2)) [(false,1)] [] false
theorem CJ:oA prog 12 zfM:=eD 46 (pc AJ (pc c41 (pc c42 (pc iU (pc nU (pc c45 pn)))))) func12 a0 (u2 Dg) (by kernel_rfl) JH.ok
theorem PG:BC prog 21 ⟨.sl .byte,rC .byte⟩ CB:=eM 20 mn func21 [] (by kernel_rfl)
theorem PT:BC prog 110 ⟨.sl .int,rC .int⟩ CB:=eM 19 mn func110 [] (by kernel_rfl)
theorem k47:BC prog 47 ⟨.sl .Client,rC .Client⟩ CB:=eM 356 (mc PG (mc PT mn)) func47 [(6,4),(13,4),(18,5),(19,5),(22,5),(23,5),(28,5),(29,5),(32,5),(35,6),(40,7),(43,6),(48,7),(53,5)] (by kernel_rfl)
theorem cU:BC prog 50 ⟨.sl .bs,rC .bs⟩ CB:=eM 19 (mc PG mn) func50 [(4,3)] (by kernel_rfl)
theorem zfQ:BC prog 111 ⟨.st .Jar,vD.F⟩ CB:=eS (t:= .Jar) 10 (mc PG mn) func111 [(0,0),(1,1)] (λu x k=>Av x k λz k=>some (z,k,u)) (by kernel_rfl) vD.F vD.nat
theorem mU:BC prog 49 ⟨.st .Dice,iD.F⟩ CB:=eS (t:= .Dice) 10 (mc PG mn) func49 [(0,0),(1,1)] (λu x k=>Aw x k λz k=>some (z,k,u)) (by kernel_rfl) iD.F iD.nat
theorem zhC:BC prog 240 ⟨.sl .Cand,rC .Cand⟩ CB:=eM 43 (mc PG mn) func240 [(8,4)] (by kernel_rfl)
theorem zgG:BC prog 182 ⟨.sl .Sess,rC .Sess⟩ CB:=eM 219 (mc PG (mc PT (mc zhC mn))) func182 [(6,4),(7,4),(10,5),(13,6),(18,7),(21,6),(26,7),(31,5),(36,5)] (by kernel_rfl)
theorem zfR:BC prog 112 ⟨.st .Tab,wD.F⟩ CB:=eS (t:= .Tab) 10 (mc zgG mn) func112 [(0,0),(1,1)] (λu x k=>Ax x k λz k=>some (z,k,u)) (by kernel_rfl) wD.F wD.nat
theorem zhH:BC prog 113 ⟨.sl .Credit,rC .Credit⟩ CB:=eM 43 mn func113 [] (by kernel_rfl)
theorem k48:BC prog 48 ⟨.st .Server,uD.F⟩ CB:=eS (t:= .Server) 26 (mc mU (mc cU (mc zfQ (mc zfR (mc zhH mn))))) func48 [(0,0),(1,1),(2,1),(3,1),(4,1),(5,1)] (λu x k=>Ay x k λz k=>some (z,k,u)) (by kernel_rfl) uD.F uD.nat
theorem oU:BC prog 15 ⟨.sl .Wire,rC .Wire⟩ CB:=eM 52 (mc PG mn) func15 [(12,4)] (by kernel_rfl)
theorem k51:BC prog 51 ⟨.sl .Note,rC .Note⟩ CB:=eM 99 (mc PG mn) func51 [(10,4),(11,4),(16,4),(17,4)] (by kernel_rfl)
theorem SK:BC prog 14 ⟨.st .World,gD.F⟩ CB:=eS (t:= .World) 30 (mc oU (mc k47 (mc k48 (mc mU (mc cU (mc k51 mn)))))) func14 [(0,0),(1,1),(2,1),(3,1),(4,1),(5,1),(6,1)] (λu x k=>Az x k λz k=>some (z,k,u)) (by kernel_rfl) gD.F gD.nat
def zg9:=pA (kA 2) [.sl .byte, .v .int] [.v .int] (λx=>FC .byte x.1 x.2) [(false,1)] [] false
theorem LG:oA prog 78 zg9:=eC 22 pn func78 ⟨[],[(0,⟨[.slot 1 (.v .int)],[(4,20)],[]⟩)],[(2,⟨[.slot 1 (.v .int), .slot 5 (.v .int)],[(4,4),(6,20)],[]⟩)],[],[]⟩ (u2 (yE .byte)) (by kernel_rfl) λhb _ h=>UF rfl h
def zfu:=pA (kA 2) [.sl .int, .v .int] [.v .int] (λx=>FC .int x.1 x.2) [(false,1)] [] false
theorem IT:oA prog 114 zfu:=eC 21 pn func114 ⟨[],[(0,⟨[.slot 1 (.v .int)],[(4,19)],[]⟩)],[(2,⟨[.slot 1 (.v .int), .slot 5 (.v .int)],[(4,4),(6,19)],[]⟩)],[],[]⟩ (u2 (yE .int)) (by kernel_rfl) λhb _ h=>UF rfl h
def zhf:=pA (kA 2) [.sl .Client, .v .int] [.v .int] (λx=>FC .Client x.1 x.2) [(false,1)] [] false
theorem c52:oA prog 52 zhf:=eC 438 (pc LG (pc IT pn)) func52 ⟨[],[(0,⟨[.slot 1 (.v .int)],[(4,436)],[]⟩)],[(2,⟨[.slot 1 (.v .int), .slot 5 (.v .int)],[(4,4),(6,436)],[]⟩)],[],[]⟩ (u2 (yE .Client)) (by kernel_rfl) λhb _ h=>UF rfl h
def zfU:=pA (kA 2) [.sl .bs, .v .int] [.v .int] (λx=>FC .bs x.1 x.2) [(false,1)] [] false
theorem YT:oA prog 55 zfU:=eC 21 (pc LG pn) func55 ⟨[],[(0,⟨[.slot 1 (.v .int)],[(4,19)],[]⟩)],[(2,⟨[.slot 1 (.v .int), .slot 5 (.v .int)],[(4,4),(6,19)],[]⟩)],[],[]⟩ (u2 (yE .bs)) (by kernel_rfl) λhb _ h=>UF rfl h
def zeQ:=pA (kA 2) [.v .Jar, .v .int] [.v .int] (u2 Eb) [(false,1)] [] false
theorem zgW:oA prog 115 zeQ:=eR 12 (pc LG pn) func115 a0 (by kernel_rfl)
def zgO:=pA (kA 2) [.v .Dice, .v .int] [.v .int] (u2 Be) [(false,1)] [] false
theorem hU:oA prog 54 zgO:=eR 12 (pc LG pn) func54 a0 (by kernel_rfl)
def zfo:=pA (kA 2) [.sl .Cand, .v .int] [.v .int] (λx=>FC .Cand x.1 x.2) [(false,1)] [] false
theorem zht:oA prog 241 zfo:=eC 51 (pc LG pn) func241 ⟨[],[(0,⟨[.slot 1 (.v .int)],[(4,49)],[]⟩)],[(2,⟨[.slot 1 (.v .int), .slot 5 (.v .int)],[(4,4),(6,49)],[]⟩)],[],[]⟩ (u2 (yE .Cand)) (by kernel_rfl) λhb _ h=>UF rfl h
def zeA:=pA (kA 2) [.sl .Sess, .v .int] [.v .int] (λx=>FC .Sess x.1 x.2) [(false,1)] [] false
theorem zgn:oA prog 183 zeA:=eC 267 (pc LG (pc IT (pc zht pn))) func183 ⟨[],[(0,⟨[.slot 1 (.v .int)],[(4,265)],[]⟩)],[(2,⟨[.slot 1 (.v .int), .slot 5 (.v .int)],[(4,4),(6,265)],[]⟩)],[],[]⟩ (u2 (yE .Sess)) (by kernel_rfl) λhb _ h=>UF rfl h
def zfa:=pA (kA 2) [.v .Tab, .v .int] [.v .int] (u2 Ec) [(false,1)] [] false
theorem zhJ:oA prog 116 zfa:=eR 12 (pc zgn pn) func116 a0 (by kernel_rfl)
def zeB:=pA (kA 2) [.sl .Credit, .v .int] [.v .int] (λx=>FC .Credit x.1 x.2) [(false,1)] [] false
theorem zfX:oA prog 117 zeB:=eC 51 pn func117 ⟨[],[(0,⟨[.slot 1 (.v .int)],[(4,49)],[]⟩)],[(2,⟨[.slot 1 (.v .int), .slot 5 (.v .int)],[(4,4),(6,49)],[]⟩)],[],[]⟩ (u2 (yE .Credit)) (by kernel_rfl) λhb _ h=>UF rfl h
def zhb:=pA (kA 2) [.v .Server, .v .int] [.v .int] (u2 Ed) [(false,1)] [] false
theorem c53:oA prog 53 zhb:=eR 36 (pc hU (pc YT (pc zgW (pc zhJ (pc zfX pn))))) func53 a0 (by kernel_rfl)
def zgu:=pA (kA 2) [.sl .Wire, .v .int] [.v .int] (λx=>FC .Wire x.1 x.2) [(false,1)] [] false
theorem fU:oA prog 24 zgu:=eC 62 (pc LG pn) func24 ⟨[],[(0,⟨[.slot 1 (.v .int)],[(4,60)],[]⟩)],[(2,⟨[.slot 1 (.v .int), .slot 5 (.v .int)],[(4,4),(6,60)],[]⟩)],[],[]⟩ (u2 (yE .Wire)) (by kernel_rfl) λhb _ h=>UF rfl h
def zhz:=pA (kA 2) [.sl .Note, .v .int] [.v .int] (λx=>FC .Note x.1 x.2) [(false,1)] [] false
theorem c56:oA prog 56 zhz:=eC 123 (pc LG pn) func56 ⟨[],[(0,⟨[.slot 1 (.v .int)],[(4,121)],[]⟩)],[(2,⟨[.slot 1 (.v .int), .slot 5 (.v .int)],[(4,4),(6,121)],[]⟩)],[],[]⟩ (u2 (yE .Note)) (by kernel_rfl) λhb _ h=>UF rfl h
def zf4:=pA (kA 2) [.v .World, .v .int] [.v .int] (u2 Bf) [(false,1)] [] false
theorem OP:oA prog 16 zf4:=eR 42 (pc fU (pc c52 (pc c53 (pc hU (pc YT (pc c56 pn)))))) func16 a0 (by kernel_rfl)
def ci3:=pA (kA 2) [.v .World, .sl .Wire] [.v .bool] (λx=>some (UO x.1 x.2)) [(false,1)] [] false
theorem c3:oA prog 3 ci3:=eL 92 (pc c6 (pc c7 (pc c8 (pc c9 (pc fD (pc zD (pc CJ (pc AJ (pc OP pn))))))))) (mc SK (mc oU mn)) func3 [(19,1),(20,1),(24,1)] [(9,[(7,true)]),(10,[(8,false)]),(11,[(9,true)]),(31,[(13,true)])] [(0,[2]),(8,[6])] (u2 Et) (by kernel_rfl) GJ.ok
end
end Go.D

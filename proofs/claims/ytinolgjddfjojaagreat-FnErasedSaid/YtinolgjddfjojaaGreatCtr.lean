/-
  The functions of the program: each computes what is said of it.
-/
import Derived.Test.YtinolgjddfjojaaGreatE1
import Derived.Test.YtinolgjddfjojaaGreatProg
import Derived.KernelRfl
namespace Go.D
open Go.Proofs
open Tryz
noncomputable section
def tnT:TypeId→Option TN:=fun t=>look t [(3, .int),(5, .byte),(22, .bs),(45, .Frame),(56, .Client),(63, .Sess),(73, .Note),(102, .Event),(127, .Op),(129, .Wire),(191, .Out),(242, .Credit),(275, .Cand)]
def an0:An:=⟨[],[],[],[],[]⟩
theorem tn_mixed:Tryz.prog.follows .mixedOrders=true:=by kernel_rfl
def TL:List (TypeId × TN):=[(3, .int),(5, .byte),(22, .bs),(45, .Frame),(56, .Client),(63, .Sess),(73, .Note),(102, .Event),(127, .Op),(129, .Wire),(191, .Out),(242, .Credit),(275, .Cand)]
theorem tn_ok:tnAll prog TL=true:=by kernel_rfl
theorem pn {n:Nat}:PhiOk ⟨prog,fun t=>look t TL,fun f=>lookC f [],n,noGl⟩:=phi_nil
theorem pc {n g:Nat} {ci:CInfo} {l:List (Nat × CInfo)} (h:Contract prog (g % 1048576) ci) (k:PhiOk ⟨prog,fun t=>look t TL,fun f=>lookC f l,n,noGl⟩):PhiOk ⟨prog,fun t=>look t TL,fun f=>lookC f ((g,ci) :: l),n,noGl⟩:=phi_cons h k
theorem eC {f:Nat} {fn:Func} {ks:List ArgK} {ats rts:List Ty} {F:TyTup ats→Option (TyTup rts)} {sh:List (Bool × Nat)} {own:List Nat} (n:Nat) {l:List (Nat × CInfo)}
    (hΦ:PhiOk ⟨prog,fun t=>look t TL,fun f=>lookC f l,n,noGl⟩) (hf:prog.funcs[f]?=some fn) (an:An) (Raw:TyTup ats→Option (TyTup rts))
    (h0 : (fn.body.isSome && !(fn.name == "runtime.NumGoroutine") && Nat.beq n fn.ntmps && ksOk ks ats && Nat.ble ks.length fn.ntmps) = true)
    (he:∀ x,evalF ⟨prog,fun t=>look t TL,fun f=>lookC f l,n,noGl⟩ fn (fn.body.getD .skip) an ks own sh rts (encTup ats x)=Raw x) (hok:∀ x r,bdTup ats x→F x=some r→Raw x=some r):
    Contract prog f (mkCI ks ats rts F sh own false):=evC n tn_mixed tn_ok hΦ hf an Raw h0 he hok
theorem eP {f:Nat} {fn:Func} {m:Nat} {ats rts:List Ty} {F:TyTup ats→Option (TyTup rts)} {sh:List (Bool × Nat)} (n:Nat) {l:List (Nat × CInfo)}
    (hΦ:PhiOk ⟨prog,fun t=>look t TL,fun f=>lookC f l,n,noGl⟩) (hf:prog.funcs[f]?=some fn) (an:An) (Raw:TyTup ats→Option (TyTup rts))
    (h0 : (fn.body.isSome && !(fn.name == "runtime.NumGoroutine") && Nat.beq n fn.ntmps && ksOk (plains m) ats && Nat.ble m fn.ntmps) = true)
    (he:∀ x,evalP ⟨prog,fun t=>look t TL,fun f=>lookC f l,n,noGl⟩ fn (fn.body.getD .skip) an (plains m) rts (encTup ats x)=Raw x) (hok:∀ x r,bdTup ats x→F x=some r→Raw x=some r):
    Contract prog f (mkCI (plains m) ats rts F sh [] true):=evP n tn_mixed tn_ok hΦ hf an Raw h0 he hok
def ci5:CInfo:=mkCI (plains 1) [.sl .byte] [.v .bool] (fun x=>some (big x)) [(false,1)] [] false
theorem c5:Contract prog 5 ci5:=eC 6 pn func5 an0 (fun x=>laws_big.raw x) (by kernel_rfl) (fun x=>by kernel_rfl) fun x r hb h=>(laws_big.ok hb).trans h
def an26:An:=⟨[],[(0,⟨[.slot 3 (.v .int)],[(4,4),(8,27)],[]⟩)],[(3,⟨[.slot 3 (.v .int), .slot 4 (.v .int)],[(8,27)],[]⟩)],[(3,⟨[.slot 15 (.v .bool)],[(8,14)],[]⟩)],[]⟩
def ci26:CInfo:=mkCI (plains 1) [.sl .byte] [.cells .Cur] (fun x=>spec_l1New.raw x) [(false,1)] [] true
theorem c26:Contract prog 26 ci26:=eP 32 pn func26 an26 (fun x=>spec_l1New.raw x) (by kernel_rfl) (fun x=>by kernel_rfl) fun x r hb h=>h
def ci28:CInfo:=mkCI (plains 2) [.sl .byte, .v .int] [.v .int] (fun x=>spec_l1Size.raw x.1 x.2) [(false,1)] [] false
theorem c28:Contract prog 28 ci28:=eC 15 pn func28 an0 (fun x=>spec_l1Size.raw x.1 x.2) (by kernel_rfl) (fun x=>by kernel_rfl) fun x r hb h=>h
def an47:An:=⟨[(2228229,⟨[.slot 3 (.v .int), .box 0 .Cur []],[(35,56)],[]⟩)],[],[],[],[]⟩
def ci47:CInfo:=mkCI [.ptr []] [.cells .Cur] [.v .int, .cells .Cur] (fun x=>spec_l1Byte.raw x) [(false,1)] [] false
theorem c47:Contract prog 47 ci47:=eC 58 pn func47 an47 (fun x=>spec_l1Byte.raw x) (by kernel_rfl) (fun x=>by kernel_rfl) fun x r hb h=>h
def ci31:CInfo:=mkCI [.ptr [], .plain] [.cells .Cur, .v .int] [.v .int, .cells .Cur] (fun x=>spec_l1Below.raw x.1 x.2) [(false,1)] [] false
theorem c31:Contract prog 31 ci31:=eC 31 (l:=[(47,ci47)]) (pc c47 pn) func31 an0 (fun x=>spec_l1Below.raw x.1 x.2) (by kernel_rfl) (fun x=>by kernel_rfl) fun x r hb h=>h
def ci32:CInfo:=mkCI [.ptr [], .plain] [.cells .Cur, .v .int] [.v .bool, .cells .Cur] (fun x=>spec_l1Once.raw x.1 x.2) [(false,1)] [] false
theorem c32:Contract prog 32 ci32:=eC 9 (l:=[(31,ci31)]) (pc c31 pn) func32 an0 (fun x=>spec_l1Once.raw x.1 x.2) (by kernel_rfl) (fun x=>by kernel_rfl) fun x r hb h=>h
def an49:An:=⟨[],[(0,⟨[.own 5 .byte, .box 0 .Cur []],[(6,6),(8,18)],[]⟩)],[(3,⟨[.own 5 .byte, .slot 6 (.v .int), .box 0 .Cur []],[(8,18)],[]⟩)],[],[]⟩
def ci49:CInfo:=mkCI [.ptr [], .plain] [.cells .Cur, .v .int] [.sl .byte, .cells .Cur] (fun x=>spec_l1Bytes.raw x.1 x.2) [(false,1)] [0] false
theorem c49:Contract prog 49 ci49:=eC 20 (l:=[(47,ci47)]) (pc c47 pn) func49 an49 (fun x=>spec_l1Bytes.raw x.1 x.2) (by kernel_rfl) (fun x=>by kernel_rfl) fun x r hb h=>h
def ci78:CInfo:=mkCI (plains 1) [.v .Dice] [.v .Dice] (fun x=>diceCopyO x) [(true,2)] [0] false
theorem c78:Contract prog 78 ci78:=eC 10 pn func78 an0 (fun x=>spec_l10Copy.raw x) (by kernel_rfl) (fun x=>by kernel_rfl) fun x r hb h=>spec_l10Copy.ok hb h
def an72:An:=⟨[],[],[],[(1,⟨[.slot 6 (.v .bool)],[(7,14)],[]⟩)],[]⟩
def ci72:CInfo:=mkCI (plains 3) [.v .int, .v .int, .v .int] [.v .bool] (fun x=>some (inR x.1 x.2.1 x.2.2)) [(false,1)] [] false
theorem c72:Contract prog 72 ci72:=eC 15 pn func72 an72 (fun x=>spec_l1In.raw x.1 x.2.1 x.2.2) (by kernel_rfl) (fun x=>by kernel_rfl) fun x r hb h=>(spec_l1In.ok hb).trans h
def an126:An:=⟨[],[],[],[(1,⟨[.slot 2 (.v .bool)],[(3,11)],[]⟩)],[]⟩
def ci126:CInfo:=mkCI (plains 1) [.v .Dice] [.v .bool] (fun x=>some (diceOk x)) [(false,1)] [] false
theorem c126:Contract prog 126 ci126:=eC 12 (l:=[(72,ci72)]) (pc c72 pn) func126 an126 (fun x=>spec_DiceOk.raw x) (by kernel_rfl) (fun x=>by kernel_rfl) fun x r hb h=>(spec_DiceOk.ok hb).trans h
def an124:An:=⟨[],[(0,⟨[.own 7 .byte],[(8,8),(21,33)],[]⟩)],[(5,⟨[.own 7 .byte, .slot 8 (.v .int)],[(21,33)],[]⟩)],[(2,⟨[.slot 17 (.v .bool)],[(12,16)],[]⟩)],[]⟩
def ci124:CInfo:=mkCI (plains 3) [.sl .byte, .v .int, .v .int] [.sl .byte] (fun x=>putNO x.1 x.2.1 x.2.2) [(false,1)] [0] false
theorem c124:Contract prog 124 ci124:=eC 35 pn func124 an124 (fun x=>spec_PutN.raw x.1 x.2.1 x.2.2) (by kernel_rfl) (fun x=>by kernel_rfl) fun x r hb h=>spec_PutN.ok hb h
def an216:An:=⟨[],[(0,⟨[.own 3 .byte],[(12,21)],[]⟩)],[(4,⟨[.own 3 .byte],[(12,21)],[]⟩)],[(1,⟨[.slot 9 (.v .bool)],[(4,8)],[]⟩)],[]⟩
def ci216:CInfo:=mkCI (plains 1) [.v .int] [.sl .byte] (fun x=>padO x) [(false,1)] [0] false
theorem c216:Contract prog 216 ci216:=eC 27 (l:=[(124,ci124)]) (pc c124 pn) func216 an216 (fun x=>spec_Pad.raw x) (by kernel_rfl) (fun x=>by kernel_rfl) fun x r hb h=>spec_Pad.ok hb h
def ci217:CInfo:=mkCI (plains 0) [] [.sl .int] (fun _=>some (start)) [(false,1)] [0] false
theorem c217:Contract prog 217 ci217:=eC 2 pn func217 an0 (fun _=>spec_Start.raw) (by kernel_rfl) (fun x=>by kernel_rfl) fun x r hb h=>(spec_Start.ok hb).trans h
def an243:An:=⟨[],[(0,⟨[],[(2,15)],[]⟩)],[(2,⟨[.slot 3 (.v .int)],[(2,2),(4,15)],[]⟩)],[],[]⟩
def ci243:CInfo:=mkCI (plains 1) [.sl .int] [.v .bool] (fun x=>some (words8 x)) [(false,1)] [] false
theorem c243:Contract prog 243 ci243:=eC 19 (l:=[(72,ci72)]) (pc c72 pn) func243 an243 (fun x=>spec_l2Words.raw x) (by kernel_rfl) (fun x=>by kernel_rfl) fun x r hb h=>(spec_l2Words.ok hb).trans h
def ci244:CInfo:=mkCI (plains 0) [] [.sl .int] (fun _=>some (kTab)) [(false,1)] [0] false
theorem c244:Contract prog 244 ci244:=eC 2 pn func244 an0 (fun _=>spec_l2K.raw) (by kernel_rfl) (fun x=>by kernel_rfl) fun x r hb h=>(spec_l2K.ok hb).trans h
def an211:An:=⟨[],[(0,⟨[.slot 9 (.v .int)],[(10,10),(29,43)],[]⟩)],[(5,⟨[.slot 9 (.v .int), .slot 10 (.v .int)],[(29,43)],[]⟩)],[(1,⟨[.slot 28 (.v .bool)],[(11,27)],[]⟩)],[]⟩
def ci211:CInfo:=mkCI (plains 3) [.sl .byte, .v .int, .v .int] [.v .int, .v .int, .v .bool] (fun x=>getNO x.1 x.2.1 x.2.2) [(false,1),(false,1),(false,1)] [] false
theorem c211:Contract prog 211 ci211:=eC 48 pn func211 an211 (fun x=>spec_GetN.raw x.1 x.2.1 x.2.2) (by kernel_rfl) (fun x=>by kernel_rfl) fun x r hb h=>spec_GetN.ok hb h
def an246:An:=⟨[],[],[],[(2,⟨[.slot 13 (.v .bool)],[(8,12)],[]⟩)],[]⟩
def ci246:CInfo:=mkCI (plains 2) [.v .int, .v .int] [.v .int] (fun x=>rotO x.1 x.2) [(false,1)] [] false
theorem c246:Contract prog 246 ci246:=eC 24 pn func246 an246 (fun x=>spec_Rot.raw x.1 x.2) (by kernel_rfl) (fun x=>by kernel_rfl) fun x r hb h=>spec_Rot.ok hb h
def an245:An:=⟨[],[(0,⟨[.own 3 .int],[(4,7),(18,33)],[]⟩),(2,⟨[.own 3 .int],[(8,12),(34,82)],[]⟩)],[(5,⟨[.own 3 .int, .slot 4 (.v .int)],[(5,7),(18,33)],[]⟩),(10,⟨[.own 3 .int, .slot 8 (.v .int)],[(9,12),(34,82)],[]⟩)],[],[]⟩
def ci245:CInfo:=mkCI (plains 1) [.sl .byte] [.sl .int] (fun x=>scheduleO x) [(false,1)] [0] false
theorem c245:Contract prog 245 ci245:=eC 84 (l:=[(211,ci211),(246,ci246)]) (pc c211 (pc c246 pn)) func245 an245 (fun x=>spec_Schedule.raw x) (by kernel_rfl) (fun x=>by kernel_rfl) fun x r hb h=>spec_Schedule.ok hb h
def an218:An:=⟨[],[(0,⟨[.slot 8 (.v .int), .slot 9 (.v .int), .slot 10 (.v .int), .slot 11 (.v .int), .slot 12 (.v .int), .slot 13 (.v .int), .slot 14 (.v .int), .slot 15 (.v .int)],[(16,18),(60,128)],[]⟩),(2,⟨[.own 5 .int],[(20,20),(138,154)],[]⟩)],[(8,⟨[.slot 8 (.v .int), .slot 9 (.v .int), .slot 10 (.v .int), .slot 11 (.v .int), .slot 12 (.v .int), .slot 13 (.v .int), .slot 14 (.v .int), .slot 15 (.v .int), .slot 16 (.v .int)],[(17,18),(60,128)],[]⟩),(22,⟨[.slot 20 (.v .int), .own 5 .int],[(138,154)],[]⟩)],[(2,⟨[.slot 31 (.v .bool)],[(24,30)],[]⟩)],[]⟩
def ci218:CInfo:=mkCI (plains 2) [.sl .int, .sl .byte] [.sl .int] (fun x=>compressO x.1 x.2) [(false,1)] [0] false
theorem c218:Contract prog 218 ci218:=eC 156 (l:=[(243,ci243),(244,ci244),(245,ci245),(246,ci246)]) (pc c243 (pc c244 (pc c245 (pc c246 pn)))) func218 an218 (fun x=>spec_Compress.raw x.1 x.2) (by kernel_rfl) (fun x=>by kernel_rfl) fun x r hb h=>spec_Compress.ok hb h
def an219:An:=⟨[],[(0,⟨[.own 3 .byte],[(4,4),(6,15)],[]⟩)],[(3,⟨[.own 3 .byte, .slot 4 (.v .int)],[(6,15)],[]⟩)],[],[]⟩
def ci219:CInfo:=mkCI (plains 1) [.sl .int] [.sl .byte] (fun x=>wordBytesO x) [(false,1)] [0] false
theorem c219:Contract prog 219 ci219:=eC 17 (l:=[(124,ci124)]) (pc c124 pn) func219 an219 (fun x=>spec_l2Out.raw x) (by kernel_rfl) (fun x=>by kernel_rfl) fun x r hb h=>spec_l2Out.ok hb h
def an188:An:=⟨[],[(0,⟨[.own 4 .int],[(5,5),(18,30)],[3]⟩)],[(6,⟨[.own 4 .int, .slot 5 (.v .int)],[(18,30)],[]⟩)],[],[]⟩
def ci188:CInfo:=mkCI (plains 1) [.sl .byte] [.sl .byte] (fun x=>some (sha x)) [(false,1)] [0] false
theorem c188:Contract prog 188 ci188:=eC 33 (l:=[(216,ci216),(217,ci217),(218,ci218),(219,ci219)]) (pc c216 (pc c217 (pc c218 (pc c219 pn)))) func188 an188 (fun x=>spec_Sha.raw x) (by kernel_rfl) (fun x=>by kernel_rfl) fun x r hb h=>(spec_Sha.ok hb).trans h
def an187:An:=⟨[(851974,⟨[.own 3 .byte],[(14,15)],[]⟩)],[(0,⟨[.own 3 .byte],[(16,21)],[]⟩)],[(6,⟨[.own 3 .byte],[(16,21)],[]⟩)],[],[]⟩
def ci187:CInfo:=mkCI (plains 1) [.sl .byte] [.sl .byte] (fun x=>some (blockKey x)) [(false,1)] [0] false
theorem c187:Contract prog 187 ci187:=eC 23 (l:=[(188,ci188)]) (pc c188 pn) func187 an187 (fun x=>spec_BlockKey.raw x) (by kernel_rfl) (fun x=>by kernel_rfl) fun x r hb h=>(spec_BlockKey.ok hb).trans h
def an144:An:=⟨[],[(0,⟨[.own 6 .byte, .own 7 .byte],[(8,8),(22,41)],[]⟩)],[(7,⟨[.own 6 .byte, .own 7 .byte, .slot 8 (.v .int)],[(22,41)],[]⟩)],[(1,⟨[.slot 16 (.v .bool)],[(9,15)],[]⟩)],[]⟩
def ci144:CInfo:=mkCI (plains 2) [.sl .byte, .sl .byte] [.sl .byte] (fun x=>some (hmac x.1 x.2)) [(false,1)] [0] false
theorem c144:Contract prog 144 ci144:=eC 49 (l:=[(187,ci187),(188,ci188)]) (pc c187 (pc c188 pn)) func144 an144 (fun x=>spec_Hmac.raw x.1 x.2) (by kernel_rfl) (fun x=>by kernel_rfl) fun x r hb h=>(spec_Hmac.ok hb).trans h
def an117:An:=⟨[],[],[],[(1,⟨[.slot 13 (.v .bool)],[(5,12)],[]⟩)],[]⟩
def ci117:CInfo:=mkCI (plains 2) [.sl .byte, .v .int] [.sl .byte] (fun x=>some (diceAt x.1 x.2)) [(false,1)] [0] false
theorem c117:Contract prog 117 ci117:=eC 24 (l:=[(72,ci72),(124,ci124),(144,ci144)]) (pc c72 (pc c124 (pc c144 pn))) func117 an117 (fun x=>spec_DiceAt.raw x.1 x.2) (by kernel_rfl) (fun x=>by kernel_rfl) fun x r hb h=>(spec_DiceAt.ok hb).trans h
def an84:An:=⟨[],[],[],[(2,⟨[.slot 14 (.v .bool)],[(7,13)],[]⟩)],[]⟩
def ci84:CInfo:=mkCI (plains 1) [.v .Dice] [.v .Dice, .sl .byte] (fun x=>rollO x) [(true,2),(false,1)] [0,2] false
theorem c84:Contract prog 84 ci84:=eC 27 (l:=[(78,ci78),(117,ci117),(126,ci126)]) (pc c78 (pc c117 (pc c126 pn))) func84 an84 (fun x=>spec_Roll.raw x) (by kernel_rfl) (fun x=>by kernel_rfl) fun x r hb h=>spec_Roll.ok hb h
def an109:An:=⟨[],[(0,⟨[.own 8 .byte, .own 9 .byte],[(10,10),(27,46)],[]⟩)],[(6,⟨[.own 8 .byte, .own 9 .byte, .slot 10 (.v .int)],[(27,46)],[]⟩)],[(1,⟨[.slot 23 (.v .bool)],[(11,22)],[]⟩)],[]⟩
def ci109:CInfo:=mkCI (plains 3) [.sl .byte, .sl .byte, .v .int] [.sl .byte, .v .bool] (fun x=>some (expand x.1 x.2.1 x.2.2)) [(false,1),(false,1)] [0] false
theorem c109:Contract prog 109 ci109:=eC 52 (l:=[(72,ci72),(144,ci144)]) (pc c72 (pc c144 pn)) func109 an109 (fun x=>spec_Expand.raw x.1 x.2.1 x.2.2) (by kernel_rfl) (fun x=>by kernel_rfl) fun x r hb h=>(spec_Expand.ok hb).trans h
def ci69:CInfo:=mkCI (plains 2) [.sl .byte, .v .str] [.sl .byte] (fun x=>deriveO x.1 x.2) [(false,1)] [0] false
theorem c69:Contract prog 69 ci69:=eC 15 (l:=[(109,ci109)]) (pc c109 pn) func69 an0 (fun x=>spec_Derive.raw x.1 x.2) (by kernel_rfl) (fun x=>by kernel_rfl) fun x r hb h=>spec_Derive.ok hb h
def ci147:CInfo:=mkCI (plains 1) [.sl .byte] [.v .Jar] (fun x=>some (jarNew x)) [(true,1)] [0] false
theorem c147:Contract prog 147 ci147:=eC 10 (l:=[(69,ci69)]) (pc c69 pn) func147 an0 (fun x=>spec_JarNew.raw x) (by kernel_rfl) (fun x=>by kernel_rfl) fun x r hb h=>(spec_JarNew.ok hb).trans h
def ci148:CInfo:=mkCI (plains 1) [.v .int] [.v .Tab] (fun x=>some (tabNew x)) [(true,2)] [1] false
theorem c148:Contract prog 148 ci148:=eC 9 (l:=[(72,ci72)]) (pc c72 pn) func148 an0 (fun x=>spec_TabNew.raw x) (by kernel_rfl) (fun x=>by kernel_rfl) fun x r hb h=>(spec_TabNew.ok hb).trans h
def ci161:CInfo:=mkCI (plains 1) [.v .Jar] [.v .bool] (fun x=>some (jarOk x)) [(false,1)] [] false
theorem c161:Contract prog 161 ci161:=eC 7 pn func161 an0 (fun x=>spec_JarOk.raw x) (by kernel_rfl) (fun x=>by kernel_rfl) fun x r hb h=>(spec_JarOk.ok hb).trans h
def an192:An:=⟨[(1179655,⟨[.slot 3 (.v .int)],[(19,20)],[]⟩)],[(0,⟨[.slot 3 (.v .int)],[(4,20)],[]⟩)],[(3,⟨[.slot 3 (.v .int), .slot 4 (.v .int)],[(5,20)],[]⟩)],[],[]⟩
def ci192:CInfo:=mkCI (plains 1) [.v .Tab] [.v .int] (fun x=>liveO x) [(false,1)] [] false
theorem c192:Contract prog 192 ci192:=eC 22 pn func192 an192 (fun x=>spec_Live.raw x) (by kernel_rfl) (fun x=>by kernel_rfl) fun x r hb h=>spec_Live.ok hb h
def an74:An:=⟨[],[],[],[(1,⟨[.slot 2 (.v .bool)],[(3,29)],[]⟩)],[]⟩
def ci74:CInfo:=mkCI (plains 1) [.v .Ep] [.v .bool] (fun x=>some (noEp x)) [(false,1)] [] false
theorem c74:Contract prog 74 ci74:=eC 30 pn func74 an74 (fun x=>spec_l14None.raw x) (by kernel_rfl) (fun x=>by kernel_rfl) fun x r hb h=>(spec_l14None.ok hb).trans h
def an174:An:=⟨[],[],[],[(1,⟨[.slot 2 (.v .bool)],[(3,37)],[]⟩)],[]⟩
def ci174:CInfo:=mkCI (plains 1) [.v .Chan] [.v .bool] (fun x=>some (noChan x)) [(false,1)] [] false
theorem c174:Contract prog 174 ci174:=eC 38 (l:=[(74,ci74)]) (pc c74 pn) func174 an174 (fun x=>spec_l19NoChan.raw x) (by kernel_rfl) (fun x=>by kernel_rfl) fun x r hb h=>(spec_l19NoChan.ok hb).trans h
def ci55:CInfo:=mkCI (plains 1) [.v .int] [.v .Addr] (fun x=>some (near x)) [(true,2)] [] false
theorem c55:Contract prog 55 ci55:=eC 12 (l:=[(72,ci72)]) (pc c72 pn) func55 an0 (fun x=>spec_Near.raw x) (by kernel_rfl) (fun x=>by kernel_rfl) fun x r hb h=>(spec_Near.ok hb).trans h
def ci157:CInfo:=mkCI (plains 2) [.v .Win, .v .int] [.v .bool] (fun x=>bitO x.1 x.2) [(false,1)] [] false
theorem c157:Contract prog 157 ci157:=eC 19 pn func157 an0 (fun x=>spec_l8Bit.raw x.1 x.2) (by kernel_rfl) (fun x=>by kernel_rfl) fun x r hb h=>spec_l8Bit.ok hb h
def an110:An:=⟨[],[(0,⟨[],[(2,3),(15,25)],[]⟩),(2,⟨[],[(2,2),(4,4),(39,45)],[]⟩)],[(4,⟨[.slot 3 (.v .int)],[(2,2),(15,25)],[]⟩),(11,⟨[.slot 4 (.v .int)],[(2,2),(39,45)],[]⟩)],[(1,⟨[.slot 14 (.v .bool)],[(5,13)],[]⟩),(8,⟨[.slot 35 (.v .bool)],[(26,34)],[]⟩)],[]⟩
def ci110:CInfo:=mkCI (plains 1) [.v .Win] [.v .bool] (fun x=>some (winOk x)) [(false,1)] [] false
theorem c110:Contract prog 110 ci110:=eC 46 (l:=[(72,ci72),(157,ci157)]) (pc c72 (pc c157 pn)) func110 an110 (fun x=>spec_WinOk.raw x) (by kernel_rfl) (fun x=>by kernel_rfl) fun x r hb h=>(spec_WinOk.ok hb).trans h
def an73:An:=⟨[],[],[],[(1,⟨[.slot 2 (.v .bool)],[(3,21)],[]⟩)],[]⟩
def ci73:CInfo:=mkCI (plains 1) [.v .Ep] [.v .bool] (fun x=>some (epOk x)) [(false,1)] [] false
theorem c73:Contract prog 73 ci73:=eC 22 (l:=[(72,ci72),(110,ci110)]) (pc c72 (pc c110 pn)) func73 an73 (fun x=>spec_EpOk.raw x) (by kernel_rfl) (fun x=>by kernel_rfl) fun x r hb h=>(spec_EpOk.ok hb).trans h
def an52:An:=⟨[(1376261,⟨[],[(2,3),(22,54)],[]⟩),(1572871,⟨[.slot 3 (.v .int)],[],[]⟩)],[],[],[(1,⟨[.slot 19 (.v .bool)],[(4,18)],[]⟩),(7,⟨[.slot 45 (.v .bool)],[(25,44)],[]⟩),(9,⟨[.slot 54 (.v .bool)],[(46,53)],[]⟩),(13,⟨[.slot 2 (.v .bool)],[(59,73)],[]⟩)],[]⟩
def ci52:CInfo:=mkCI (plains 1) [.v .Chan] [.v .bool] (fun x=>chanOkO x) [(false,1)] [] false
theorem c52:Contract prog 52 ci52:=eC 74 (l:=[(72,ci72),(73,ci73),(74,ci74)]) (pc c72 (pc c73 (pc c74 pn))) func52 an52 (fun x=>spec_ChanOk.raw x) (by kernel_rfl) (fun x=>by kernel_rfl) fun x r hb h=>spec_ChanOk.ok hb h
def ci38:CInfo:=mkCI (plains 2) [.sl .byte, .sl .byte] [.v .bool] (fun x=>sameO x.1 x.2) [(false,1)] [] false
theorem c38:Contract prog 38 ci38:=eC 10 pn func38 an0 (fun x=>spec_l1Same.raw x.1 x.2) (by kernel_rfl) (fun x=>by kernel_rfl) fun x r hb h=>spec_l1Same.ok hb h
def an138:An:=⟨[],[],[],[(1,⟨[.slot 2 (.v .bool)],[(3,10)],[]⟩)],[]⟩
def ci138:CInfo:=mkCI (plains 1) [.v .Addr] [.v .bool] (fun x=>some (addrOk x)) [(false,1)] [] false
theorem c138:Contract prog 138 ci138:=eC 11 (l:=[(72,ci72)]) (pc c72 pn) func138 an138 (fun x=>spec_AddrOk.raw x) (by kernel_rfl) (fun x=>by kernel_rfl) fun x r hb h=>(spec_AddrOk.ok hb).trans h
def an194:An:=⟨[],[(0,⟨[],[(2,5),(16,64)],[]⟩),(2,⟨[],[(2,2),(5,5),(51,64)],[]⟩)],[(4,⟨[.slot 3 (.v .int)],[(2,2),(4,5),(16,64)],[]⟩),(10,⟨[.slot 5 (.v .int)],[(2,2),(51,64)],[]⟩)],[(1,⟨[.slot 15 (.v .bool)],[(6,14)],[]⟩),(7,⟨[.slot 50 (.v .bool)],[(28,49)],[]⟩)],[]⟩
def ci194:CInfo:=mkCI (plains 1) [.v .Paths] [.v .bool] (fun x=>some (pathsOk x)) [(false,1)] [] false
theorem c194:Contract prog 194 ci194:=eC 65 (l:=[(72,ci72),(138,ci138)]) (pc c72 (pc c138 pn)) func194 an194 (fun x=>spec_PathsOk.raw x) (by kernel_rfl) (fun x=>by kernel_rfl) fun x r hb h=>(spec_PathsOk.ok hb).trans h
def an177:An:=⟨[],[],[],[(1,⟨[.slot 30 (.v .bool)],[(3,29)],[]⟩),(4,⟨[.slot 2 (.v .bool)],[(33,54)],[]⟩),(5,⟨[.slot 2 (.v .bool)],[(55,76)],[]⟩)],[]⟩
def ci177:CInfo:=mkCI (plains 1) [.v .Sess] [.v .bool] (fun x=>sessOkO x) [(false,1)] [] false
theorem c177:Contract prog 177 ci177:=eC 77 (l:=[(38,ci38),(52,ci52),(55,ci55),(72,ci72),(174,ci174),(194,ci194)]) (pc c38 (pc c52 (pc c55 (pc c72 (pc c174 (pc c194 pn)))))) func177 an177 (fun x=>spec_SessOk.raw x) (by kernel_rfl) (fun x=>by kernel_rfl) fun x r hb h=>spec_SessOk.ok hb h
def an182:An:=⟨[],[(0,⟨[],[(4,21)],[]⟩)],[(2,⟨[.slot 5 (.v .int)],[(4,4),(6,21)],[]⟩)],[],[]⟩
def ci182:CInfo:=mkCI (plains 2) [.v .Tab, .sl .byte] [.v .int] (fun x=>findSnO x.1 x.2) [(false,1)] [] false
theorem c182:Contract prog 182 ci182:=eC 22 (l:=[(38,ci38)]) (pc c38 pn) func182 an182 (fun x=>spec_FindSn.raw x.1 x.2) (by kernel_rfl) (fun x=>by kernel_rfl) fun x r hb h=>spec_FindSn.ok hb h
def an162:An:=⟨[],[(0,⟨[],[(2,3),(21,46)],[]⟩)],[(4,⟨[.slot 3 (.v .int)],[(2,2),(21,46)],[]⟩)],[(1,⟨[.slot 20 (.v .bool)],[(4,19)],[]⟩),(6,⟨[.slot 46 (.v .bool)],[(28,45)],[]⟩)],[]⟩
def ci162:CInfo:=mkCI (plains 1) [.v .Tab] [.v .bool] (fun x=>tabOkO x) [(false,1)] [] false
theorem c162:Contract prog 162 ci162:=eC 47 (l:=[(72,ci72),(177,ci177),(182,ci182),(192,ci192)]) (pc c72 (pc c177 (pc c182 (pc c192 pn)))) func162 an162 (fun x=>spec_TabOk.raw x) (by kernel_rfl) (fun x=>by kernel_rfl) fun x r hb h=>spec_TabOk.ok hb h
def an163:An:=⟨[],[(0,⟨[],[(2,4),(8,60)],[]⟩),(2,⟨[],[(2,2),(4,4),(45,60)],[]⟩)],[(4,⟨[.slot 3 (.v .int)],[(2,2),(4,4),(8,60)],[]⟩),(9,⟨[.slot 4 (.v .int)],[(2,2),(45,60)],[]⟩)],[(6,⟨[.slot 44 (.v .bool)],[(14,43)],[]⟩)],[]⟩
def ci163:CInfo:=mkCI (plains 1) [.sl .Credit] [.v .bool] (fun x=>some (creditsOk x)) [(false,1)] [] false
theorem c163:Contract prog 163 ci163:=eC 61 (l:=[(72,ci72),(138,ci138)]) (pc c72 (pc c138 pn)) func163 an163 (fun x=>spec_CreditsOk.raw x) (by kernel_rfl) (fun x=>by kernel_rfl) fun x r hb h=>(spec_CreditsOk.ok hb).trans h
def ci164:CInfo:=mkCI (plains 1) [.sl .byte] [.v .bool] (fun x=>some (pskOk x)) [(false,1)] [] false
theorem c164:Contract prog 164 ci164:=eC 6 (l:=[(72,ci72)]) (pc c72 pn) func164 an0 (fun x=>spec_PskOk.raw x) (by kernel_rfl) (fun x=>by kernel_rfl) fun x r hb h=>(spec_PskOk.ok hb).trans h
def an114:An:=⟨[],[(0,⟨[],[(2,3),(34,47)],[]⟩),(2,⟨[],[(2,2),(4,4),(48,66)],[]⟩)],[(4,⟨[.slot 3 (.v .int)],[(2,2),(34,47)],[]⟩),(9,⟨[.slot 4 (.v .int)],[(2,2),(48,66)],[]⟩)],[(1,⟨[.slot 33 (.v .bool)],[(5,32)],[]⟩)],[]⟩
def ci114:CInfo:=mkCI (plains 1) [.v .Server] [.v .bool] (fun x=>serverOkO x) [(false,1)] [] false
theorem c114:Contract prog 114 ci114:=eC 67 (l:=[(72,ci72),(126,ci126),(161,ci161),(162,ci162),(163,ci163),(164,ci164)]) (pc c72 (pc c126 (pc c161 (pc c162 (pc c163 (pc c164 pn)))))) func114 an114 (fun x=>spec_ServerOk.raw x) (by kernel_rfl) (fun x=>by kernel_rfl) fun x r hb h=>spec_ServerOk.ok hb h
def an113:An:=⟨[],[(0,⟨[.box 9 .Server [0,1,2,5,6]],[(10,10),(23,39)],[]⟩)],[(4,⟨[.slot 10 (.v .int), .box 9 .Server [0,1,2,5,6]],[(23,39)],[]⟩)],[],[]⟩
def ci113:CInfo:=mkCI (plains 3) [.sl .bs, .sl .byte, .v .int] [.v .Server] (fun x=>serverNewO x.1 x.2.1 x.2.2) [(true,7)] [0,1,2,5,6] false
theorem c113:Contract prog 113 ci113:=eC 45 (l:=[(84,ci84),(114,ci114),(147,ci147),(148,ci148)]) (pc c84 (pc c114 (pc c147 (pc c148 pn)))) func113 an113 (fun x=>spec_ServerNew.raw x.1 x.2.1 x.2.2) (by kernel_rfl) (fun x=>by kernel_rfl) fun x r hb h=>spec_ServerNew.ok hb h
def an115:An:=⟨[(589828,⟨[.own 3 .byte],[(10,11)],[]⟩)],[],[],[],[]⟩
def ci115:CInfo:=mkCI (plains 1) [.sl .byte] [.sl .byte] (fun x=>seed25O x) [(false,1)] [0] false
theorem c115:Contract prog 115 ci115:=eC 15 pn func115 an115 (fun x=>spec_l25Seed.raw x) (by kernel_rfl) (fun x=>by kernel_rfl) fun x r hb h=>spec_l25Seed.ok hb h
def an116:An:=⟨[],[],[],[(1,⟨[.slot 19 (.v .bool)],[(7,18)],[]⟩)],[]⟩
def ci116:CInfo:=mkCI (plains 3) [.v .int, .sl .byte, .v .Addr] [.v .Client] (fun x=>clientNewO x.1 x.2.1 x.2.2) [(true,41)] [1,5,8,9,11,12,15,16,18,20,23,25,28,31] false
theorem c116:Contract prog 116 ci116:=eC 27 (l:=[(72,ci72),(138,ci138),(164,ci164)]) (pc c72 (pc c138 (pc c164 pn))) func116 an116 (fun x=>spec_ClientNew.raw x.1 x.2.1 x.2.2) (by kernel_rfl) (fun x=>by kernel_rfl) fun x r hb h=>spec_ClientNew.ok hb h
def ci86:CInfo:=mkCI (plains 1) [.sl .byte] [.v .Note] (fun x=>noteRolledO x) [(true,12)] [3,4,7,8] false
theorem c86:Contract prog 86 ci86:=eC 7 pn func86 an0 (fun x=>spec_l22Rolled.raw x) (by kernel_rfl) (fun x=>by kernel_rfl) fun x r hb h=>spec_l22Rolled.ok hb h
def ci76:CInfo:=mkCI (plains 4) [.sl .byte, .sl .byte, .sl .byte, .v .int] [.v .World] (fun x=>worldNewO x.1 x.2.1 x.2.2.1 x.2.2.2) [(true,14)] [1,2,3,4,7,8,9,11,12,13] false
theorem c76:Contract prog 76 ci76:=eC 46 (l:=[(55,ci55),(86,ci86),(113,ci113),(114,ci114),(115,ci115),(116,ci116),(117,ci117)]) (pc c55 (pc c86 (pc c113 (pc c114 (pc c115 (pc c116 (pc c117 pn))))))) func76 an0 (fun x=>spec_WorldNew.raw x.1 x.2.1 x.2.2.1 x.2.2.2) (by kernel_rfl) (fun x=>by kernel_rfl) fun x r hb h=>spec_WorldNew.ok hb h
def ci57:CInfo:=mkCI [.ptr []] [.cells .Cur] [.v .World, .cells .Cur] (fun x=>spec_l26New.raw x) [(true,14)] [1,2,3,4,7,8,9,11,12,13] false
theorem c57:Contract prog 57 ci57:=eC 13 (l:=[(31,ci31),(49,ci49),(76,ci76)]) (pc c31 (pc c49 (pc c76 pn))) func57 an0 (fun x=>spec_l26New.raw x) (by kernel_rfl) (fun x=>by kernel_rfl) fun x r hb h=>h
def ci190:CInfo:=mkCI (plains 1) [.v .Win] [.v .Win] (fun x=>(fun (a0:G.Win)=>cpy a0) x) [(true,2)] [1] false
theorem c190:Contract prog 190 ci190:=eC 10 pn func190 an0 (fun x=>spec_l8Copy.raw x) (by kernel_rfl) (fun x=>by kernel_rfl) fun x r hb h=>spec_l8Copy.ok hb h
def ci166:CInfo:=mkCI (plains 1) [.v .Ep] [.v .Ep] (fun x=>(fun (a0:G.Ep)=>cpy a0) x) [(true,5)] [1,4] false
theorem c166:Contract prog 166 ci166:=eC 15 (l:=[(190,ci190)]) (pc c190 pn) func166 an0 (fun x=>spec_l9Copy.raw x) (by kernel_rfl) (fun x=>by kernel_rfl) fun x r hb h=>spec_l9Copy.ok hb h
def ci167:CInfo:=mkCI (plains 2) [.v .Ep, .v .bool] [.v .Ep] (fun x=>epCopyO x.1 x.2) [(true,5)] [1,4] false
theorem c167:Contract prog 167 ci167:=eC 27 (l:=[(166,ci166)]) (pc c166 pn) func167 an0 (fun x=>spec_l14Ep.raw x.1 x.2) (by kernel_rfl) (fun x=>by kernel_rfl) fun x r hb h=>spec_l14Ep.ok hb h
def ci120:CInfo:=mkCI (plains 1) [.v .Chan] [.v .Chan] (fun x=>(fun (a0:G.Chan)=>cpy a0) x) [(true,15)] [1,3,6,8,11,14] false
theorem c120:Contract prog 120 ci120:=eC 26 (l:=[(166,ci166),(167,ci167)]) (pc c166 (pc c167 pn)) func120 an0 (fun x=>spec_l14Copy.raw x) (by kernel_rfl) (fun x=>by kernel_rfl) fun x r hb h=>spec_l14Copy.ok hb h
def ci222:CInfo:=mkCI (plains 1) [.v .Cand] [.v .Cand] (fun x=>candCopyO x) [(true,4)] [2] false
theorem c222:Contract prog 222 ci222:=eC 12 pn func222 an0 (fun x=>spec_l16Cand.raw x) (by kernel_rfl) (fun x=>by kernel_rfl) fun x r hb h=>spec_l16Cand.ok hb h
def an193:An:=⟨[],[(0,⟨[.box 3 .Paths [2]],[(4,4),(8,25)],[]⟩)],[(3,⟨[.slot 4 (.v .int), .box 3 .Paths [2]],[(8,25)],[]⟩)],[],[]⟩
def ci193:CInfo:=mkCI (plains 1) [.v .Paths] [.v .Paths] (fun x=>(fun (a0:G.Paths)=>cpy a0) x) [(true,3)] [2] false
theorem c193:Contract prog 193 ci193:=eC 27 (l:=[(222,ci222)]) (pc c222 pn) func193 an193 (fun x=>spec_l16Copy.raw x) (by kernel_rfl) (fun x=>by kernel_rfl) fun x r hb h=>spec_l16Copy.ok hb h
def ci165:CInfo:=mkCI (plains 1) [.v .Sess] [.v .Sess] (fun x=>(fun (a0:G.Sess)=>cpy a0) x) [(true,24)] [1,2,4,6,9,11,14,17,20] false
theorem c165:Contract prog 165 ci165:=eC 24 (l:=[(120,ci120),(193,ci193)]) (pc c120 (pc c193 pn)) func165 an0 (fun x=>spec_l20Copy.raw x) (by kernel_rfl) (fun x=>by kernel_rfl) fun x r hb h=>spec_l20Copy.ok hb h
def an118:An:=⟨[],[(0,⟨[.box 3 .Tab [1]],[(4,4),(8,25)],[]⟩)],[(3,⟨[.slot 4 (.v .int), .box 3 .Tab [1]],[(8,25)],[]⟩)],[],[]⟩
def ci118:CInfo:=mkCI (plains 1) [.v .Tab] [.v .Tab] (fun x=>(fun (a0:G.Tab)=>cpy a0) x) [(true,2)] [1] false
theorem c118:Contract prog 118 ci118:=eC 27 (l:=[(165,ci165)]) (pc c165 pn) func118 an118 (fun x=>spec_l21Copy.raw x) (by kernel_rfl) (fun x=>by kernel_rfl) fun x r hb h=>spec_l21Copy.ok hb h
def an77:An:=⟨[],[(0,⟨[.box 3 .Server [0,1,2,5,6]],[(4,4),(22,40)],[]⟩)],[(3,⟨[.slot 4 (.v .int), .box 3 .Server [0,1,2,5,6]],[(22,40)],[]⟩)],[],[]⟩
def ci77:CInfo:=mkCI (plains 1) [.v .Server] [.v .Server] (fun x=>(fun (a0:G.Server)=>cpy a0) x) [(true,7)] [0,1,2,5,6] false
theorem c77:Contract prog 77 ci77:=eC 42 (l:=[(78,ci78),(118,ci118)]) (pc c78 (pc c118 pn)) func77 an77 (fun x=>spec_l22Copy.raw x) (by kernel_rfl) (fun x=>by kernel_rfl) fun x r hb h=>spec_l22Copy.ok hb h
def an79:An:=⟨[],[(0,⟨[.own 3 .Wire],[(4,4),(6,32)],[]⟩)],[(3,⟨[.own 3 .Wire, .slot 4 (.v .int)],[(6,32)],[]⟩)],[],[]⟩
def ci79:CInfo:=mkCI (plains 1) [.sl .Wire] [.sl .Wire] (fun x=>(fun (a0:List G.Wire)=>cpy a0) x) [(false,1)] [0] false
theorem c79:Contract prog 79 ci79:=eC 34 pn func79 an79 (fun x=>spec_l23Copy.raw x) (by kernel_rfl) (fun x=>by kernel_rfl) fun x r hb h=>spec_l23Copy.ok hb h
def ci51:CInfo:=mkCI (plains 1) [.v .Note] [.v .Note] (fun x=>(fun (a0:G.Note)=>cpy a0) x) [(true,12)] [3,4,7,8] false
theorem c51:Contract prog 51 ci51:=eC 24 pn func51 an0 (fun x=>spec_l18Copy.raw x) (by kernel_rfl) (fun x=>by kernel_rfl) fun x r hb h=>spec_l18Copy.ok hb h
def an34:An:=⟨[],[(0,⟨[.own 3 .Note],[(4,4),(6,19)],[]⟩)],[(3,⟨[.own 3 .Note, .slot 4 (.v .int)],[(6,19)],[]⟩)],[],[]⟩
def ci34:CInfo:=mkCI (plains 1) [.sl .Note] [.sl .Note] (fun x=>(fun (a0:List G.Note)=>cpy a0) x) [(false,1)] [0] false
theorem c34:Contract prog 34 ci34:=eC 21 (l:=[(51,ci51)]) (pc c51 pn) func34 an34 (fun x=>spec_l18All.raw x) (by kernel_rfl) (fun x=>by kernel_rfl) fun x r hb h=>spec_l18All.ok hb h
def ci119:CInfo:=mkCI (plains 1) [.v .Frame] [.v .Frame] (fun x=>(fun (a0:G.Frame)=>cpy a0) x) [(true,11)] [2,3,5,6,9,10] false
theorem c119:Contract prog 119 ci119:=eC 34 pn func119 an0 (fun x=>spec_l7Copy.raw x) (by kernel_rfl) (fun x=>by kernel_rfl) fun x r hb h=>spec_l7Copy.ok hb h
def ci80:CInfo:=mkCI (plains 1) [.v .Client] [.v .Client] (fun x=>(fun (a0:G.Client)=>cpy a0) x) [(true,41)] [1,5,8,9,11,12,15,16,18,20,23,25,28,31] false
theorem c80:Contract prog 80 ci80:=eC 24 (l:=[(119,ci119),(120,ci120)]) (pc c119 (pc c120 pn)) func80 an0 (fun x=>spec_l19Copy.raw x) (by kernel_rfl) (fun x=>by kernel_rfl) fun x r hb h=>spec_l19Copy.ok hb h
def an58:An:=⟨[],[(0,⟨[.box 3 .World [1,2,3,4,7,8,9,11,12,13]],[(4,4),(21,38)],[]⟩),(2,⟨[.box 3 .World [1,2,3,4,7,8,9,11,12,13]],[(5,5),(39,57)],[]⟩)],[(3,⟨[.slot 4 (.v .int), .box 3 .World [1,2,3,4,7,8,9,11,12,13]],[(21,38)],[]⟩),(7,⟨[.slot 5 (.v .int), .box 3 .World [1,2,3,4,7,8,9,11,12,13]],[(39,57)],[]⟩)],[],[]⟩
def ci58:CInfo:=mkCI (plains 1) [.v .World] [.v .World] (fun x=>(fun (a0:G.World)=>cpy a0) x) [(true,14)] [1,2,3,4,7,8,9,11,12,13] false
theorem c58:Contract prog 58 ci58:=eC 59 (l:=[(34,ci34),(77,ci77),(78,ci78),(79,ci79),(80,ci80)]) (pc c34 (pc c77 (pc c78 (pc c79 (pc c80 pn))))) func58 an58 (fun x=>spec_l25Copy.raw x) (by kernel_rfl) (fun x=>by kernel_rfl) fun x r hb h=>spec_l25Copy.ok hb h
def ci35:CInfo:=mkCI [.ptr [], .plain] [.cells .Cur, .sl .int] [.v .int, .cells .Cur] (fun x=>spec_l1Int.raw x.1 x.2) [(false,1)] [] false
theorem c35:Contract prog 35 ci35:=eC 12 (l:=[(31,ci31)]) (pc c31 pn) func35 an0 (fun x=>spec_l1Int.raw x.1 x.2) (by kernel_rfl) (fun x=>by kernel_rfl) fun x r hb h=>h
def an121:An:=⟨[(655364,⟨[.box 0 .Cur [], .box 3 .Op [3]],[(11,16)],[]⟩)],[],[],[],[]⟩
def ci121:CInfo:=mkCI [.ptr []] [.cells .Cur] [.v .Op, .cells .Cur] (fun x=>spec_l24Op.raw x) [(true,4)] [3] false
theorem c121:Contract prog 121 ci121:=eC 25 (l:=[(31,ci31),(35,ci35),(49,ci49)]) (pc c31 (pc c35 (pc c49 pn))) func121 an121 (fun x=>spec_l24Op.raw x) (by kernel_rfl) (fun x=>by kernel_rfl) fun x r hb h=>h
def ci122:CInfo:=mkCI (plains 1) [.v .int] [.v .int] (fun x=>spec_l24Need.raw x) [(false,1)] [] false
theorem c122:Contract prog 122 ci122:=eC 9 pn func122 an0 (fun x=>spec_l24Need.raw x) (by kernel_rfl) (fun x=>by kernel_rfl) fun x r hb h=>h
def an81:An:=⟨[],[(0,⟨[.own 5 .Op, .slot 6 (.v .int), .box 0 .Cur []],[(7,9),(15,43)],[]⟩),(2,⟨[.box 0 .Cur [], .box 8 .Op [3]],[(9,9),(21,33)],[]⟩),(4,⟨[.own 5 .Op],[(6,6),(44,51)],[]⟩)],[(4,⟨[.own 5 .Op, .slot 6 (.v .int), .slot 7 (.v .int), .box 0 .Cur []],[(8,9),(15,43)],[]⟩),(8,⟨[.slot 9 (.v .int), .box 0 .Cur [], .box 8 .Op [3]],[(21,33)],[]⟩),(13,⟨[.own 5 .Op, .slot 6 (.v .int)],[(44,51)],[]⟩)],[(8,⟨[.slot 29 (.v .bool)],[(21,28)],[]⟩)],[]⟩
def ci81:CInfo:=mkCI [.ptr [], .plain] [.cells .Cur, .v .int] [.sl .Op, .cells .Cur] (fun x=>spec_l24Recipe.raw x.1 x.2) [(false,1)] [0] false
theorem c81:Contract prog 81 ci81:=eC 53 (l:=[(31,ci31),(121,ci121),(122,ci122)]) (pc c31 (pc c121 (pc c122 pn))) func81 an81 (fun x=>spec_l24Recipe.raw x.1 x.2) (by kernel_rfl) (fun x=>by kernel_rfl) fun x r hb h=>h
def ci82:CInfo:=mkCI [.ptr []] [.cells .Cur] [.v .int, .sl .byte, .cells .Cur] (fun x=>spec_l9Kind.raw x) [(false,1),(false,1)] [1] false
theorem c82:Contract prog 82 ci82:=eC 25 (l:=[(31,ci31),(35,ci35),(49,ci49)]) (pc c31 (pc c35 (pc c49 pn))) func82 an0 (fun x=>spec_l9Kind.raw x) (by kernel_rfl) (fun x=>by kernel_rfl) fun x r hb h=>h
def an168:An:=⟨[],[],[],[(1,⟨[.slot 26 (.v .bool)],[(9,25)],[]⟩)],[]⟩
def ci168:CInfo:=mkCI (plains 4) [.v .int, .sl .byte, .v .int, .v .int] [.sl .byte] (fun x=>spec_HeadOf.raw x.1 x.2.1 x.2.2.1 x.2.2.2) [(false,1)] [0] false
theorem c168:Contract prog 168 ci168:=eC 37 (l:=[(72,ci72),(124,ci124)]) (pc c72 (pc c124 pn)) func168 an168 (fun x=>spec_HeadOf.raw x.1 x.2.1 x.2.2.1 x.2.2.2) (by kernel_rfl) (fun x=>by kernel_rfl) fun x r hb h=>h
def ci169:CInfo:=mkCI (plains 1) [.v .int] [.v .bool] (fun x=>some (isSealed x)) [(false,1)] [] false
theorem c169:Contract prog 169 ci169:=eC 5 (l:=[(72,ci72)]) (pc c72 pn) func169 an0 (fun x=>spec_Sealed.raw x) (by kernel_rfl) (fun x=>by kernel_rfl) fun x r hb h=>(spec_Sealed.ok hb).trans h
def an170:An:=⟨[],[],[],[(3,⟨[.slot 14 (.v .bool)],[(9,13)],[]⟩)],[]⟩
def ci170:CInfo:=mkCI (plains 2) [.v .int, .v .int] [.v .bool] (fun x=>some (bodyOk x.1 x.2)) [(false,1)] [] false
theorem c170:Contract prog 170 ci170:=eC 19 pn func170 an170 (fun x=>spec_l7Body.raw x.1 x.2) (by kernel_rfl) (fun x=>by kernel_rfl) fun x r hb h=>(spec_l7Body.ok hb).trans h
def an220:An:=⟨[],[],[],[(1,⟨[.slot 14 (.v .bool)],[(7,13)],[]⟩)],[]⟩
def ci220:CInfo:=mkCI (plains 3) [.sl .byte, .sl .byte, .v .int] [.sl .byte] (fun x=>spec_BlockOf.raw x.1 x.2.1 x.2.2) [(false,1)] [0] false
theorem c220:Contract prog 220 ci220:=eC 23 (l:=[(72,ci72),(124,ci124),(144,ci144)]) (pc c72 (pc c124 (pc c144 pn))) func220 an220 (fun x=>spec_BlockOf.raw x.1 x.2.1 x.2.2) (by kernel_rfl) (fun x=>by kernel_rfl) fun x r hb h=>h
def an189:An:=⟨[],[(0,⟨[.own 7 .byte],[(8,8),(24,35)],[]⟩)],[(5,⟨[.own 7 .byte, .slot 8 (.v .int)],[(24,35)],[]⟩)],[(1,⟨[.slot 21 (.v .bool)],[(9,20)],[]⟩)],[]⟩
def ci189:CInfo:=mkCI (plains 3) [.sl .byte, .sl .byte, .v .int] [.sl .byte] (fun x=>spec_Stream.raw x.1 x.2.1 x.2.2) [(false,1)] [0] false
theorem c189:Contract prog 189 ci189:=eC 41 (l:=[(72,ci72),(220,ci220)]) (pc c72 (pc c220 pn)) func189 an189 (fun x=>spec_Stream.raw x.1 x.2.1 x.2.2) (by kernel_rfl) (fun x=>by kernel_rfl) fun x r hb h=>h
def an146:An:=⟨[],[(0,⟨[.own 7 .byte],[(9,9),(30,47)],[]⟩)],[(6,⟨[.own 7 .byte, .slot 9 (.v .int)],[(30,47)],[]⟩)],[(2,⟨[.slot 23 (.v .bool)],[(11,22)],[]⟩)],[]⟩
def ci146:CInfo:=mkCI (plains 3) [.sl .byte, .sl .byte, .sl .byte] [.sl .byte] (fun x=>spec_Mix.raw x.1 x.2.1 x.2.2) [(false,1)] [0] false
theorem c146:Contract prog 146 ci146:=eC 49 (l:=[(189,ci189)]) (pc c189 pn) func146 an146 (fun x=>spec_Mix.raw x.1 x.2.1 x.2.2) (by kernel_rfl) (fun x=>by kernel_rfl) fun x r hb h=>h
def an171:An:=⟨[],[],[],[(2,⟨[.slot 2 (.v .bool)],[(6,61)],[]⟩),(3,⟨[.slot 87 (.v .bool)],[(62,86)],[]⟩),(7,⟨[.slot 2 (.v .bool)],[(92,117)],[]⟩),(9,⟨[.slot 2 (.v .bool)],[(120,145)],[]⟩),(11,⟨[.slot 2 (.v .bool)],[(148,173)],[]⟩)],[]⟩
def ci171:CInfo:=mkCI (plains 1) [.v .Frame] [.v .bool] (fun x=>some (frameOk x)) [(false,1)] [] false
theorem c171:Contract prog 171 ci171:=eC 174 (l:=[(72,ci72),(169,ci169),(170,ci170)]) (pc c72 (pc c169 (pc c170 pn))) func171 an171 (fun x=>spec_FrameOk.raw x) (by kernel_rfl) (fun x=>by kernel_rfl) fun x r hb h=>(spec_FrameOk.ok hb).trans h
def an125:An:=⟨[],[],[],[(1,⟨[.slot 19 (.v .bool)],[(6,18)],[]⟩)],[]⟩
def ci125:CInfo:=mkCI (plains 2) [.v .int, .v .Frame] [.sl .byte] (fun x=>spec_TagInput.raw x.1 x.2) [(false,1)] [0] false
theorem c125:Contract prog 125 ci125:=eC 40 (l:=[(72,ci72),(168,ci168),(169,ci169),(171,ci171)]) (pc c72 (pc c168 (pc c169 (pc c171 pn)))) func125 an125 (fun x=>spec_TagInput.raw x.1 x.2) (by kernel_rfl) (fun x=>by kernel_rfl) fun x r hb h=>h
def ci145:CInfo:=mkCI (plains 2) [.sl .byte, .sl .byte] [.sl .byte] (fun x=>spec_Tag.raw x.1 x.2) [(false,1)] [0] false
theorem c145:Contract prog 145 ci145:=eC 17 (l:=[(144,ci144)]) (pc c144 pn) func145 an0 (fun x=>spec_Tag.raw x.1 x.2) (by kernel_rfl) (fun x=>by kernel_rfl) fun x r hb h=>h
def an123:An:=⟨[],[(0,⟨[.box 17 .Frame [2,3,5,6,9,10]],[(18,18),(56,64)],[]⟩)],[(6,⟨[.slot 18 (.v .int), .box 17 .Frame [2,3,5,6,9,10]],[(56,64)],[]⟩)],[(2,⟨[.slot 43 (.v .bool)],[(24,42)],[]⟩)],[]⟩
def ci123:CInfo:=mkCI (plains 7) [.sl .byte, .v .int, .sl .byte, .v .int, .v .int, .v .int, .sl .byte] [.v .Frame, .v .bool] (fun x=>spec_Seal.raw x.1 x.2.1 x.2.2.1 x.2.2.2.1 x.2.2.2.2.1 x.2.2.2.2.2.1 x.2.2.2.2.2.2) [(true,11),(false,1)] [2,3,5,6,9,10] false
theorem c123:Contract prog 123 ci123:=eC 72 (l:=[(125,ci125),(145,ci145),(146,ci146),(168,ci168),(169,ci169),(170,ci170)]) (pc c125 (pc c145 (pc c146 (pc c168 (pc c169 (pc c170 pn)))))) func123 an123 (fun x=>spec_Seal.raw x.1 x.2.1 x.2.2.1 x.2.2.2.1 x.2.2.2.2.1 x.2.2.2.2.2.1 x.2.2.2.2.2.2) (by kernel_rfl) (fun x=>by kernel_rfl) fun x r hb h=>h
def an83:An:=⟨[],[],[],[(2,⟨[.slot 37 (.v .bool)],[(31,36)],[]⟩)],[]⟩
def ci83:CInfo:=mkCI (plains 8) [.sl .byte, .v .int, .v .int, .sl .byte, .v .int, .v .int, .v .int, .sl .byte] [.sl .Op] (fun x=>spec_Forge.raw x.1 x.2.1 x.2.2.1 x.2.2.2.1 x.2.2.2.2.1 x.2.2.2.2.2.1 x.2.2.2.2.2.2.1 x.2.2.2.2.2.2.2) [(false,1)] [0] false
theorem c83:Contract prog 83 ci83:=eC 65 (l:=[(72,ci72),(123,ci123),(124,ci124),(125,ci125)]) (pc c72 (pc c123 (pc c124 (pc c125 pn)))) func83 an83 (fun x=>spec_Forge.raw x.1 x.2.1 x.2.2.1 x.2.2.2.1 x.2.2.2.2.1 x.2.2.2.2.2.1 x.2.2.2.2.2.2.1 x.2.2.2.2.2.2.2) (by kernel_rfl) (fun x=>by kernel_rfl) fun x r hb h=>h
def an59:An:=⟨[(5111823,⟨[.box 0 .Cur [], .box 9 .Event [4,5]],[(79,86)],[]⟩),(6225941,⟨[.slot 95 (.v .bool)],[(97,97)],[]⟩),(6225942,⟨[.box 9 .Event [4], .box 0 .Cur []],[(10,15),(98,204)],[]⟩),(6881305,⟨[.box 0 .Cur [], .box 9 .Event [4]],[(10,14),(106,155)],[]⟩),(8060956,⟨[.slot 11 (.sl .byte)],[(124,129)],[]⟩),(10027040,⟨[.box 9 .Event [4]],[(154,155)],[14]⟩),(10223650,⟨[.box 9 .Event [4,5], .box 0 .Cur []],[(15,15),(158,204)],[]⟩),(10420260,⟨[.box 9 .Event [4,5], .box 0 .Cur []],[(15,15),(161,204)],[]⟩),(10616870,⟨[.box 9 .Event [4,5], .box 0 .Cur []],[(15,15),(164,204)],[]⟩),(11010089,⟨[.box 9 .Event [4,5], .box 0 .Cur []],[(15,15),(170,204)],[]⟩),(11206699,⟨[.box 9 .Event [4,5], .box 0 .Cur []],[(15,15),(173,204)],[]⟩),(11599918,⟨[.box 0 .Cur [], .box 9 .Event [4,5]],[(15,15),(179,204)],[]⟩),(11796527,⟨[.box 9 .Event [4,5], .box 0 .Cur []],[(181,184)],[]⟩),(12124210,⟨[.box 9 .Event [4,5], .box 0 .Cur []],[(15,15),(187,204)],[]⟩),(13434934,⟨[.slot 205 (.v .bool)],[(207,208)],[]⟩),(13434935,⟨[.slot 205 (.v .bool)],[(208,208)],[]⟩),(13434936,⟨[.box 9 .Event [4], .box 0 .Cur [], .box 8 .Event [4,5]],[(10,15),(64,204),(209,237)],[]⟩),(14090299,⟨[.slot 215 (.v .bool)],[(217,217)],[]⟩),(14090300,⟨[.box 9 .Event [4], .box 0 .Cur [], .box 8 .Event [4,5]],[(10,15),(64,204),(218,237)],[]⟩),(14876736,⟨[.slot 227 (.v .bool)],[(229,229)],[]⟩),(14876737,⟨[.box 9 .Event [4], .box 0 .Cur [], .box 8 .Event [4,5]],[(10,15),(64,204),(230,237)],[]⟩),(15138883,⟨[.box 9 .Event [4], .box 0 .Cur [], .box 8 .Event [4,5]],[(10,15),(64,204),(233,237)],[]⟩),(15335493,⟨[.slot 234 (.v .bool)],[(236,236)],[]⟩),(15335494,⟨[.box 9 .Event [4], .box 0 .Cur [], .box 8 .Event [4,5]],[(10,15),(64,204),(237,237)],[]⟩)],[],[],[(2,⟨[.slot 34 (.v .bool), .box 0 .Cur []],[(23,33)],[]⟩),(7,⟨[.slot 59 (.v .bool), .box 0 .Cur []],[(47,58)],[]⟩),(13,⟨[.slot 78 (.v .bool), .box 0 .Cur []],[(71,77)],[]⟩),(26,⟨[.slot 123 (.v .bool), .box 0 .Cur []],[(117,122)],[]⟩)],[]⟩
def ci59:CInfo:=mkCI [.ptr [], .plain, .ptr [], .plain] [.cells .Cur, .v .World, .cells .int, .v .bool] [.v .Event, .cells .Cur, .cells .int] (fun x=>spec_l26Pick.raw x.1 x.2.1 x.2.2.1 x.2.2.2) [(true,6)] [4] false
theorem c59:Contract prog 59 ci59:=eC 239 (l:=[(31,ci31),(32,ci32),(35,ci35),(49,ci49),(81,ci81),(82,ci82),(83,ci83)]) (pc c31 (pc c32 (pc c35 (pc c49 (pc c81 (pc c82 (pc c83 pn))))))) func59 an59 (fun x=>spec_l26Pick.raw x.1 x.2.1 x.2.2.1 x.2.2.2) (by kernel_rfl) (fun x=>by kernel_rfl) fun x r hb h=>h
def an60:An:=⟨[],[],[],[(1,⟨[.slot 2 (.v .bool)],[(3,32)],[]⟩)],[]⟩
def ci60:CInfo:=mkCI (plains 1) [.v .Event] [.v .bool] (fun x=>some (eventOk x)) [(false,1)] [] false
theorem c60:Contract prog 60 ci60:=eC 33 (l:=[(72,ci72)]) (pc c72 pn) func60 an60 (fun x=>spec_EventOk.raw x) (by kernel_rfl) (fun x=>by kernel_rfl) fun x r hb h=>(spec_EventOk.ok hb).trans h
def an172:An:=⟨[],[],[],[(3,⟨[.slot 2 (.v .bool)],[(9,36)],[]⟩)],[]⟩
def ci172:CInfo:=mkCI (plains 1) [.v .Timer] [.v .bool] (fun x=>some (timerOk x)) [(false,1)] [] false
theorem c172:Contract prog 172 ci172:=eC 37 (l:=[(72,ci72)]) (pc c72 pn) func172 an172 (fun x=>spec_TimerOk.raw x) (by kernel_rfl) (fun x=>by kernel_rfl) fun x r hb h=>(spec_TimerOk.ok hb).trans h
def an173:An:=⟨[],[],[],[(1,⟨[.slot 2 (.v .bool)],[(3,61)],[]⟩)],[]⟩
def ci173:CInfo:=mkCI (plains 1) [.v .Frame] [.v .bool] (fun x=>some (noFrame x)) [(false,1)] [] false
theorem c173:Contract prog 173 ci173:=eC 62 pn func173 an173 (fun x=>spec_l19NoFrame.raw x) (by kernel_rfl) (fun x=>by kernel_rfl) fun x r hb h=>(spec_l19NoFrame.ok hb).trans h
def an127:An:=⟨[],[],[],[(1,⟨[.slot 36 (.v .bool)],[(3,35)],[]⟩),(4,⟨[.slot 2 (.v .bool)],[(40,70)],[]⟩),(8,⟨[.slot 2 (.v .bool)],[(78,108)],[]⟩),(9,⟨[.slot 122 (.v .bool)],[(109,121)],[]⟩),(12,⟨[.slot 2 (.v .bool)],[(126,133)],[]⟩),(13,⟨[.slot 2 (.v .bool)],[(134,203)],[]⟩)],[]⟩
def ci127:CInfo:=mkCI (plains 1) [.v .Client] [.v .bool] (fun x=>clientOkO x) [(false,1)] [] false
theorem c127:Contract prog 127 ci127:=eC 204 (l:=[(38,ci38),(52,ci52),(72,ci72),(138,ci138),(164,ci164),(171,ci171),(172,ci172),(173,ci173),(174,ci174)]) (pc c38 (pc c52 (pc c72 (pc c138 (pc c164 (pc c171 (pc c172 (pc c173 (pc c174 pn))))))))) func127 an127 (fun x=>spec_ClientOk.raw x) (by kernel_rfl) (fun x=>by kernel_rfl) fun x r hb h=>spec_ClientOk.ok hb h
def ci128:CInfo:=mkCI (plains 1) [.v .int] [.v .Timer] (fun x=>spec_TimerSet.raw x) [(true,4)] [] false
theorem c128:Contract prog 128 ci128:=eC 10 (l:=[(72,ci72)]) (pc c72 pn) func128 an0 (fun x=>spec_TimerSet.raw x) (by kernel_rfl) (fun x=>by kernel_rfl) fun x r hb h=>h
def ci129:CInfo:=mkCI (plains 1) [.v .Client] [.v .Frame] (fun x=>spec_l19Init.raw x) [(true,11)] [2,3,5,6,9,10] false
theorem c129:Contract prog 129 ci129:=eC 10 pn func129 an0 (fun x=>spec_l19Init.raw x) (by kernel_rfl) (fun x=>by kernel_rfl) fun x r hb h=>h
def an85:An:=⟨[],[],[],[(2,⟨[.slot 26 (.v .bool)],[(14,25)],[]⟩)],[]⟩
def ci85:CInfo:=mkCI (plains 3) [.v .Client, .v .int, .sl .byte] [.v .Client, .sl .Frame, .sl .Note, .v .int] (fun x=>spec_Dial.raw x.1 x.2.1 x.2.2) [(true,41),(false,1),(false,1),(false,1)] [1,5,8,9,11,12,15,16,18,20,23,25,28,31,41,42] false
theorem c85:Contract prog 85 ci85:=eC 57 (l:=[(72,ci72),(80,ci80),(127,ci127),(128,ci128),(129,ci129)]) (pc c72 (pc c80 (pc c127 (pc c128 (pc c129 pn))))) func85 an85 (fun x=>spec_Dial.raw x.1 x.2.1 x.2.2) (by kernel_rfl) (fun x=>by kernel_rfl) fun x r hb h=>h
def ci135:CInfo:=mkCI (plains 0) [] [.v .Addr] (fun _=>some (hub)) [(true,2)] [] false
theorem c135:Contract prog 135 ci135:=eC 2 (l:=[(55,ci55)]) (pc c55 pn) func135 an0 (fun _=>spec_Hub.raw) (by kernel_rfl) (fun x=>by kernel_rfl) fun x r hb h=>(spec_Hub.ok hb).trans h
def an178:An:=⟨[(2097161,⟨[.own 3 .byte],[(4,4),(15,31),(34,89)],[]⟩),(3276815,⟨[.own 3 .byte],[(15,31),(52,89)],[]⟩),(4325394,⟨[.own 3 .byte],[(15,31),(68,89)],[]⟩)],[(1,⟨[.own 3 .byte],[(4,4),(43,49)],[]⟩)],[(10,⟨[.own 3 .byte, .slot 4 (.v .int)],[(43,49)],[]⟩)],[],[]⟩
def ci178:CInfo:=mkCI (plains 1) [.v .Frame] [.sl .byte] (fun x=>spec_PutFrame.raw x) [(false,1)] [0] false
theorem c178:Contract prog 178 ci178:=eC 91 (l:=[(124,ci124),(171,ci171)]) (pc c124 (pc c171 pn)) func178 an178 (fun x=>spec_PutFrame.raw x) (by kernel_rfl) (fun x=>by kernel_rfl) fun x r hb h=>h
def ci134:CInfo:=mkCI (plains 3) [.v .Addr, .v .Addr, .v .Frame] [.v .Wire] (fun x=>spec_WireFrom.raw x.1 x.2.1 x.2.2) [(true,5)] [4] false
theorem c134:Contract prog 134 ci134:=eC 12 (l:=[(178,ci178)]) (pc c178 pn) func134 an0 (fun x=>spec_WireFrom.raw x.1 x.2.1 x.2.2) (by kernel_rfl) (fun x=>by kernel_rfl) fun x r hb h=>h
def an130:An:=⟨[],[(0,⟨[.own 5 .Wire],[(6,6),(8,24)],[]⟩)],[(3,⟨[.own 5 .Wire, .slot 6 (.v .int)],[(8,24)],[]⟩)],[],[]⟩
def ci130:CInfo:=mkCI (plains 2) [.v .Client, .sl .Frame] [.sl .Wire] (fun x=>spec_l25Sent.raw x.1 x.2) [(false,1)] [0] false
theorem c130:Contract prog 130 ci130:=eC 26 (l:=[(134,ci134),(135,ci135)]) (pc c134 (pc c135 pn)) func130 an130 (fun x=>spec_l25Sent.raw x.1 x.2) (by kernel_rfl) (fun x=>by kernel_rfl) fun x r hb h=>h
def an90:An:=⟨[(1179653,⟨[.box 0 .World [1,11,12,13]],[(19,31)],[]⟩)],[(0,⟨[.box 0 .World [1,11,12,13]],[(6,31)],[]⟩)],[(1,⟨[.slot 6 (.v .int), .box 0 .World [1,11,12,13]],[(7,31)],[]⟩)],[],[]⟩
def ci90:CInfo:=mkCI [.ptr [1,11,12,13], .plain, .plain] [.cells .World, .sl .Wire, .sl .Note] [.cells .World] (fun x=>spec_l26See.raw x.1 x.2.1 x.2.2) [] [1,11,12,13] false
theorem c90:Contract prog 90 ci90:=eC 41 pn func90 an90 (fun x=>spec_l26See.raw x.1 x.2.1 x.2.2) (by kernel_rfl) (fun x=>by kernel_rfl) fun x r hb h=>h
def ci87:CInfo:=mkCI [.ptr [1,11,12,13], .plain, .plain, .plain, .plain] [.cells .World, .v .int, .v .Client, .sl .Frame, .sl .Note] [.cells .World] (fun x=>spec_l26Client.raw x.1 x.2.1 x.2.2.1 x.2.2.2.1 x.2.2.2.2) [] [1,11,12,13] false
theorem c87:Contract prog 87 ci87:=eC 23 (l:=[(90,ci90),(130,ci130)]) (pc c90 (pc c130 pn)) func87 an0 (fun x=>spec_l26Client.raw x.1 x.2.1 x.2.2.1 x.2.2.2.1 x.2.2.2.2) (by kernel_rfl) (fun x=>by kernel_rfl) fun x r hb h=>h
def an175:An:=⟨[],[],[],[(2,⟨[.slot 41 (.v .bool)],[(18,40)],[]⟩),(4,⟨[.slot 50 (.v .bool)],[(44,49)],[]⟩)],[]⟩
def ci175:CInfo:=mkCI (plains 5) [.v .Ep, .v .int, .sl .byte, .v .int, .sl .byte] [.v .Ep, .v .Frame, .v .int] (fun x=>spec_EpSeal.raw x.1 x.2.1 x.2.2.1 x.2.2.2.1 x.2.2.2.2) [(true,5),(true,11),(false,1)] [1,4,7,8,10,11,14,15] false
theorem c175:Contract prog 175 ci175:=eC 78 (l:=[(73,ci73),(123,ci123),(166,ci166),(168,ci168),(169,ci169),(170,ci170)]) (pc c73 (pc c123 (pc c166 (pc c168 (pc c169 (pc c170 pn)))))) func175 an175 (fun x=>spec_EpSeal.raw x.1 x.2.1 x.2.2.1 x.2.2.2.1 x.2.2.2.2) (by kernel_rfl) (fun x=>by kernel_rfl) fun x r hb h=>h
def an131:An:=⟨[(2228231,⟨[.box 9 .Chan [1,8,11,14]],[(35,36)],[1000010]⟩)],[],[],[],[]⟩
def ci131:CInfo:=mkCI (plains 3) [.v .Chan, .v .int, .sl .byte] [.v .Chan, .v .Frame, .v .int] (fun x=>spec_ChanSeal.raw x.1 x.2.1 x.2.2) [(true,15),(true,11),(false,1)] [1,8,11,14,17,18,20,21,24,25] false
theorem c131:Contract prog 131 ci131:=eC 40 (l:=[(52,ci52),(120,ci120),(175,ci175)]) (pc c52 (pc c120 (pc c175 pn))) func131 an131 (fun x=>spec_ChanSeal.raw x.1 x.2.1 x.2.2) (by kernel_rfl) (fun x=>by kernel_rfl) fun x r hb h=>h
def ci176:CInfo:=mkCI (plains 2) [.sl .byte, .sl .byte] [.v .Note] (fun x=>spec_Made.raw x.1 x.2) [(true,12)] [3,4,7,8] false
theorem c176:Contract prog 176 ci176:=eC 12 pn func176 an0 (fun x=>spec_Made.raw x.1 x.2) (by kernel_rfl) (fun x=>by kernel_rfl) fun x r hb h=>h
def ci132:CInfo:=mkCI (plains 2) [.v .Chan, .v .Frame] [.v .Note] (fun x=>spec_l19Made.raw x.1 x.2) [(true,12)] [3,4,7,8] false
theorem c132:Contract prog 132 ci132:=eC 13 (l:=[(125,ci125),(176,ci176)]) (pc c125 (pc c176 pn)) func132 an0 (fun x=>spec_l19Made.raw x.1 x.2) (by kernel_rfl) (fun x=>by kernel_rfl) fun x r hb h=>h
def an88:An:=⟨[],[],[],[(2,⟨[.slot 29 (.v .bool)],[(17,28)],[]⟩)],[(11,[1000012])]⟩
def ci88:CInfo:=mkCI (plains 3) [.v .Client, .v .int, .sl .byte] [.v .Client, .sl .Frame, .sl .Note, .v .int] (fun x=>spec_ClientSend.raw x.1 x.2.1 x.2.2) [(true,41),(false,1),(false,1),(false,1)] [1,5,8,9,11,12,15,16,18,25,28,31,41,42] false
theorem c88:Contract prog 88 ci88:=eC 75 (l:=[(72,ci72),(80,ci80),(127,ci127),(131,ci131),(132,ci132)]) (pc c72 (pc c80 (pc c127 (pc c131 (pc c132 pn))))) func88 an88 (fun x=>spec_ClientSend.raw x.1 x.2.1 x.2.2) (by kernel_rfl) (fun x=>by kernel_rfl) fun x r hb h=>h
def an133:An:=⟨[],[],[],[(2,⟨[.slot 22 (.v .bool)],[(15,21)],[]⟩)],[(11,[1000010])]⟩
def ci133:CInfo:=mkCI (plains 2) [.v .Sess, .sl .byte] [.v .Sess, .sl .Out, .sl .Note, .v .int] (fun x=>spec_SessSend.raw x.1 x.2) [(true,24),(false,1),(false,1),(false,1)] [1,2,4,11,14,17,20,24,25] false
theorem c133:Contract prog 133 ci133:=eC 71 (l:=[(131,ci131),(132,ci132),(165,ci165),(177,ci177)]) (pc c131 (pc c132 (pc c165 (pc c177 pn)))) func133 an133 (fun x=>spec_SessSend.raw x.1 x.2) (by kernel_rfl) (fun x=>by kernel_rfl) fun x r hb h=>h
def an89:An:=⟨[(3604489,⟨[.box 12 .Server [0,1,2,5,6]],[(56,61)],[1000013]⟩)],[],[],[(2,⟨[.slot 26 (.v .bool)],[(19,25)],[]⟩)],[]⟩
def ci89:CInfo:=mkCI (plains 4) [.v .Server, .v .int, .v .int, .sl .byte] [.v .Server, .sl .Out, .sl .Note, .v .int] (fun x=>spec_ServerSend.raw x.1 x.2.1 x.2.2.1 x.2.2.2) [(true,7),(false,1),(false,1),(false,1)] [0,1,2,5,6,7,8] false
theorem c89:Contract prog 89 ci89:=eC 66 (l:=[(72,ci72),(77,ci77),(114,ci114),(133,ci133)]) (pc c72 (pc c77 (pc c114 (pc c133 pn)))) func89 an89 (fun x=>spec_ServerSend.raw x.1 x.2.1 x.2.2.1 x.2.2.2) (by kernel_rfl) (fun x=>by kernel_rfl) fun x r hb h=>h
def an91:An:=⟨[],[(0,⟨[.own 3 .Wire],[(4,4),(6,26)],[]⟩)],[(3,⟨[.own 3 .Wire, .slot 4 (.v .int)],[(6,26)],[]⟩)],[],[]⟩
def ci91:CInfo:=mkCI (plains 1) [.sl .Out] [.sl .Wire] (fun x=>spec_l25Outs.raw x) [(false,1)] [0] false
theorem c91:Contract prog 91 ci91:=eC 28 (l:=[(134,ci134),(135,ci135)]) (pc c134 (pc c135 pn)) func91 an91 (fun x=>spec_l25Outs.raw x) (by kernel_rfl) (fun x=>by kernel_rfl) fun x r hb h=>h
def an195:An:=⟨[],[],[],[(1,⟨[.slot 4 (.v .bool)],[(5,20)],[]⟩)],[]⟩
def ci195:CInfo:=mkCI (plains 2) [.v .Timer, .v .int] [.v .bool] (fun x=>spec_TimerFires.raw x.1 x.2) [(false,1)] [] false
theorem c195:Contract prog 195 ci195:=eC 21 (l:=[(72,ci72),(172,ci172)]) (pc c72 (pc c172 pn)) func195 an195 (fun x=>spec_TimerFires.raw x.1 x.2) (by kernel_rfl) (fun x=>by kernel_rfl) fun x r hb h=>h
def an179:An:=⟨[(1310728,⟨[.slot 6 (.v .int)],[],[]⟩)],[],[],[],[]⟩
def ci179:CInfo:=mkCI (plains 2) [.v .Timer, .v .int] [.v .Timer, .v .int] (fun x=>spec_TimerNext.raw x.1 x.2) [(true,4),(false,1)] [] false
theorem c179:Contract prog 179 ci179:=eC 29 (l:=[(195,ci195)]) (pc c195 pn) func179 an179 (fun x=>spec_TimerNext.raw x.1 x.2) (by kernel_rfl) (fun x=>by kernel_rfl) fun x r hb h=>h
def ci149:CInfo:=mkCI (plains 1) [.v .Client] [.v .Client] (fun x=>spec_l19Idle.raw x) [(true,41)] [1,5,8,9,11,12,15,16,18,20,23,25,28,31] false
theorem c149:Contract prog 149 ci149:=eC 10 (l:=[(116,ci116)]) (pc c116 pn) func149 an0 (fun x=>spec_l19Idle.raw x) (by kernel_rfl) (fun x=>by kernel_rfl) fun x r hb h=>h
def an180:An:=⟨[(1835012,⟨[.box 5 .Chan [1,3,6,8,11,14]],[(29,32)],[]⟩)],[],[],[(2,⟨[.slot 28 (.v .bool)],[(8,27)],[]⟩)],[]⟩
def ci180:CInfo:=mkCI (plains 2) [.v .Chan, .v .int] [.v .Chan] (fun x=>spec_ChanTick.raw x.1 x.2) [(true,15)] [1,3,6,8,11,14] false
theorem c180:Contract prog 180 ci180:=eC 34 (l:=[(52,ci52),(72,ci72),(120,ci120)]) (pc c52 (pc c72 (pc c120 pn))) func180 an180 (fun x=>spec_ChanTick.raw x.1 x.2) (by kernel_rfl) (fun x=>by kernel_rfl) fun x r hb h=>h
def ci183:CInfo:=mkCI (plains 1) [.v .int] [.sl .byte] (fun x=>spec_RekeyBody.raw x) [(false,1)] [0] false
theorem c183:Contract prog 183 ci183:=eC 10 (l:=[(72,ci72),(124,ci124)]) (pc c72 (pc c124 pn)) func183 an0 (fun x=>spec_RekeyBody.raw x) (by kernel_rfl) (fun x=>by kernel_rfl) fun x r hb h=>h
def an140:An:=⟨[],[],[],[(1,⟨[.slot 13 (.v .bool)],[(5,12)],[]⟩)],[]⟩
def ci140:CInfo:=mkCI (plains 1) [.v .Chan] [.v .Chan, .v .Frame, .v .int] (fun x=>spec_AskRekey.raw x) [(true,15),(true,11),(false,1)] [1,8,11,14,17,18,20,21,24,25] false
theorem c140:Contract prog 140 ci140:=eC 27 (l:=[(52,ci52),(120,ci120),(131,ci131),(183,ci183)]) (pc c52 (pc c120 (pc c131 (pc c183 pn)))) func140 an140 (fun x=>spec_AskRekey.raw x) (by kernel_rfl) (fun x=>by kernel_rfl) fun x r hb h=>h
def an136:An:=⟨[(4587533,⟨[.own 8 .Frame],[(71,75)],[]⟩),(5373967,⟨[.own 8 .Frame],[(83,88)],[]⟩),(8585241,⟨[.box 7 .Client [1,5,8,9,11,12,15,16,18,20,23,25,28,31]],[(132,134)],[]⟩),(9371676,⟨[.own 8 .Frame, .own 9 .Note, .box 7 .Client [1,5,8,9,11,12,15,16]],[(144,155)],[1000015,1000014]⟩)],[],[],[(4,⟨[.slot 33 (.v .bool)],[(21,32)],[]⟩),(11,⟨[.slot 70 (.v .bool)],[(64,69)],[]⟩),(13,⟨[.slot 82 (.v .bool)],[(76,81)],[]⟩)],[]⟩
def ci136:CInfo:=mkCI (plains 2) [.v .Client, .v .int] [.v .Client, .sl .Frame, .sl .Note] (fun x=>spec_ClientTick.raw x.1 x.2) [(true,41),(false,1),(false,1)] [1,5,8,9,11,12,15,16,41,42] false
theorem c136:Contract prog 136 ci136:=eC 159 (l:=[(72,ci72),(80,ci80),(119,ci119),(127,ci127),(128,ci128),(129,ci129),(132,ci132),(140,ci140),(149,ci149),(179,ci179),(180,ci180)]) (pc c72 (pc c80 (pc c119 (pc c127 (pc c128 (pc c129 (pc c132 (pc c140 (pc c149 (pc c179 (pc c180 pn))))))))))) func136 an136 (fun x=>spec_ClientTick.raw x.1 x.2) (by kernel_rfl) (fun x=>by kernel_rfl) fun x r hb h=>h
def ci150:CInfo:=mkCI (plains 1) [.v .Sess] [.v .Sess] (fun x=>spec_Bury.raw x) [(true,24)] [1,2,4,6,9,11,14,17,20] false
theorem c150:Contract prog 150 ci150:=eC 21 (l:=[(165,ci165),(177,ci177)]) (pc c165 (pc c177 pn)) func150 an0 (fun x=>spec_Bury.raw x) (by kernel_rfl) (fun x=>by kernel_rfl) fun x r hb h=>h
def an223:An:=⟨[(2228233,⟨[.box 5 .Paths [2]],[(35,45)],[]⟩)],[(0,⟨[.box 5 .Paths [2]],[(6,6),(20,45)],[]⟩)],[(5,⟨[.slot 6 (.v .int), .box 5 .Paths [2]],[(20,45)],[]⟩)],[(1,⟨[.slot 14 (.v .bool)],[(7,13)],[]⟩)],[]⟩
def ci223:CInfo:=mkCI (plains 2) [.v .Paths, .v .int] [.v .Paths] (fun x=>spec_PathTick.raw x.1 x.2) [(true,3)] [2] false
theorem c223:Contract prog 223 ci223:=eC 47 (l:=[(72,ci72),(193,ci193),(194,ci194),(222,ci222)]) (pc c72 (pc c193 (pc c194 (pc c222 pn)))) func223 an223 (fun x=>spec_PathTick.raw x.1 x.2) (by kernel_rfl) (fun x=>by kernel_rfl) fun x r hb h=>h
def an196:An:=⟨[],[],[],[(2,⟨[.slot 19 (.v .bool)],[(8,18)],[]⟩)],[]⟩
def ci196:CInfo:=mkCI (plains 2) [.v .Sess, .v .int] [.v .Sess] (fun x=>spec_SessTick.raw x.1 x.2) [(true,24)] [1,2,4,6,9,11,14,17,20] false
theorem c196:Contract prog 196 ci196:=eC 39 (l:=[(72,ci72),(150,ci150),(165,ci165),(177,ci177),(180,ci180),(223,ci223)]) (pc c72 (pc c150 (pc c165 (pc c177 (pc c180 (pc c223 pn)))))) func196 an196 (fun x=>spec_SessTick.raw x.1 x.2) (by kernel_rfl) (fun x=>by kernel_rfl) fun x r hb h=>h
def an181:An:=⟨[(2883594,⟨[.box 5 .Tab [1]],[(45,50)],[1000007]⟩)],[(0,⟨[.box 5 .Tab [1]],[(6,7),(21,50)],[]⟩)],[(5,⟨[.slot 6 (.v .int), .box 5 .Tab [1]],[(7,7),(21,50)],[]⟩)],[(1,⟨[.slot 15 (.v .bool)],[(8,14)],[]⟩),(8,⟨[.slot 44 (.v .bool)],[(35,43)],[]⟩)],[]⟩
def ci181:CInfo:=mkCI (plains 2) [.v .Tab, .v .int] [.v .Tab] (fun x=>spec_TabTick.raw x.1 x.2) [(true,2)] [1] false
theorem c181:Contract prog 181 ci181:=eC 52 (l:=[(72,ci72),(118,ci118),(162,ci162),(196,ci196)]) (pc c72 (pc c118 (pc c162 (pc c196 pn)))) func181 an181 (fun x=>spec_TabTick.raw x.1 x.2) (by kernel_rfl) (fun x=>by kernel_rfl) fun x r hb h=>h
def ci151:CInfo:=mkCI (plains 1) [.v .Sess] [.v .Note] (fun x=>spec_l22End.raw x) [(true,12)] [3,4,7,8] false
theorem c151:Contract prog 151 ci151:=eC 10 pn func151 an0 (fun x=>spec_l22End.raw x) (by kernel_rfl) (fun x=>by kernel_rfl) fun x r hb h=>h
def an137:An:=⟨[(4325388,⟨[.own 7 .Note],[(67,76)],[]⟩)],[(0,⟨[.own 7 .Note],[(8,9),(28,76)],[1000006]⟩)],[(7,⟨[.own 7 .Note, .slot 8 (.v .int)],[(9,9),(28,76)],[]⟩)],[(3,⟨[.slot 20 (.v .bool)],[(13,19)],[]⟩),(10,⟨[.slot 66 (.v .bool)],[(46,65)],[]⟩)],[]⟩
def ci137:CInfo:=mkCI (plains 2) [.v .Server, .v .int] [.v .Server, .sl .Note] (fun x=>spec_ServerTick.raw x.1 x.2) [(true,7),(false,1)] [7] false
theorem c137:Contract prog 137 ci137:=eC 79 (l:=[(72,ci72),(77,ci77),(114,ci114),(151,ci151),(181,ci181),(182,ci182)]) (pc c72 (pc c77 (pc c114 (pc c151 (pc c181 (pc c182 pn)))))) func137 an137 (fun x=>spec_ServerTick.raw x.1 x.2) (by kernel_rfl) (fun x=>by kernel_rfl) fun x r hb h=>h
def an92:An:=⟨[],[(0,⟨[.own 3 .Wire, .box 0 .World [1,11,12,13]],[(4,7),(19,59)],[]⟩)],[(4,⟨[.own 3 .Wire, .slot 4 (.v .int), .box 0 .World [1,11,12,13]],[(5,7),(19,59)],[]⟩)],[],[]⟩
def ci92:CInfo:=mkCI [.ptr [1,11,12,13]] [.cells .World] [.sl .Wire, .cells .World] (fun x=>spec_l25Tick.raw x) [(false,1)] [0,2,12,13,14] false
theorem c92:Contract prog 92 ci92:=eC 86 (l:=[(130,ci130),(136,ci136),(137,ci137)]) (pc c130 (pc c136 (pc c137 pn))) func92 an92 (fun x=>spec_l25Tick.raw x) (by kernel_rfl) (fun x=>by kernel_rfl) fun x r hb h=>h
def an93:An:=⟨[(851972,⟨[.box 5 .Client [1,5,8,9,11,12,15,16,18,20,23,25,28,31]],[(14,15)],[]⟩)],[],[],[(2,⟨[.slot 13 (.v .bool)],[(8,12)],[]⟩)],[]⟩
def ci93:CInfo:=mkCI (plains 2) [.v .Client, .v .Addr] [.v .Client] (fun x=>spec_Roam.raw x.1 x.2) [(true,41)] [1,5,8,9,11,12,15,16,18,20,23,25,28,31] false
theorem c93:Contract prog 93 ci93:=eC 17 (l:=[(80,ci80),(127,ci127),(138,ci138)]) (pc c80 (pc c127 (pc c138 pn))) func93 an93 (fun x=>spec_Roam.raw x.1 x.2) (by kernel_rfl) (fun x=>by kernel_rfl) fun x r hb h=>h
def an139:An:=⟨[],[],[],[(2,⟨[.slot 26 (.v .bool)],[(7,25)],[]⟩)],[]⟩
def ci139:CInfo:=mkCI (plains 1) [.v .Chan] [.v .Chan, .v .bool] (fun x=>spec_Want.raw x) [(true,15),(false,1)] [1,3,6,8,11,14] false
theorem c139:Contract prog 139 ci139:=eC 34 (l:=[(52,ci52),(69,ci69),(120,ci120)]) (pc c52 (pc c69 (pc c120 pn))) func139 an139 (fun x=>spec_Want.raw x) (by kernel_rfl) (fun x=>by kernel_rfl) fun x r hb h=>h
def an94:An:=⟨[],[],[],[(2,⟨[.slot 23 (.v .bool)],[(16,22)],[]⟩),(4,⟨[.slot 36 (.v .bool)],[(27,35)],[]⟩),(8,⟨[.slot 57 (.v .bool)],[(52,56)],[]⟩)],[(12,[1000012])]⟩
def ci94:CInfo:=mkCI (plains 2) [.v .Client, .v .int] [.v .Client, .sl .Frame, .sl .Note, .v .int] (fun x=>spec_ClientRekey.raw x.1 x.2) [(true,41),(false,1),(false,1),(false,1)] [1,5,8,9,11,12,15,16,18,25,28,31,41,42] false
theorem c94:Contract prog 94 ci94:=eC 73 (l:=[(72,ci72),(80,ci80),(127,ci127),(128,ci128),(132,ci132),(139,ci139),(140,ci140)]) (pc c72 (pc c80 (pc c127 (pc c128 (pc c132 (pc c139 (pc c140 pn))))))) func94 an94 (fun x=>spec_ClientRekey.raw x.1 x.2) (by kernel_rfl) (fun x=>by kernel_rfl) fun x r hb h=>h
def an95:An:=⟨[],[(0,⟨[],[(4,5),(9,29)],[]⟩)],[(4,⟨[.slot 5 (.v .int)],[(4,4),(9,29)],[]⟩)],[],[]⟩
def ci95:CInfo:=mkCI (plains 2) [.v .World, .v .Addr] [.v .int] (fun x=>partyAtO x.1 x.2) [(false,1)] [] false
theorem c95:Contract prog 95 ci95:=eC 30 (l:=[(135,ci135)]) (pc c135 pn) func95 an95 (fun x=>spec_PartyAt.raw x.1 x.2) (by kernel_rfl) (fun x=>by kernel_rfl) fun x r hb h=>spec_PartyAt.ok hb h
def an224:An:=⟨[],[(0,⟨[],[(4,19)],[]⟩)],[(2,⟨[.slot 5 (.v .int)],[(4,4),(6,19)],[]⟩)],[],[]⟩
def ci224:CInfo:=mkCI (plains 2) [.sl .Credit, .v .Addr] [.v .int] (fun x=>some (cAt x.1 x.2)) [(false,1)] [] false
theorem c224:Contract prog 224 ci224:=eC 20 pn func224 an224 (fun x=>spec_l17At.raw x.1 x.2) (by kernel_rfl) (fun x=>by kernel_rfl) fun x r hb h=>(spec_l17At.ok hb).trans h
def an197:An:=⟨[(3735564,⟨[.own 7 .Credit],[(58,61)],[]⟩)],[],[],[(2,⟨[.slot 24 (.v .bool)],[(12,23)],[]⟩)],[]⟩
def ci197:CInfo:=mkCI (plains 3) [.sl .Credit, .v .Addr, .v .int] [.sl .Credit] (fun x=>spec_Gain.raw x.1 x.2.1 x.2.2) [(false,1)] [0] false
theorem c197:Contract prog 197 ci197:=eC 63 (l:=[(72,ci72),(138,ci138),(163,ci163),(224,ci224)]) (pc c72 (pc c138 (pc c163 (pc c224 pn)))) func197 an197 (fun x=>spec_Gain.raw x.1 x.2.1 x.2.2) (by kernel_rfl) (fun x=>by kernel_rfl) fun x r hb h=>h
def an185:An:=⟨[(3276815,⟨[.box 2 .Frame [2,3,5,6,9,10], .box 4 .Frame [2,3,5,6,9,10]],[(3,3),(17,49),(52,131)],[]⟩),(4325396,⟨[.box 2 .Frame [2,3,5,6,9,10], .box 4 .Frame [2,3,5,6,9,10]],[(3,3),(17,49),(68,131)],[]⟩),(6160411,⟨[.box 2 .Frame [2,3,5,6,9,10], .box 4 .Frame [2,3,5,6,9,10]],[(3,3),(17,49),(96,131)],[]⟩)],[],[],[],[]⟩
def ci185:CInfo:=mkCI (plains 1) [.sl .byte] [.v .Frame, .v .bool] (fun x=>spec_GetFrame.raw x) [(true,11),(false,1)] [2,3,5,6,9,10] false
theorem c185:Contract prog 185 ci185:=eC 140 (l:=[(178,ci178),(211,ci211)]) (pc c178 (pc c211 pn)) func185 an185 (fun x=>spec_GetFrame.raw x) (by kernel_rfl) (fun x=>by kernel_rfl) fun x r hb h=>h
def an225:An:=⟨[],[(0,⟨[],[(4,30)],[]⟩)],[(2,⟨[.slot 5 (.v .int)],[(4,4),(6,30)],[]⟩)],[(4,⟨[.slot 30 (.v .bool)],[(13,29)],[]⟩)],[]⟩
def ci225:CInfo:=mkCI (plains 2) [.v .Tab, .v .Addr] [.v .bool] (fun x=>spec_AtOf.raw x.1 x.2) [(false,1)] [] false
theorem c225:Contract prog 225 ci225:=eC 31 pn func225 an225 (fun x=>spec_AtOf.raw x.1 x.2) (by kernel_rfl) (fun x=>by kernel_rfl) fun x r hb h=>h
def an226:An:=⟨[],[],[],[(2,⟨[.slot 15 (.v .bool)],[(9,14)],[]⟩)],[]⟩
def ci226:CInfo:=mkCI (plains 2) [.sl .Credit, .v .Addr] [.v .int] (fun x=>spec_RoomFor.raw x.1 x.2) [(false,1)] [] false
theorem c226:Contract prog 226 ci226:=eC 28 (l:=[(163,ci163),(224,ci224)]) (pc c163 (pc c224 pn)) func226 an226 (fun x=>spec_RoomFor.raw x.1 x.2) (by kernel_rfl) (fun x=>by kernel_rfl) fun x r hb h=>h
def an198:An:=⟨[],[],[],[(1,⟨[.slot 6 (.v .bool)],[(7,18)],[]⟩)],[]⟩
def ci198:CInfo:=mkCI (plains 3) [.v .Server, .v .Addr, .v .int] [.v .bool] (fun x=>spec_MayAsk.raw x.1 x.2.1 x.2.2) [(false,1)] [] false
theorem c198:Contract prog 198 ci198:=eC 19 (l:=[(225,ci225),(226,ci226)]) (pc c225 (pc c226 pn)) func198 an198 (fun x=>spec_MayAsk.raw x.1 x.2.1 x.2.2) (by kernel_rfl) (fun x=>by kernel_rfl) fun x r hb h=>h
def ci227:CInfo:=mkCI (plains 2) [.sl .byte, .v .Addr] [.sl .byte] (fun x=>spec_PutAddr.raw x.1 x.2) [(false,1)] [0] false
theorem c227:Contract prog 227 ci227:=eC 18 (l:=[(124,ci124),(138,ci138)]) (pc c124 (pc c138 pn)) func227 an0 (fun x=>spec_PutAddr.raw x.1 x.2) (by kernel_rfl) (fun x=>by kernel_rfl) fun x r hb h=>h
def an200:An:=⟨[],[],[],[(1,⟨[.slot 34 (.v .bool)],[(12,33)],[]⟩)],[]⟩
def ci200:CInfo:=mkCI (plains 5) [.v .Addr, .v .int, .sl .byte, .sl .byte, .v .int] [.sl .byte] (fun x=>spec_MintBody.raw x.1 x.2.1 x.2.2.1 x.2.2.2.1 x.2.2.2.2) [(false,1)] [0] false
theorem c200:Contract prog 200 ci200:=eC 50 (l:=[(72,ci72),(124,ci124),(138,ci138),(227,ci227)]) (pc c72 (pc c124 (pc c138 (pc c227 pn)))) func200 an200 (fun x=>spec_MintBody.raw x.1 x.2.1 x.2.2.1 x.2.2.2.1 x.2.2.2.2) (by kernel_rfl) (fun x=>by kernel_rfl) fun x r hb h=>h
def an199:An:=⟨[],[],[],[(2,⟨[.slot 27 (.v .bool)],[(20,26)],[]⟩)],[]⟩
def ci199:CInfo:=mkCI (plains 6) [.v .Jar, .v .Addr, .v .int, .sl .byte, .sl .byte, .v .int] [.sl .byte] (fun x=>spec_Mint.raw x.1 x.2.1 x.2.2.1 x.2.2.2.1 x.2.2.2.2.1 x.2.2.2.2.2) [(false,1)] [0] false
theorem c199:Contract prog 199 ci199:=eC 33 (l:=[(145,ci145),(161,ci161),(200,ci200)]) (pc c145 (pc c161 (pc c200 pn))) func199 an199 (fun x=>spec_Mint.raw x.1 x.2.1 x.2.2.1 x.2.2.2.1 x.2.2.2.2.1 x.2.2.2.2.2) (by kernel_rfl) (fun x=>by kernel_rfl) fun x r hb h=>h
def an228:An:=⟨[],[],[],[(1,⟨[.slot 4 (.v .bool)],[(5,16)],[]⟩)],[]⟩
def ci228:CInfo:=mkCI (plains 2) [.v .int, .v .int] [.v .bool] (fun x=>spec_Fresh.raw x.1 x.2) [(false,1)] [] false
theorem c228:Contract prog 228 ci228:=eC 17 (l:=[(72,ci72)]) (pc c72 pn) func228 an228 (fun x=>spec_Fresh.raw x.1 x.2) (by kernel_rfl) (fun x=>by kernel_rfl) fun x r hb h=>h
def an247:An:=⟨[],[(0,⟨[.slot 5 (.v .int)],[(6,6),(12,29)],[]⟩)],[(5,⟨[.slot 5 (.v .int), .slot 6 (.v .int)],[(12,29)],[]⟩)],[],[]⟩
def ci247:CInfo:=mkCI (plains 2) [.sl .byte, .sl .byte] [.v .int] (fun x=>spec_Diff.raw x.1 x.2) [(false,1)] [] false
theorem c247:Contract prog 247 ci247:=eC 31 pn func247 an247 (fun x=>spec_Diff.raw x.1 x.2) (by kernel_rfl) (fun x=>by kernel_rfl) fun x r hb h=>h
def an229:An:=⟨[],[],[],[(1,⟨[.slot 4 (.v .bool)],[(5,13)],[]⟩)],[]⟩
def ci229:CInfo:=mkCI (plains 2) [.sl .byte, .sl .byte] [.v .bool] (fun x=>spec_SameTag.raw x.1 x.2) [(false,1)] [] false
theorem c229:Contract prog 229 ci229:=eC 14 (l:=[(247,ci247)]) (pc c247 pn) func229 an229 (fun x=>spec_SameTag.raw x.1 x.2) (by kernel_rfl) (fun x=>by kernel_rfl) fun x r hb h=>h
def an201:An:=⟨[],[],[],[(1,⟨[.slot 31 (.v .bool)],[(9,30)],[]⟩)],[]⟩
def ci201:CInfo:=mkCI (plains 4) [.v .Jar, .v .int, .v .Addr, .v .Frame] [.v .int] (fun x=>spec_Judge.raw x.1 x.2.1 x.2.2.1 x.2.2.2) [(false,1)] [] false
theorem c201:Contract prog 201 ci201:=eC 52 (l:=[(72,ci72),(138,ci138),(161,ci161),(171,ci171),(199,ci199),(228,ci228),(229,ci229)]) (pc c72 (pc c138 (pc c161 (pc c171 (pc c199 (pc c228 (pc c229 pn))))))) func201 an201 (fun x=>spec_Judge.raw x.1 x.2.1 x.2.2.1 x.2.2.2) (by kernel_rfl) (fun x=>by kernel_rfl) fun x r hb h=>h
def ci232:CInfo:=mkCI (plains 2) [.sl .byte, .sl .byte] [.sl .byte] (fun x=>spec_Extract.raw x.1 x.2) [(false,1)] [0] false
theorem c232:Contract prog 232 ci232:=eC 8 (l:=[(144,ci144)]) (pc c144 pn) func232 an0 (fun x=>spec_Extract.raw x.1 x.2) (by kernel_rfl) (fun x=>by kernel_rfl) fun x r hb h=>h
def ci206:CInfo:=mkCI (plains 1) [.sl .byte] [.sl .byte] (fun x=>spec_FinishKey.raw x) [(false,1)] [0] false
theorem c206:Contract prog 206 ci206:=eC 12 (l:=[(69,ci69),(164,ci164),(232,ci232)]) (pc c69 (pc c164 (pc c232 pn))) func206 an0 (fun x=>spec_FinishKey.raw x) (by kernel_rfl) (fun x=>by kernel_rfl) fun x r hb h=>h
def an207:An:=⟨[],[],[],[(1,⟨[.slot 34 (.v .bool)],[(12,33)],[]⟩)],[]⟩
def ci207:CInfo:=mkCI (plains 5) [.v .int, .sl .byte, .sl .byte, .v .int, .sl .byte] [.sl .byte] (fun x=>spec_ProofBody.raw x.1 x.2.1 x.2.2.1 x.2.2.2.1 x.2.2.2.2) [(false,1)] [0] false
theorem c207:Contract prog 207 ci207:=eC 48 (l:=[(72,ci72),(124,ci124)]) (pc c72 (pc c124 pn)) func207 an207 (fun x=>spec_ProofBody.raw x.1 x.2.1 x.2.2.1 x.2.2.2.1 x.2.2.2.2) (by kernel_rfl) (fun x=>by kernel_rfl) fun x r hb h=>h
def an230:An:=⟨[],[],[],[(3,⟨[.slot 30 (.v .bool)],[(23,29)],[]⟩)],[]⟩
def ci230:CInfo:=mkCI (plains 6) [.sl .byte, .v .int, .sl .byte, .sl .byte, .v .int, .sl .byte] [.sl .byte] (fun x=>spec_Proof.raw x.1 x.2.1 x.2.2.1 x.2.2.2.1 x.2.2.2.2.1 x.2.2.2.2.2) [(false,1)] [0] false
theorem c230:Contract prog 230 ci230:=eC 35 (l:=[(145,ci145),(206,ci206),(207,ci207)]) (pc c145 (pc c206 (pc c207 pn))) func230 an230 (fun x=>spec_Proof.raw x.1 x.2.1 x.2.2.1 x.2.2.2.1 x.2.2.2.2.1 x.2.2.2.2.2) (by kernel_rfl) (fun x=>by kernel_rfl) fun x r hb h=>h
def an202:An:=⟨[],[],[],[(1,⟨[.slot 4 (.v .bool)],[(5,28)],[]⟩)],[]⟩
def ci202:CInfo:=mkCI (plains 2) [.sl .byte, .v .Frame] [.v .bool] (fun x=>spec_ProofOk.raw x.1 x.2) [(false,1)] [] false
theorem c202:Contract prog 202 ci202:=eC 29 (l:=[(171,ci171),(229,ci229),(230,ci230)]) (pc c171 (pc c229 (pc c230 pn))) func202 an202 (fun x=>spec_ProofOk.raw x.1 x.2) (by kernel_rfl) (fun x=>by kernel_rfl) fun x r hb h=>h
def an240:An:=⟨[],[],[],[(1,⟨[.slot 19 (.v .bool)],[(7,18)],[]⟩)],[]⟩
def ci240:CInfo:=mkCI (plains 3) [.sl .byte, .sl .byte, .sl .byte] [.sl .byte] (fun x=>spec_RootKey.raw x.1 x.2.1 x.2.2) [(false,1)] [0] false
theorem c240:Contract prog 240 ci240:=eC 28 (l:=[(164,ci164),(232,ci232)]) (pc c164 (pc c232 pn)) func240 an240 (fun x=>spec_RootKey.raw x.1 x.2.1 x.2.2) (by kernel_rfl) (fun x=>by kernel_rfl) fun x r hb h=>h
def ci239:CInfo:=mkCI (plains 1) [.sl .byte] [.sl .byte] (fun x=>spec_FirstKey.raw x) [(false,1)] [0] false
theorem c239:Contract prog 239 ci239:=eC 9 (l:=[(69,ci69)]) (pc c69 pn) func239 an0 (fun x=>spec_FirstKey.raw x) (by kernel_rfl) (fun x=>by kernel_rfl) fun x r hb h=>h
def an241:An:=⟨[],[(0,⟨[.own 5 .byte],[(6,6),(14,20)],[]⟩)],[(5,⟨[.own 5 .byte, .slot 6 (.v .int)],[(14,20)],[]⟩)],[],[]⟩
def ci241:CInfo:=mkCI (plains 2) [.sl .byte, .v .int] [.sl .byte] (fun x=>spec_Chain.raw x.1 x.2) [(false,1)] [0] false
theorem c241:Contract prog 241 ci241:=eC 22 (l:=[(69,ci69),(72,ci72)]) (pc c69 (pc c72 pn)) func241 an241 (fun x=>spec_Chain.raw x.1 x.2) (by kernel_rfl) (fun x=>by kernel_rfl) fun x r hb h=>h
def ci213:CInfo:=mkCI (plains 4) [.sl .byte, .sl .byte, .sl .byte, .v .int] [.sl .byte] (fun x=>spec_EpochKey.raw x.1 x.2.1 x.2.2.1 x.2.2.2) [(false,1)] [0] false
theorem c213:Contract prog 213 ci213:=eC 22 (l:=[(239,ci239),(240,ci240),(241,ci241)]) (pc c239 (pc c240 (pc c241 pn))) func213 an0 (fun x=>spec_EpochKey.raw x.1 x.2.1 x.2.2.1 x.2.2.2) (by kernel_rfl) (fun x=>by kernel_rfl) fun x r hb h=>h
def an108:An:=⟨[],[(0,⟨[.box 1 .Win [1]],[(2,2),(4,12)],[]⟩)],[(3,⟨[.slot 2 (.v .int), .box 1 .Win [1]],[(4,12)],[]⟩)],[],[]⟩
def ci108:CInfo:=mkCI (plains 0) [] [.v .Win] (fun _=>spec_WinNew.raw) [(true,2)] [1] false
theorem c108:Contract prog 108 ci108:=eC 14 pn func108 an108 (fun _=>spec_WinNew.raw) (by kernel_rfl) (fun x=>by kernel_rfl) fun x r hb h=>h
def an68:An:=⟨[],[],[],[(1,⟨[.slot 12 (.v .bool)],[(5,11)],[]⟩)],[]⟩
def ci68:CInfo:=mkCI (plains 2) [.v .int, .sl .byte] [.v .Ep] (fun x=>spec_EpNew.raw x.1 x.2) [(true,5)] [1,4] false
theorem c68:Contract prog 68 ci68:=eC 20 (l:=[(72,ci72),(108,ci108)]) (pc c72 (pc c108 pn)) func68 an68 (fun x=>spec_EpNew.raw x.1 x.2) (by kernel_rfl) (fun x=>by kernel_rfl) fun x r hb h=>h
def an66:An:=⟨[],[],[],[(1,⟨[.slot 19 (.v .bool)],[(7,18)],[]⟩)],[]⟩
def ci66:CInfo:=mkCI (plains 3) [.v .int, .sl .byte, .sl .byte] [.v .Chan] (fun x=>spec_ChanNew.raw x.1 x.2.1 x.2.2) [(true,15)] [1,3,6,8,11,14] false
theorem c66:Contract prog 66 ci66:=eC 28 (l:=[(68,ci68),(72,ci72)]) (pc c68 (pc c72 pn)) func66 an66 (fun x=>spec_ChanNew.raw x.1 x.2.1 x.2.2) (by kernel_rfl) (fun x=>by kernel_rfl) fun x r hb h=>h
def ci231:CInfo:=mkCI (plains 1) [.v .Addr] [.v .Paths] (fun x=>spec_PathsNew.raw x) [(true,3)] [2] false
theorem c231:Contract prog 231 ci231:=eC 5 pn func231 an0 (fun x=>spec_PathsNew.raw x) (by kernel_rfl) (fun x=>by kernel_rfl) fun x r hb h=>h
def an203:An:=⟨[],[],[],[(1,⟨[.slot 31 (.v .bool)],[(9,30)],[]⟩)],[]⟩
def ci203:CInfo:=mkCI (plains 4) [.sl .byte, .v .int, .v .Addr, .v .Frame] [.v .Sess] (fun x=>spec_SessNew.raw x.1 x.2.1 x.2.2.1 x.2.2.2) [(true,24)] [1,2,4,6,9,11,14,17,20] false
theorem c203:Contract prog 203 ci203:=eC 58 (l:=[(66,ci66),(72,ci72),(138,ci138),(164,ci164),(171,ci171),(213,ci213),(231,ci231)]) (pc c66 (pc c72 (pc c138 (pc c164 (pc c171 (pc c213 (pc c231 pn))))))) func203 an203 (fun x=>spec_SessNew.raw x.1 x.2.1 x.2.2.1 x.2.2.2) (by kernel_rfl) (fun x=>by kernel_rfl) fun x r hb h=>h
def an204:An:=⟨[],[],[],[(2,⟨[.slot 20 (.v .bool)],[(9,19)],[]⟩),(6,⟨[.slot 38 (.v .bool)],[(28,37)],[]⟩)],[]⟩
def ci204:CInfo:=mkCI (plains 2) [.v .Tab, .v .Sess] [.v .Tab, .v .int] (fun x=>spec_AddSess.raw x.1 x.2) [(true,2),(false,1)] [1] false
theorem c204:Contract prog 204 ci204:=eC 48 (l:=[(118,ci118),(162,ci162),(165,ci165),(177,ci177),(182,ci182),(192,ci192)]) (pc c118 (pc c162 (pc c165 (pc c177 (pc c182 (pc c192 pn)))))) func204 an204 (fun x=>spec_AddSess.raw x.1 x.2) (by kernel_rfl) (fun x=>by kernel_rfl) fun x r hb h=>h
def ci205:CInfo:=mkCI (plains 3) [.sl .byte, .sl .byte, .sl .byte] [.v .Note] (fun x=>spec_Took.raw x.1 x.2.1 x.2.2) [(true,12)] [3,4,7,8] false
theorem c205:Contract prog 205 ci205:=eC 17 pn func205 an0 (fun x=>spec_Took.raw x.1 x.2.1 x.2.2) (by kernel_rfl) (fun x=>by kernel_rfl) fun x r hb h=>h
def an233:An:=⟨[],[],[],[(1,⟨[.slot 12 (.v .bool)],[(5,11)],[]⟩)],[]⟩
def ci233:CInfo:=mkCI (plains 1) [.v .Chan] [.v .Chan, .v .Frame, .v .int] (fun x=>spec_Ack.raw x) [(true,15),(true,11),(false,1)] [1,8,11,14,17,18,20,21,24,25] false
theorem c233:Contract prog 233 ci233:=eC 25 (l:=[(52,ci52),(120,ci120),(131,ci131),(183,ci183)]) (pc c52 (pc c120 (pc c131 (pc c183 pn)))) func233 an233 (fun x=>spec_Ack.raw x) (by kernel_rfl) (fun x=>by kernel_rfl) fun x r hb h=>h
def an208:An:=⟨[],[],[],[(2,⟨[.slot 24 (.v .bool)],[(11,23)],[]⟩)],[(8,[1000007])]⟩
def ci208:CInfo:=mkCI (plains 1) [.v .Sess] [.v .Sess, .sl .Out, .sl .Note] (fun x=>spec_SessAck.raw x) [(true,24),(false,1),(false,1)] [1,2,4,11,14,17,20,24,25] false
theorem c208:Contract prog 208 ci208:=eC 53 (l:=[(132,ci132),(165,ci165),(177,ci177),(233,ci233)]) (pc c132 (pc c165 (pc c177 (pc c233 pn)))) func208 an208 (fun x=>spec_SessAck.raw x) (by kernel_rfl) (fun x=>by kernel_rfl) fun x r hb h=>h
def ci221:CInfo:=mkCI (plains 1) [.v .int] [.v .int] (fun x=>spec_l8Least.raw x) [(false,1)] [] false
theorem c221:Contract prog 221 ci221:=eC 8 pn func221 an0 (fun x=>spec_l8Least.raw x) (by kernel_rfl) (fun x=>by kernel_rfl) fun x r hb h=>h
def an191:An:=⟨[],[],[],[(1,⟨[.slot 12 (.v .bool)],[(5,11)],[]⟩),(3,⟨[.slot 4 (.v .bool)],[(13,29)],[]⟩)],[]⟩
def ci191:CInfo:=mkCI (plains 2) [.v .Win, .v .int] [.v .bool] (fun x=>spec_WinMay.raw x.1 x.2) [(false,1)] [] false
theorem c191:Contract prog 191 ci191:=eC 30 (l:=[(72,ci72),(110,ci110),(157,ci157),(221,ci221)]) (pc c72 (pc c110 (pc c157 (pc c221 pn)))) func191 an191 (fun x=>spec_WinMay.raw x.1 x.2) (by kernel_rfl) (fun x=>by kernel_rfl) fun x r hb h=>h
def an250:An:=⟨[],[],[],[(2,⟨[.slot 28 (.v .bool)],[(12,27)],[8]⟩)],[]⟩
def ci250:CInfo:=mkCI (plains 3) [.sl .byte, .v .int, .v .Frame] [.sl .byte, .v .bool] (fun x=>spec_Unseal.raw x.1 x.2.1 x.2.2) [(false,1),(false,1)] [0] false
theorem c250:Contract prog 250 ci250:=eC 42 (l:=[(125,ci125),(145,ci145),(146,ci146),(168,ci168),(229,ci229)]) (pc c125 (pc c145 (pc c146 (pc c168 (pc c229 pn))))) func250 an250 (fun x=>spec_Unseal.raw x.1 x.2.1 x.2.2) (by kernel_rfl) (fun x=>by kernel_rfl) fun x r hb h=>h
def an156:An:=⟨[(4521999,⟨[.box 6 .Win [1]],[(70,71)],[]⟩)],[(0,⟨[.box 6 .Win [1]],[(7,9),(21,48)],[]⟩)],[(6,⟨[.slot 7 (.v .int), .slot 8 (.v .int), .box 6 .Win [1]],[(9,9),(21,48)],[]⟩)],[(6,⟨[.slot 27 (.v .bool)],[(21,26)],[]⟩)],[]⟩
def ci156:CInfo:=mkCI (plains 2) [.v .Win, .v .int] [.v .Win, .v .bool] (fun x=>spec_WinAdd.raw x.1 x.2) [(true,2),(false,1)] [1] false
theorem c156:Contract prog 156 ci156:=eC 73 (l:=[(190,ci190),(191,ci191)]) (pc c190 (pc c191 pn)) func156 an156 (fun x=>spec_WinAdd.raw x.1 x.2) (by kernel_rfl) (fun x=>by kernel_rfl) fun x r hb h=>h
def an242:An:=⟨[],[],[],[(2,⟨[.slot 30 (.v .bool)],[(14,29)],[]⟩)],[]⟩
def ci242:CInfo:=mkCI (plains 3) [.v .Ep, .v .int, .v .Frame] [.v .Ep, .sl .byte, .v .int] (fun x=>spec_EpOpen.raw x.1 x.2.1 x.2.2) [(true,5),(false,1),(false,1)] [1,4,5] false
theorem c242:Contract prog 242 ci242:=eC 64 (l:=[(73,ci73),(125,ci125),(156,ci156),(166,ci166),(191,ci191),(250,ci250)]) (pc c73 (pc c125 (pc c156 (pc c166 (pc c191 (pc c250 pn)))))) func242 an242 (fun x=>spec_EpOpen.raw x.1 x.2.1 x.2.2) (by kernel_rfl) (fun x=>by kernel_rfl) fun x r hb h=>h
def an214:An:=⟨[(5373966,⟨[.box 9 .Chan [1,3,6,8,11,14]],[(83,85)],[]⟩)],[],[],[(2,⟨[.slot 40 (.v .bool)],[(22,39)],[]⟩),(12,⟨[.slot 82 (.v .bool)],[(76,81)],[]⟩),(15,⟨[.slot 97 (.v .bool)],[(88,96)],[]⟩),(16,⟨[.slot 106 (.v .bool)],[(98,105)],[]⟩),(23,⟨[.slot 139 (.v .bool)],[(127,138)],[]⟩)],[]⟩
def ci214:CInfo:=mkCI (plains 3) [.v .Chan, .v .int, .v .Frame] [.v .Chan, .sl .byte, .v .int] (fun x=>spec_ChanOpen.raw x.1 x.2.1 x.2.2) [(true,15),(false,1),(false,1)] [1,3,6,8,11,14,15] false
theorem c214:Contract prog 214 ci214:=eC 174 (l:=[(38,ci38),(52,ci52),(68,ci68),(72,ci72),(120,ci120),(169,ci169),(171,ci171),(242,ci242)]) (pc c38 (pc c52 (pc c68 (pc c72 (pc c120 (pc c169 (pc c171 (pc c242 pn)))))))) func214 an214 (fun x=>spec_ChanOpen.raw x.1 x.2.1 x.2.2) (by kernel_rfl) (fun x=>by kernel_rfl) fun x r hb h=>h
def an215:An:=⟨[],[],[],[(3,⟨[.slot 18 (.v .bool)],[(10,17)],[]⟩),(7,⟨[.slot 45 (.v .bool)],[(34,44)],[]⟩)],[]⟩
def ci215:CInfo:=mkCI (plains 2) [.v .Chan, .v .int] [.sl .byte, .v .bool] (fun x=>spec_KeyFor.raw x.1 x.2) [(false,1),(false,1)] [0] false
theorem c215:Contract prog 215 ci215:=eC 51 (l:=[(52,ci52)]) (pc c52 pn) func215 an215 (fun x=>spec_KeyFor.raw x.1 x.2) (by kernel_rfl) (fun x=>by kernel_rfl) fun x r hb h=>h
def an248:An:=⟨[],[(0,⟨[.box 4 .Cand [2]],[(5,6),(11,31)],[]⟩)],[(4,⟨[.slot 6 (.v .int), .box 4 .Cand [2]],[(5,5),(11,31)],[]⟩)],[],[]⟩
def ci248:CInfo:=mkCI (plains 2) [.v .Paths, .v .Addr] [.v .Cand, .v .bool] (fun x=>candOfO x.1 x.2) [(true,4),(false,1)] [2] false
theorem c248:Contract prog 248 ci248:=eC 33 (l:=[(194,ci194),(222,ci222)]) (pc c194 (pc c222 pn)) func248 an248 (fun x=>spec_CandOf.raw x.1 x.2) (by kernel_rfl) (fun x=>by kernel_rfl) fun x r hb h=>spec_CandOf.ok hb h
def an234:An:=⟨[(3801098,⟨[.box 12 .Paths [2]],[(59,69)],[]⟩)],[(0,⟨[.box 12 .Paths [2]],[(13,13),(44,69)],[]⟩)],[(6,⟨[.slot 13 (.v .int), .box 12 .Paths [2]],[(44,69)],[]⟩)],[(2,⟨[.slot 39 (.v .bool)],[(20,38)],[1000010]⟩)],[]⟩
def ci234:CInfo:=mkCI (plains 4) [.v .Paths, .v .int, .v .Addr, .sl .byte] [.v .Paths, .v .bool] (fun x=>spec_Answer.raw x.1 x.2.1 x.2.2.1 x.2.2.2) [(true,3),(false,1)] [2] false
theorem c234:Contract prog 234 ci234:=eC 71 (l:=[(38,ci38),(72,ci72),(193,ci193),(222,ci222),(248,ci248)]) (pc c38 (pc c72 (pc c193 (pc c222 (pc c248 pn))))) func234 an234 (fun x=>spec_Answer.raw x.1 x.2.1 x.2.2.1 x.2.2.2) (by kernel_rfl) (fun x=>by kernel_rfl) fun x r hb h=>h
def an249:An:=⟨[],[],[],[(2,⟨[.slot 20 (.v .bool)],[(7,19)],[]⟩)],[]⟩
def ci249:CInfo:=mkCI (plains 1) [.v .Chan] [.v .Chan, .v .bool] (fun x=>spec_Turn.raw x) [(true,15),(false,1)] [1,3,6,8,11,14] false
theorem c249:Contract prog 249 ci249:=eC 38 (l:=[(52,ci52),(68,ci68),(69,ci69),(120,ci120)]) (pc c52 (pc c68 (pc c69 (pc c120 pn)))) func249 an249 (fun x=>spec_Turn.raw x) (by kernel_rfl) (fun x=>by kernel_rfl) fun x r hb h=>h
def an235:An:=⟨[],[],[],[(2,⟨[.slot 33 (.v .bool)],[(13,32)],[]⟩)],[]⟩
def ci235:CInfo:=mkCI (plains 3) [.v .Chan, .v .int, .sl .byte] [.v .Chan, .v .int] (fun x=>spec_HearRekey.raw x.1 x.2.1 x.2.2) [(true,15),(false,1)] [1,3,6,8,11,14] false
theorem c235:Contract prog 235 ci235:=eC 57 (l:=[(38,ci38),(52,ci52),(72,ci72),(120,ci120),(183,ci183),(249,ci249)]) (pc c38 (pc c52 (pc c72 (pc c120 (pc c183 (pc c249 pn)))))) func235 an235 (fun x=>spec_HearRekey.raw x.1 x.2.1 x.2.2) (by kernel_rfl) (fun x=>by kernel_rfl) fun x r hb h=>h
def an236:An:=⟨[],[(0,⟨[.box 8 .Paths [2]],[(9,9),(11,11),(41,57)],[]⟩)],[(5,⟨[.slot 11 (.v .int), .box 8 .Paths [2]],[(9,9),(41,57)],[]⟩)],[(1,⟨[.slot 35 (.v .bool)],[(12,34)],[]⟩)],[]⟩
def ci236:CInfo:=mkCI (plains 4) [.v .Paths, .v .int, .v .Addr, .sl .byte] [.v .Paths, .v .bool] (fun x=>spec_Offer.raw x.1 x.2.1 x.2.2.1 x.2.2.2) [(true,3),(false,1)] [2] false
theorem c236:Contract prog 236 ci236:=eC 77 (l:=[(72,ci72),(138,ci138),(193,ci193),(194,ci194),(223,ci223)]) (pc c72 (pc c138 (pc c193 (pc c194 (pc c223 pn))))) func236 an236 (fun x=>spec_Offer.raw x.1 x.2.1 x.2.2.1 x.2.2.2) (by kernel_rfl) (fun x=>by kernel_rfl) fun x r hb h=>h
def an209:An:=⟨[(5898256,⟨[.own 15 .Out, .own 16 .Note, .box 14 .Sess [1,2]],[(22,28),(92,197)],[18]⟩),(7077906,⟨[.own 15 .Out, .own 16 .Note, .box 14 .Sess [1,2]],[(22,28),(110,197)],[]⟩),(7798804,⟨[.own 16 .Note, .box 14 .Sess [1,2,4,6,9,11,14,17]],[(120,134)],[1000022]⟩),(8847383,⟨[.own 15 .Out, .own 16 .Note, .box 14 .Sess [1,2,20]],[(24,28),(137,197)],[]⟩),(9633817,⟨[.own 15 .Out, .own 16 .Note, .box 14 .Sess [1,2,20]],[(26,28),(148,197)],[1000024]⟩),(10158106,⟨[.own 16 .Note],[(156,171)],[]⟩),(11862046,⟨[.own 15 .Out, .own 16 .Note, .box 14 .Sess [1,2,20]],[(182,197)],[1000027,1000026]⟩)],[],[],[(4,⟨[.slot 49 (.v .bool)],[(38,48)],[]⟩),(34,⟨[.slot 220 (.v .bool)],[(215,219)],[]⟩)],[]⟩
def ci209:CInfo:=mkCI (plains 5) [.v .Sess, .v .int, .v .Addr, .v .Frame, .sl .byte] [.v .Sess, .sl .Out, .sl .Note, .v .bool] (fun x=>spec_SessHear.raw x.1 x.2.1 x.2.2.1 x.2.2.2.1 x.2.2.2.2) [(true,24),(false,1),(false,1),(false,1)] [1,2,24,25] false
theorem c209:Contract prog 209 ci209:=eC 241 (l:=[(125,ci125),(131,ci131),(132,ci132),(138,ci138),(165,ci165),(177,ci177),(205,ci205),(214,ci214),(215,ci215),(233,ci233),(234,ci234),(235,ci235),(236,ci236)]) (pc c125 (pc c131 (pc c132 (pc c138 (pc c165 (pc c177 (pc c205 (pc c214 (pc c215 (pc c233 (pc c234 (pc c235 (pc c236 pn))))))))))))) func209 an209 (fun x=>spec_SessHear.raw x.1 x.2.1 x.2.2.1 x.2.2.2.1 x.2.2.2.2) (by kernel_rfl) (fun x=>by kernel_rfl) fun x r hb h=>h
def ci238:CInfo:=mkCI (plains 1) [.v .Frame] [.v .int] (fun x=>spec_SizeOf.raw x) [(false,1)] [] false
theorem c238:Contract prog 238 ci238:=eC 6 (l:=[(178,ci178)]) (pc c178 pn) func238 an0 (fun x=>spec_SizeOf.raw x) (by kernel_rfl) (fun x=>by kernel_rfl) fun x r hb h=>h
def an237:An:=⟨[],[],[],[(3,⟨[.slot 30 (.v .bool)],[(16,29)],[]⟩)],[]⟩
def ci237:CInfo:=mkCI (plains 3) [.sl .Credit, .v .Addr, .v .int] [.sl .Credit, .v .bool] (fun x=>spec_Spend.raw x.1 x.2.1 x.2.2) [(false,1),(false,1)] [0] false
theorem c237:Contract prog 237 ci237:=eC 44 (l:=[(72,ci72),(163,ci163),(224,ci224),(226,ci226)]) (pc c72 (pc c163 (pc c224 (pc c226 pn)))) func237 an237 (fun x=>spec_Spend.raw x.1 x.2.1 x.2.2) (by kernel_rfl) (fun x=>by kernel_rfl) fun x r hb h=>h
def an210:An:=⟨[(1703943,⟨[.box 0 .Server []],[(7,8),(27,51)],[]⟩)],[(0,⟨[.own 5 .Out, .box 0 .Server []],[(6,8),(10,58)],[]⟩),(1,⟨[.own 5 .Out, .box 0 .Server []],[(7,8),(16,58)],[]⟩)],[(3,⟨[.own 5 .Out, .slot 6 (.v .int), .box 0 .Server []],[(7,8),(10,58)],[]⟩)],[],[]⟩
def ci210:CInfo:=mkCI [.ptr [], .plain] [.cells .Server, .sl .Out] [.sl .Out, .cells .Server] (fun x=>spec_l22Out.raw x.1 x.2) [(false,1)] [0] false
theorem c210:Contract prog 210 ci210:=eC 60 (l:=[(225,ci225),(237,ci237),(238,ci238)]) (pc c225 (pc c237 (pc c238 pn))) func210 an210 (fun x=>spec_l22Out.raw x.1 x.2) (by kernel_rfl) (fun x=>by kernel_rfl) fun x r hb h=>h
def an184:An:=⟨[(4653068,⟨[.own 12 .Out, .own 13 .Note, .box 11 .Server [], .box 8 .Server [0,1,2,5,6]],[(9,10),(16,33),(75,404)],[1000014]⟩),(9437204,⟨[.own 12 .Out, .own 13 .Note, .box 8 .Server [0,1,2,5,6], .box 11 .Server [0,1,5,6]],[(9,10),(19,33),(148,404)],[]⟩),(12058648,⟨[.own 13 .Note, .slot 19 (.v .int), .box 8 .Server [0,1,2,5,6], .box 11 .Server [0,1,2,5,6]],[(9,10),(20,22),(185,279)],[]⟩),(19791907,⟨[.own 12 .Out, .own 13 .Note, .box 11 .Server [0,1,2,5,6]],[(24,26),(303,320)],[]⟩),(21037096,⟨[.own 12 .Out, .own 13 .Note, .box 8 .Server [0,1,2,5,6], .box 11 .Server [0,1,5,6]],[(9,10),(27,33),(325,404)],[]⟩),(23134253,⟨[.own 29 .byte],[(354,354)],[]⟩),(24903730,⟨[.own 13 .Note, .box 11 .Server [0,1,5,6]],[(381,387)],[1000028]⟩),(25624630,⟨[.own 13 .Note],[(392,404)],[]⟩)],[],[],[(4,⟨[.slot 50 (.v .bool)],[(38,49)],[]⟩),(11,⟨[.slot 92 (.v .bool)],[(75,91)],[1000011]⟩),(19,⟨[.slot 174 (.v .bool)],[(148,173)],[]⟩),(33,⟨[.slot 302 (.v .bool)],[(286,301)],[]⟩),(40,⟨[.slot 340 (.v .bool)],[(330,339)],[]⟩)],[]⟩
def ci184:CInfo:=mkCI (plains 4) [.v .Server, .v .int, .v .Addr, .sl .byte] [.v .Server, .sl .Out, .sl .Note] (fun x=>spec_ServerHear.raw x.1 x.2.1 x.2.2.1 x.2.2.2) [(true,7),(false,1),(false,1)] [7,8] false
theorem c184:Contract prog 184 ci184:=eC 410 (l:=[(38,ci38),(72,ci72),(77,ci77),(84,ci84),(86,ci86),(114,ci114),(138,ci138),(169,ci169),(176,ci176),(182,ci182),(185,ci185),(197,ci197),(198,ci198),(199,ci199),(200,ci200),(201,ci201),(202,ci202),(203,ci203),(204,ci204),(205,ci205),(206,ci206),(207,ci207),(208,ci208),(209,ci209),(210,ci210)]) (pc c38 (pc c72 (pc c77 (pc c84 (pc c86 (pc c114 (pc c138 (pc c169 (pc c176 (pc c182 (pc c185 (pc c197 (pc c198 (pc c199 (pc c200 (pc c201 (pc c202 (pc c203 (pc c204 (pc c205 (pc c206 (pc c207 (pc c208 (pc c209 (pc c210 pn))))))))))))))))))))))))) func184 an184 (fun x=>spec_ServerHear.raw x.1 x.2.1 x.2.2.1 x.2.2.2) (by kernel_rfl) (fun x=>by kernel_rfl) fun x r hb h=>h
def an212:An:=⟨[],[],[],[(1,⟨[.slot 17 (.v .bool)],[(10,16)],[]⟩)],[]⟩
def ci212:CInfo:=mkCI (plains 3) [.sl .byte, .v .int, .v .Frame] [.v .Frame, .v .bool] (fun x=>spec_FinishOf.raw x.1 x.2.1 x.2.2) [(true,11),(false,1)] [2,3,5,6,9,10] false
theorem c212:Contract prog 212 ci212:=eC 42 (l:=[(119,ci119),(171,ci171),(230,ci230)]) (pc c119 (pc c171 (pc c230 pn))) func212 an212 (fun x=>spec_FinishOf.raw x.1 x.2.1 x.2.2) (by kernel_rfl) (fun x=>by kernel_rfl) fun x r hb h=>h
def an186:An:=⟨[(11272218,⟨[.own 11 .Note, .box 9 .Client [1,5,8,9,11,12,15,16]],[(173,197)],[1000014]⟩),(13434911,⟨[.own 11 .Note, .box 9 .Client [1,5,8,9,11,12,15,16]],[(206,223)],[]⟩),(14811170,⟨[.own 11 .Note],[(227,242)],[]⟩),(16056356,⟨[.own 10 .Frame, .own 11 .Note, .box 9 .Client [1,5,8,9,11,12,15,16]],[(19,21),(246,279)],[15]⟩),(16646182,⟨[.own 10 .Frame, .own 11 .Note, .box 9 .Client [1,5,8,9,11,12,15,16]],[(255,279)],[1000020,1000019]⟩)],[],[],[(4,⟨[.slot 38 (.v .bool)],[(26,37)],[]⟩),(6,⟨[.slot 56 (.v .bool)],[(42,55)],[]⟩),(15,⟨[.slot 131 (.v .bool)],[(123,130)],[]⟩)],[]⟩
def ci186:CInfo:=mkCI (plains 3) [.v .Client, .v .int, .v .Frame] [.v .Client, .sl .Frame, .sl .Note] (fun x=>spec_ClientHear.raw x.1 x.2.1 x.2.2) [(true,41),(false,1),(false,1)] [1,5,8,9,11,12,15,16,41,42] false
theorem c186:Contract prog 186 ci186:=eC 283 (l:=[(38,ci38),(66,ci66),(72,ci72),(80,ci80),(119,ci119),(125,ci125),(127,ci127),(128,ci128),(131,ci131),(132,ci132),(169,ci169),(171,ci171),(176,ci176),(205,ci205),(206,ci206),(207,ci207),(212,ci212),(213,ci213),(214,ci214),(215,ci215)]) (pc c38 (pc c66 (pc c72 (pc c80 (pc c119 (pc c125 (pc c127 (pc c128 (pc c131 (pc c132 (pc c169 (pc c171 (pc c176 (pc c205 (pc c206 (pc c207 (pc c212 (pc c213 (pc c214 (pc c215 pn)))))))))))))))))))) func186 an186 (fun x=>spec_ClientHear.raw x.1 x.2.1 x.2.2) (by kernel_rfl) (fun x=>by kernel_rfl) fun x r hb h=>h
def ci141:CInfo:=mkCI [.ptr [1,11,12,13], .plain, .plain, .plain] [.cells .World, .v .int, .v .Addr, .sl .byte] [.sl .Wire, .cells .World] (fun x=>spec_l25Post.raw x.1 x.2.1 x.2.2.1 x.2.2.2) [(false,1)] [0,2,12,13,14] false
theorem c141:Contract prog 141 ci141:=eC 95 (l:=[(91,ci91),(130,ci130),(184,ci184),(185,ci185),(186,ci186)]) (pc c91 (pc c130 (pc c184 (pc c185 (pc c186 pn))))) func141 an0 (fun x=>spec_l25Post.raw x.1 x.2.1 x.2.2.1 x.2.2.2) (by kernel_rfl) (fun x=>by kernel_rfl) fun x r hb h=>h
def ci96:CInfo:=mkCI [.ptr [1,11,12,13], .plain, .plain, .plain] [.cells .World, .v .int, .v .Addr, .sl .byte] [.cells .World] (fun x=>spec_l26Post.raw x.1 x.2.1 x.2.2.1 x.2.2.2) [] [1,11,12,13] false
theorem c96:Contract prog 96 ci96:=eC 18 (l:=[(90,ci90),(141,ci141)]) (pc c90 (pc c141 pn)) func96 an0 (fun x=>spec_l26Post.raw x.1 x.2.1 x.2.2.1 x.2.2.2) (by kernel_rfl) (fun x=>by kernel_rfl) fun x r hb h=>h
def an142:An:=⟨[],[],[],[(1,⟨[.slot 2 (.v .bool)],[(3,21)],[]⟩)],[]⟩
def ci142:CInfo:=mkCI (plains 1) [.v .Op] [.v .bool] (fun x=>spec_StepOk.raw x) [(false,1)] [] false
theorem c142:Contract prog 142 ci142:=eC 22 (l:=[(72,ci72)]) (pc c72 pn) func142 an142 (fun x=>spec_StepOk.raw x) (by kernel_rfl) (fun x=>by kernel_rfl) fun x r hb h=>h
def an143:An:=⟨[],[],[],[(1,⟨[.slot 27 (.v .bool)],[(8,26)],[]⟩)],[]⟩
def ci143:CInfo:=mkCI (plains 3) [.sl .byte, .v .int, .v .int] [.sl .byte, .v .bool] (fun x=>cutO x.1 x.2.1 x.2.2) [(false,1),(false,1)] [0] false
theorem c143:Contract prog 143 ci143:=eC 37 pn func143 an143 (fun x=>spec_Cut.raw x.1 x.2.1 x.2.2) (by kernel_rfl) (fun x=>by kernel_rfl) fun x r hb h=>spec_Cut.ok hb h
def an97:An:=⟨[(3407887,⟨[.own 12 .byte],[(6,7),(13,15),(54,211)],[]⟩),(3801105,⟨[.own 12 .byte],[(6,7),(13,15),(60,211)],[]⟩),(4849685,⟨[.own 12 .byte],[(6,7),(13,15),(76,211)],[]⟩),(5832729,⟨[.own 12 .byte],[(6,7),(13,15),(91,211)],[]⟩),(7012382,⟨[.own 12 .byte],[(6,7),(15,15),(109,211)],[]⟩),(7929888,⟨[.own 12 .byte],[(6,7),(15,15),(123,211)],[]⟩),(10747943,⟨[.own 12 .byte],[(166,211)],[]⟩),(11534377,⟨[.own 12 .byte],[(178,211)],[]⟩),(12320811,⟨[.own 12 .byte],[(190,211)],[]⟩),(12779565,⟨[.own 12 .byte],[(197,211)],[]⟩)],[(0,⟨[.own 8 .bs],[(6,7),(9,15),(21,225)],[]⟩),(3,⟨[.own 12 .byte],[(15,15),(136,163)],[]⟩)],[(5,⟨[.own 8 .bs, .slot 9 (.v .int)],[(6,7),(10,15),(21,225)],[]⟩),(34,⟨[.own 12 .byte, .slot 15 (.v .int)],[(136,163)],[]⟩)],[(8,⟨[.slot 41 (.v .bool)],[(31,40)],[]⟩),(45,⟨[.slot 218 (.v .bool)],[(212,217)],[]⟩)],[]⟩
def ci97:CInfo:=mkCI (plains 3) [.sl .Op, .sl .Wire, .sl .bs] [.sl .byte, .v .bool] (fun x=>spec_Cook.raw x.1 x.2.1 x.2.2) [(false,1),(false,1)] [0] false
theorem c97:Contract prog 97 ci97:=eC 235 (l:=[(69,ci69),(122,ci122),(142,ci142),(143,ci143),(144,ci144),(145,ci145),(146,ci146)]) (pc c69 (pc c122 (pc c142 (pc c143 (pc c144 (pc c145 (pc c146 pn))))))) func97 an97 (fun x=>spec_Cook.raw x.1 x.2.1 x.2.2) (by kernel_rfl) (fun x=>by kernel_rfl) fun x r hb h=>h
def an98:An:=⟨[],[],[],[(2,⟨[.slot 17 (.v .bool)],[(9,16)],[]⟩)],[]⟩
def ci98:CInfo:=mkCI (plains 1) [.v .Server] [.v .Server, .sl .Note] (fun x=>spec_Boot.raw x) [(true,7),(false,1)] [0,1,2,5,6,7] false
theorem c98:Contract prog 98 ci98:=eC 48 (l:=[(77,ci77),(84,ci84),(86,ci86),(114,ci114),(147,ci147),(148,ci148)]) (pc c77 (pc c84 (pc c86 (pc c114 (pc c147 (pc c148 pn)))))) func98 an98 (fun x=>spec_Boot.raw x) (by kernel_rfl) (fun x=>by kernel_rfl) fun x r hb h=>h
def ci99:CInfo:=mkCI (plains 1) [.v .Client] [.v .Client, .sl .Note] (fun x=>spec_Hang.raw x) [(true,41),(false,1)] [1,5,8,9,11,12,15,16,18,20,23,25,28,31,41] false
theorem c99:Contract prog 99 ci99:=eC 27 (l:=[(80,ci80),(127,ci127),(149,ci149)]) (pc c80 (pc c127 (pc c149 pn))) func99 an0 (fun x=>spec_Hang.raw x) (by kernel_rfl) (fun x=>by kernel_rfl) fun x r hb h=>h
def an100:An:=⟨[],[],[],[(4,⟨[.slot 31 (.v .bool)],[(15,30)],[]⟩)],[]⟩
def ci100:CInfo:=mkCI (plains 2) [.v .Server, .v .int] [.v .Server, .sl .Note, .v .int] (fun x=>spec_ServerClose.raw x.1 x.2) [(true,7),(false,1),(false,1)] [0,1,2,5,6,7] false
theorem c100:Contract prog 100 ci100:=eC 55 (l:=[(72,ci72),(77,ci77),(114,ci114),(150,ci150),(151,ci151)]) (pc c72 (pc c77 (pc c114 (pc c150 (pc c151 pn))))) func100 an100 (fun x=>spec_ServerClose.raw x.1 x.2) (by kernel_rfl) (fun x=>by kernel_rfl) fun x r hb h=>h
def an152:An:=⟨[(655366,⟨[.own 3 .bs],[(11,18)],[]⟩),(1966089,⟨[.own 3 .bs],[(31,37)],[]⟩)],[],[],[],[]⟩
def ci152:CInfo:=mkCI (plains 1) [.v .Chan] [.sl .bs] (fun x=>spec_KeysOf.raw x) [(false,1)] [0] false
theorem c152:Contract prog 152 ci152:=eC 39 (l:=[(52,ci52)]) (pc c52 pn) func152 an152 (fun x=>spec_KeysOf.raw x) (by kernel_rfl) (fun x=>by kernel_rfl) fun x r hb h=>h
def ci101:CInfo:=mkCI [.ptr [1,11,12,13], .plain] [.cells .World, .v .Chan] [.v .bool, .cells .World] (fun x=>spec_l26Show.raw x.1 x.2) [(false,1)] [2,12,13,14] false
theorem c101:Contract prog 101 ci101:=eC 40 (l:=[(152,ci152)]) (pc c152 pn) func101 an0 (fun x=>spec_l26Show.raw x.1 x.2) (by kernel_rfl) (fun x=>by kernel_rfl) fun x r hb h=>h
def an102:An:=⟨[(851972,⟨[.box 5 .Dice [0]],[(14,15)],[]⟩)],[],[],[(2,⟨[.slot 13 (.v .bool)],[(8,12)],[]⟩)],[]⟩
def ci102:CInfo:=mkCI (plains 2) [.v .Dice, .v .int] [.v .Dice] (fun x=>spec_Wind.raw x.1 x.2) [(true,2)] [0] false
theorem c102:Contract prog 102 ci102:=eC 17 (l:=[(72,ci72),(78,ci78),(126,ci126)]) (pc c72 (pc c78 (pc c126 pn))) func102 an102 (fun x=>spec_Wind.raw x.1 x.2) (by kernel_rfl) (fun x=>by kernel_rfl) fun x r hb h=>h
def an61:An:=⟨[(3276805,⟨[.box 6 .Wire []],[(4,4),(51,70)],[]⟩),(4784138,⟨[.box 0 .World [1,11,12,13]],[(4,4),(7,38),(75,518)],[]⟩),(8126482,⟨[.box 0 .World [1,11,12,13]],[(4,4),(13,38),(126,518)],[]⟩),(10027031,⟨[.box 0 .World [1,11,12,13]],[(4,4),(17,38),(155,518)],[]⟩),(12058653,⟨[.box 0 .World [1,11,12,13]],[(4,4),(21,38),(186,518)],[]⟩),(12910626,⟨[.box 0 .World [1,11,12,13]],[(4,4),(22,38),(199,518)],[]⟩),(14286884,⟨[.box 0 .World [1,11,12,13]],[(4,4),(22,38),(220,518)],[]⟩),(16056361,⟨[.box 0 .World [1,11,12,13]],[(4,4),(26,38),(247,518)],[]⟩),(17170478,⟨[.box 0 .World [1,11,12,13]],[(4,4),(27,38),(264,518)],[]⟩),(17825840,⟨[.box 0 .World [1,11,12,13]],[(4,4),(27,38),(274,518)],[]⟩),(18546738,⟨[.box 0 .World [1,11,12,13]],[(4,4),(27,38),(285,518)],[]⟩),(21430330,⟨[.box 0 .World [1,11,12,13]],[(4,4),(30,38),(329,518)],[]⟩),(23265343,⟨[.box 0 .World [1,11,12,13]],[(4,4),(32,38),(357,518)],[]⟩),(24641605,⟨[.box 0 .World [1,11,12,13]],[(4,4),(34,38),(378,518)],[]⟩),(26476618,⟨[.box 0 .World [1,11,12,13]],[(4,4),(36,38),(406,518)],[]⟩),(32178260,⟨[.box 0 .World [1,11,12,13]],[(493,518)],[]⟩),(32505941,⟨[.box 0 .World [1,11,12,13]],[(497,518)],[]⟩)],[],[],[(3,⟨[.slot 50 (.v .bool)],[(43,49)],[]⟩),(50,⟨[.slot 298 (.v .bool)],[(291,297)],[]⟩),(79,⟨[.slot 4 (.v .bool), .box 0 .World [1,11,12,13]],[(429,449)],[]⟩),(81,⟨[.slot 4 (.v .bool), .box 0 .World [1,11,12,13]],[(452,490)],[]⟩)],[]⟩
def ci61:CInfo:=mkCI [.ptr [1,11,12,13], .plain] [.cells .World, .v .Event] [.v .bool, .cells .World] (fun x=>spec_l26Do.raw x.1 x.2) [(false,1)] [2,12,13,14] false
theorem c61:Contract prog 61 ci61:=eC 519 (l:=[(55,ci55),(84,ci84),(85,ci85),(86,ci86),(87,ci87),(88,ci88),(89,ci89),(90,ci90),(91,ci91),(92,ci92),(93,ci93),(94,ci94),(95,ci95),(96,ci96),(97,ci97),(98,ci98),(99,ci99),(100,ci100),(101,ci101),(102,ci102)]) (pc c55 (pc c84 (pc c85 (pc c86 (pc c87 (pc c88 (pc c89 (pc c90 (pc c91 (pc c92 (pc c93 (pc c94 (pc c95 (pc c96 (pc c97 (pc c98 (pc c99 (pc c100 (pc c101 (pc c102 pn)))))))))))))))))))) func61 an61 (fun x=>spec_l26Do.raw x.1 x.2) (by kernel_rfl) (fun x=>by kernel_rfl) fun x r hb h=>h
def an45:An:=⟨[(3276813,⟨[.box 10 .World []],[(51,51)],[1000015]⟩)],[(0,⟨[.own 11 .Event, .box 0 .Cur [], .box 12 .int [], .box 10 .World []],[(13,15),(25,51)],[]⟩)],[(6,⟨[.own 11 .Event, .slot 13 (.v .int), .box 0 .Cur [], .box 12 .int [], .box 10 .World []],[(14,15),(25,51)],[]⟩)],[(11,⟨[.slot 50 (.v .bool), .box 15 .World [1,11,12,13]],[(39,49)],[]⟩)],[]⟩
def ci45:CInfo:=mkCI [.ptr [], .plain, .plain] [.cells .Cur, .v .int, .v .bool] [.v .World, .sl .Event, .v .World, .cells .Cur] (fun x=>spec_l26Events.raw x.1 x.2.1 x.2.2) [(true,14),(false,1),(true,14)] [14] false
theorem c45:Contract prog 45 ci45:=eC 55 (l:=[(31,ci31),(57,ci57),(58,ci58),(59,ci59),(60,ci60),(61,ci61)]) (pc c31 (pc c57 (pc c58 (pc c59 (pc c60 (pc c61 pn)))))) func45 an45 (fun x=>spec_l26Events.raw x.1 x.2.1 x.2.2) (by kernel_rfl) (fun x=>by kernel_rfl) fun x r hb h=>h
def ci27:CInfo:=mkCI [.ptr [], .plain] [.cells .Cur, .v .int] [.v .World, .cells .Cur] (fun x=>spec_l26World.raw x.1 x.2) [(true,14)] [] false
theorem c27:Contract prog 27 ci27:=eC 19 (l:=[(32,ci32),(45,ci45)]) (pc c32 (pc c45 pn)) func27 an0 (fun x=>spec_l26World.raw x.1 x.2) (by kernel_rfl) (fun x=>by kernel_rfl) fun x r hb h=>h
def ci6:CInfo:=mkCI (plains 1) [.sl .byte] [.v .World] (fun x=>spec_DrawWorld.raw x) [(true,14)] [] false
theorem c6:Contract prog 6 ci6:=eC 11 (l:=[(26,ci26),(27,ci27),(28,ci28)]) (pc c26 (pc c27 (pc c28 pn))) func6 an0 (fun x=>spec_DrawWorld.raw x) (by kernel_rfl) (fun x=>by kernel_rfl) fun x r hb h=>h
def an19:An:=⟨[],[(0,⟨[],[(2,42)],[]⟩),(2,⟨[],[(2,2),(4,4),(11,42)],[]⟩)],[(2,⟨[.slot 3 (.v .int)],[(2,2),(4,42)],[]⟩),(5,⟨[.slot 4 (.v .int)],[(2,2),(11,42)],[]⟩)],[(5,⟨[.slot 21 (.v .bool)],[(11,20)],[]⟩),(7,⟨[.slot 42 (.v .bool)],[(24,41)],[]⟩)],[]⟩
def ci19:CInfo:=mkCI (plains 1) [.sl .Note] [.v .bool] (fun x=>rolledO x) [(false,1)] [] false
theorem c19:Contract prog 19 ci19:=eC 43 (l:=[(38,ci38)]) (pc c38 pn) func19 an19 (fun x=>spec_Rolled.raw x) (by kernel_rfl) (fun x=>by kernel_rfl) fun x r hb h=>spec_Rolled.ok hb h
def an43:An:=⟨[],[(0,⟨[],[(4,26)],[]⟩)],[(2,⟨[.slot 5 (.v .int)],[(4,4),(6,26)],[]⟩)],[(4,⟨[.slot 26 (.v .bool)],[(12,25)],[]⟩)],[]⟩
def ci43:CInfo:=mkCI (plains 2) [.sl .Note, .sl .byte] [.v .bool] (fun x=>shownO x.1 x.2) [(false,1)] [] false
theorem c43:Contract prog 43 ci43:=eC 27 (l:=[(38,ci38)]) (pc c38 pn) func43 an43 (fun x=>spec_Shown.raw x.1 x.2) (by kernel_rfl) (fun x=>by kernel_rfl) fun x r hb h=>spec_Shown.ok hb h
def an21:An:=⟨[],[(0,⟨[],[(2,71)],[]⟩),(1,⟨[],[(2,2),(4,5),(12,71)],[]⟩),(2,⟨[.slot 4 (.v .bool)],[(5,5),(29,69)],[]⟩)],[(2,⟨[.slot 3 (.v .int)],[(2,2),(4,71)],[]⟩),(7,⟨[.slot 4 (.v .bool), .slot 5 (.v .int)],[(29,69)],[]⟩)],[(4,⟨[.slot 28 (.v .bool)],[(12,27)],[]⟩),(7,⟨[.slot 35 (.v .bool)],[(29,34)],[]⟩),(9,⟨[.slot 4 (.v .bool)],[(38,69)],[]⟩)],[]⟩
def ci21:CInfo:=mkCI (plains 1) [.sl .Note] [.v .bool] (fun x=>forgedO x) [(false,1)] [] false
theorem c21:Contract prog 21 ci21:=eC 72 (l:=[(38,ci38),(43,ci43)]) (pc c38 (pc c43 pn)) func21 an21 (fun x=>spec_Forged.raw x) (by kernel_rfl) (fun x=>by kernel_rfl) fun x r hb h=>spec_Forged.ok hb h
def an44:An:=⟨[],[],[],[(1,⟨[.slot 2 (.v .bool)],[(3,10)],[]⟩)],[]⟩
def ci44:CInfo:=mkCI (plains 1) [.v .Note] [.v .bool] (fun x=>some (isUp x)) [(false,1)] [] false
theorem c44:Contract prog 44 ci44:=eC 11 pn func44 an44 (fun x=>spec_l27Up.raw x) (by kernel_rfl) (fun x=>by kernel_rfl) fun x r hb h=>(spec_l27Up.ok hb).trans h
def an37:An:=⟨[],[],[],[(1,⟨[.slot 2 (.v .bool)],[(3,9)],[]⟩)],[]⟩
def ci37:CInfo:=mkCI (plains 1) [.v .Note] [.v .bool] (fun x=>some (isKey x)) [(false,1)] [] false
theorem c37:Contract prog 37 ci37:=eC 10 (l:=[(44,ci44)]) (pc c44 pn) func37 an37 (fun x=>spec_l27Key.raw x) (by kernel_rfl) (fun x=>by kernel_rfl) fun x r hb h=>(spec_l27Key.ok hb).trans h
def an23:An:=⟨[],[(0,⟨[],[(2,106)],[]⟩),(2,⟨[],[(2,2),(4,4),(11,106)],[]⟩),(3,⟨[],[(2,2),(16,106)],[]⟩)],[(2,⟨[.slot 3 (.v .int)],[(2,2),(4,106)],[]⟩),(5,⟨[.slot 4 (.v .int)],[(2,2),(11,106)],[]⟩)],[(8,⟨[.slot 66 (.v .bool)],[(28,65)],[]⟩),(10,⟨[.slot 92 (.v .bool)],[(67,91)],[]⟩),(12,⟨[.slot 106 (.v .bool)],[(93,105)],[]⟩)],[]⟩
def ci23:CInfo:=mkCI (plains 1) [.sl .Note] [.v .bool] (fun x=>twiceO x) [(false,1)] [] false
theorem c23:Contract prog 23 ci23:=eC 107 (l:=[(37,ci37),(38,ci38),(44,ci44)]) (pc c37 (pc c38 (pc c44 pn))) func23 an23 (fun x=>spec_KeyTwice.raw x) (by kernel_rfl) (fun x=>by kernel_rfl) fun x r hb h=>spec_KeyTwice.ok hb h
def an7:An:=⟨[],[],[],[(1,⟨[.slot 2 (.v .bool)],[(3,12)],[]⟩)],[]⟩
def ci7:CInfo:=mkCI (plains 1) [.sl .Note] [.v .bool] (fun x=>luckyO x) [(false,1)] [] false
theorem c7:Contract prog 7 ci7:=eC 13 (l:=[(19,ci19),(21,ci21),(23,ci23)]) (pc c19 (pc c21 (pc c23 pn))) func7 an7 (fun x=>spec_Lucky.raw x) (by kernel_rfl) (fun x=>by kernel_rfl) fun x r hb h=>spec_Lucky.ok hb h
def ci29:CInfo:=mkCI (plains 2) [.sl .byte, .sl .byte] [.v .bool] (fun x=>sameO x.1 x.2) [(false,1)] [] false
theorem c29:Contract prog 29 ci29:=eC 10 pn func29 an0 (fun x=>bytes_Equal.raw x.1 x.2) (by kernel_rfl) (fun x=>by kernel_rfl) fun x r hb h=>bytes_Equal.ok hb h
def an8:An:=⟨[],[(0,⟨[],[(4,4),(6,6),(9,22)],[]⟩)],[(2,⟨[.slot 9 (.v .int)],[(4,4),(6,6),(10,22)],[]⟩)],[(4,⟨[.slot 21 (.v .bool)],[(13,20)],[]⟩)],[]⟩
def ci8:CInfo:=mkCI (plains 2) [.sl .Note, .sl .byte] [.v .bool] (fun x=>shownO x.1 x.2) [(false,1)] [] false
theorem c8:Contract prog 8 ci8:=eC 23 (l:=[(29,ci29)]) (pc c29 pn) func8 an8 (fun x=>impl_Shown.raw x.1 x.2) (by kernel_rfl) (fun x=>by kernel_rfl) fun x r hb h=>impl_Shown.ok hb h
def an62:An:=⟨[],[],[],[(1,⟨[.slot 2 (.v .bool)],[(3,8)],[]⟩)],[]⟩
def ci62:CInfo:=mkCI (plains 1) [.v .int] [.v .bool] (fun x=>some (isRole x)) [(false,1)] [] false
theorem c62:Contract prog 62 ci62:=eC 9 pn func62 an62 (fun x=>impl_isRole.raw x) (by kernel_rfl) (fun x=>by kernel_rfl) fun x r hb h=>(impl_isRole.ok hb).trans h
def ci63:CInfo:=mkCI (plains 1) [.sl .byte] [.v .bool] (fun x=>some (isNonce x)) [(false,1)] [] false
theorem c63:Contract prog 63 ci63:=eC 6 pn func63 an0 (fun x=>impl_isNonce.raw x) (by kernel_rfl) (fun x=>by kernel_rfl) fun x r hb h=>(impl_isNonce.ok hb).trans h
def an103:An:=⟨[],[],[],[(1,⟨[.slot 6 (.v .bool)],[(7,14)],[]⟩)],[]⟩
def ci103:CInfo:=mkCI (plains 3) [.v .int, .v .int, .v .int] [.v .bool] (fun x=>some (inR x.1 x.2.1 x.2.2)) [(false,1)] [] false
theorem c103:Contract prog 103 ci103:=eC 15 pn func103 an103 (fun x=>impl_within.raw x.1 x.2.1 x.2.2) (by kernel_rfl) (fun x=>by kernel_rfl) fun x r hb h=>(impl_within.ok hb).trans h
def an153:An:=⟨[],[(0,⟨[],[(4,4),(6,6),(9,16)],[]⟩)],[(2,⟨[.slot 9 (.v .int)],[(4,4),(6,6),(10,16)],[]⟩)],[],[]⟩
def ci153:CInfo:=mkCI (plains 2) [.sl .int, .v .int] [.v .bool] (fun x=>some (areWords x.1 x.2)) [(false,1)] [] false
theorem c153:Contract prog 153 ci153:=eC 21 (l:=[(103,ci103)]) (pc c103 pn) func153 an153 (fun x=>impl_areWords.raw x.1 x.2) (by kernel_rfl) (fun x=>by kernel_rfl) fun x r hb h=>(impl_areWords.ok hb).trans h
def ci154:CInfo:=mkCI (plains 2) [.v .Win, .v .int] [.v .bool] (fun x=>bitO x.1 x.2) [(false,1)] [] false
theorem c154:Contract prog 154 ci154:=eC 17 pn func154 an0 (fun x=>impl_hasBit.raw x.1 x.2) (by kernel_rfl) (fun x=>by kernel_rfl) fun x r hb h=>impl_hasBit.ok hb h
def an104:An:=⟨[],[(0,⟨[],[(2,3),(17,23)],[]⟩)],[(4,⟨[.slot 3 (.v .int)],[(2,2),(17,23)],[]⟩)],[(1,⟨[.slot 13 (.v .bool)],[(4,12)],[]⟩),(8,⟨[.slot 2 (.v .bool)],[(24,32)],[]⟩)],[]⟩
def ci104:CInfo:=mkCI (plains 1) [.v .Win] [.v .bool] (fun x=>some (winOk x)) [(false,1)] [] false
theorem c104:Contract prog 104 ci104:=eC 33 (l:=[(103,ci103),(153,ci153),(154,ci154)]) (pc c103 (pc c153 (pc c154 pn))) func104 an104 (fun x=>impl_WinOk.raw x) (by kernel_rfl) (fun x=>by kernel_rfl) fun x r hb h=>(impl_WinOk.ok hb).trans h
def an64:An:=⟨[],[],[],[(1,⟨[.slot 2 (.v .bool)],[(3,21)],[]⟩)],[]⟩
def ci64:CInfo:=mkCI (plains 1) [.v .Ep] [.v .bool] (fun x=>some (epOk x)) [(false,1)] [] false
theorem c64:Contract prog 64 ci64:=eC 22 (l:=[(103,ci103),(104,ci104)]) (pc c103 (pc c104 pn)) func64 an64 (fun x=>impl_EpOk.raw x) (by kernel_rfl) (fun x=>by kernel_rfl) fun x r hb h=>(impl_EpOk.ok hb).trans h
def an155:An:=⟨[],[(0,⟨[],[(4,6),(14,25)],[]⟩)],[(4,⟨[.slot 14 (.v .int)],[(4,6),(15,25)],[]⟩)],[],[]⟩
def ci155:CInfo:=mkCI (plains 2) [.sl .int, .sl .int] [.v .bool] (fun x=>some (sameI x.1 x.2)) [(false,1)] [] false
theorem c155:Contract prog 155 ci155:=eC 26 pn func155 an155 (fun x=>impl_sameInts.raw x.1 x.2) (by kernel_rfl) (fun x=>by kernel_rfl) fun x r hb h=>(impl_sameInts.ok hb).trans h
def an105:An:=⟨[],[],[],[(1,⟨[.slot 4 (.v .bool)],[(5,41)],[]⟩)],[]⟩
def ci105:CInfo:=mkCI (plains 2) [.v .Ep, .v .Ep] [.v .bool] (fun x=>sameEpO x.1 x.2) [(false,1)] [] false
theorem c105:Contract prog 105 ci105:=eC 42 (l:=[(29,ci29),(155,ci155)]) (pc c29 (pc c155 pn)) func105 an105 (fun x=>impl_sameEp.raw x.1 x.2) (by kernel_rfl) (fun x=>by kernel_rfl) fun x r hb h=>impl_sameEp.ok hb h
def an65:An:=⟨[],[],[],[(2,⟨[.slot 2 (.v .bool)],[(6,14)],[]⟩),(3,⟨[.slot 28 (.v .bool)],[(15,27)],[]⟩),(5,⟨[.slot 2 (.v .bool)],[(29,41)],[]⟩)],[]⟩
def ci65:CInfo:=mkCI (plains 1) [.v .Chan] [.v .bool] (fun x=>oldOkO x) [(false,1)] [] false
theorem c65:Contract prog 65 ci65:=eC 42 (l:=[(64,ci64),(103,ci103),(105,ci105)]) (pc c64 (pc c103 (pc c105 pn))) func65 an65 (fun x=>impl_oldOk.raw x) (by kernel_rfl) (fun x=>by kernel_rfl) fun x r hb h=>impl_oldOk.ok hb h
def an46:An:=⟨[],[],[],[(1,⟨[.slot 23 (.v .bool)],[(3,22)],[]⟩),(3,⟨[.slot 2 (.v .bool)],[(24,44)],[]⟩)],[]⟩
def ci46:CInfo:=mkCI (plains 1) [.v .Chan] [.v .bool] (fun x=>chanOkO x) [(false,1)] [] false
theorem c46:Contract prog 46 ci46:=eC 45 (l:=[(62,ci62),(63,ci63),(64,ci64),(65,ci65)]) (pc c62 (pc c63 (pc c64 (pc c65 pn)))) func46 an46 (fun x=>impl_ChanOk.raw x) (by kernel_rfl) (fun x=>by kernel_rfl) fun x r hb h=>impl_ChanOk.ok hb h
def ci30:CInfo:=mkCI (plains 1) [.v .Chan] [.v .int] (fun x=>oldestO x) [(false,1)] [] false
theorem c30:Contract prog 30 ci30:=eC 14 (l:=[(46,ci46)]) (pc c46 pn) func30 an0 (fun x=>impl_Oldest.raw x) (by kernel_rfl) (fun x=>by kernel_rfl) fun x r hb h=>impl_Oldest.ok hb h
def an9:An:=⟨[],[(0,⟨[],[(4,4),(6,6),(9,57)],[]⟩),(1,⟨[],[(4,4),(6,6),(11,56)],[]⟩)],[(2,⟨[.slot 9 (.v .int)],[(4,4),(6,6),(10,57)],[]⟩)],[(4,⟨[.slot 25 (.v .bool)],[(13,24)],[]⟩),(5,⟨[.slot 38 (.v .bool)],[(26,37)],[]⟩),(6,⟨[.slot 56 (.v .bool)],[(39,55)],[]⟩)],[]⟩
def ci9:CInfo:=mkCI (plains 2) [.sl .Note, .v .Chan] [.v .bool] (fun x=>erasedO x.1 x.2) [(false,1)] [] false
theorem c9:Contract prog 9 ci9:=eC 58 (l:=[(29,ci29),(30,ci30)]) (pc c29 (pc c30 pn)) func9 an9 (fun x=>impl_Erased.raw x.1 x.2) (by kernel_rfl) (fun x=>by kernel_rfl) fun x r hb h=>impl_Erased.ok hb h
def an107:An:=⟨[(1376264,⟨[.slot 6 (.v .int), .box 0 .Cur []],[(22,26)],[]⟩),(2555915,⟨[.own 5 .int, .box 0 .Cur []],[(40,45)],[]⟩)],[(0,⟨[.own 5 .int, .box 0 .Cur []],[(6,7),(16,37)],[]⟩)],[(4,⟨[.own 5 .int, .slot 6 (.v .int), .slot 7 (.v .int), .box 0 .Cur []],[(16,37)],[]⟩)],[],[]⟩
def ci107:CInfo:=mkCI [.ptr [], .plain] [.cells .Cur, .v .int] [.sl .int, .cells .Cur] (fun x=>spec_l8Nums.raw x.1 x.2) [(false,1)] [0] false
theorem c107:Contract prog 107 ci107:=eC 47 (l:=[(31,ci31),(32,ci32),(35,ci35)]) (pc c31 (pc c32 (pc c35 pn))) func107 an107 (fun x=>spec_l8Nums.raw x.1 x.2) (by kernel_rfl) (fun x=>by kernel_rfl) fun x r hb h=>h
def an106:An:=⟨[],[(0,⟨[.box 3 .Win [1]],[(4,4),(6,20)],[]⟩)],[(3,⟨[.slot 4 (.v .int), .box 3 .Win [1]],[(6,20)],[]⟩)],[],[]⟩
def ci106:CInfo:=mkCI (plains 1) [.sl .int] [.v .Win] (fun x=>spec_WinOf.raw x) [(true,2)] [1] false
theorem c106:Contract prog 106 ci106:=eC 22 (l:=[(108,ci108),(156,ci156)]) (pc c108 (pc c156 pn)) func106 an106 (fun x=>spec_WinOf.raw x) (by kernel_rfl) (fun x=>by kernel_rfl) fun x r hb h=>h
def ci67:CInfo:=mkCI [.ptr []] [.cells .Cur] [.v .Win, .cells .Cur] (fun x=>spec_l8Draw.raw x) [(true,2)] [1] false
theorem c67:Contract prog 67 ci67:=eC 6 (l:=[(106,ci106),(107,ci107)]) (pc c106 (pc c107 pn)) func67 an0 (fun x=>spec_l8Draw.raw x) (by kernel_rfl) (fun x=>by kernel_rfl) fun x r hb h=>h
def an48:An:=⟨[(1179653,⟨[.box 0 .Cur [], .box 5 .Chan [1,3,6,8,11,14]],[(19,22)],[]⟩),(1572871,⟨[.box 5 .Chan [1,3,6,8,11,14], .box 0 .Cur []],[(25,55)],[]⟩),(3538957,⟨[.box 5 .Chan [1,3,6,8,11,14]],[(55,55)],[]⟩),(4390927,⟨[.box 5 .Chan [1,3,6,8,11,14]],[(68,72)],[]⟩)],[],[],[(11,⟨[.slot 54 (.v .bool)],[(48,53)],[]⟩),(13,⟨[.slot 67 (.v .bool), .box 0 .Cur []],[(56,66)],[]⟩)],[]⟩
def ci48:CInfo:=mkCI [.ptr [], .plain] [.cells .Cur, .v .int] [.v .Chan, .cells .Cur] (fun x=>spec_l14Draw.raw x.1 x.2) [(true,15)] [1,3,6,8,11,14] false
theorem c48:Contract prog 48 ci48:=eC 74 (l:=[(32,ci32),(35,ci35),(49,ci49),(66,ci66),(67,ci67),(68,ci68),(69,ci69)]) (pc c32 (pc c35 (pc c49 (pc c66 (pc c67 (pc c68 (pc c69 pn))))))) func48 an48 (fun x=>spec_l14Draw.raw x.1 x.2) (by kernel_rfl) (fun x=>by kernel_rfl) fun x r hb h=>h
def an70:An:=⟨[(983045,⟨[.box 0 .Cur [], .box 3 .Ep [1,4]],[(16,18)],[]⟩)],[],[],[],[]⟩
def ci70:CInfo:=mkCI [.ptr []] [.cells .Cur] [.v .Ep, .cells .Cur] (fun x=>spec_l9Ep.raw x) [(true,5)] [1,4] false
theorem c70:Contract prog 70 ci70:=eC 20 (l:=[(32,ci32),(35,ci35),(49,ci49),(67,ci67),(68,ci68)]) (pc c32 (pc c35 (pc c49 (pc c67 (pc c68 pn))))) func70 an70 (fun x=>spec_l9Ep.raw x) (by kernel_rfl) (fun x=>by kernel_rfl) fun x r hb h=>h
def an71:An:=⟨[(524293,⟨[.box 0 .Cur [], .box 3 .Win []],[(10,31)],[]⟩),(917511,⟨[.box 0 .Cur [], .box 3 .Win []],[(16,31)],[]⟩),(1572873,⟨[.box 0 .Cur [], .box 3 .Win []],[(26,31)],[]⟩)],[],[],[],[]⟩
def ci71:CInfo:=mkCI [.ptr []] [.cells .Cur] [.v .Win, .cells .Cur] (fun x=>spec_l8Any.raw x) [(true,2)] [] false
theorem c71:Contract prog 71 ci71:=eC 33 (l:=[(31,ci31),(35,ci35),(67,ci67)]) (pc c31 (pc c35 (pc c67 pn))) func71 an71 (fun x=>spec_l8Any.raw x) (by kernel_rfl) (fun x=>by kernel_rfl) fun x r hb h=>h
def an50:An:=⟨[(524293,⟨[.box 0 .Cur [], .box 3 .Ep [1]],[(10,32)],[]⟩),(917511,⟨[.box 0 .Cur [], .box 3 .Ep [1]],[(16,32)],[]⟩),(1441801,⟨[.box 0 .Cur [], .box 3 .Ep [1]],[(24,32)],[]⟩),(1835019,⟨[.box 0 .Cur [], .box 3 .Ep [1]],[(30,32)],[]⟩)],[],[],[],[]⟩
def ci50:CInfo:=mkCI [.ptr []] [.cells .Cur] [.v .Ep, .cells .Cur] (fun x=>spec_l9Any.raw x) [(true,5)] [1] false
theorem c50:Contract prog 50 ci50:=eC 34 (l:=[(31,ci31),(35,ci35),(49,ci49),(70,ci70),(71,ci71)]) (pc c31 (pc c35 (pc c49 (pc c70 (pc c71 pn))))) func50 an50 (fun x=>spec_l9Any.raw x) (by kernel_rfl) (fun x=>by kernel_rfl) fun x r hb h=>h
def an33:An:=⟨[(655365,⟨[.box 0 .Cur [], .box 3 .Chan [1,3,8,14]],[(12,50)],[]⟩),(1048583,⟨[.box 0 .Cur [], .box 3 .Chan [1,3,8,14]],[(18,50)],[]⟩),(1376265,⟨[.box 0 .Cur [], .box 3 .Chan [1,3,8,14]],[(23,50)],[]⟩),(1703947,⟨[.box 0 .Cur [], .box 3 .Chan [1,3,6,8,14]],[(28,50)],[]⟩),(2031629,⟨[.box 3 .Chan [1,3,6,8,11,14], .box 0 .Cur []],[(33,50)],[]⟩),(2424847,⟨[.box 0 .Cur [], .box 3 .Chan [1,3,6,8,11,14]],[(39,50)],[]⟩),(2818065,⟨[.box 0 .Cur [], .box 3 .Chan [1,3,6,8,11,14]],[(45,50)],[]⟩)],[],[],[],[]⟩
def ci33:CInfo:=mkCI [.ptr []] [.cells .Cur] [.v .Chan, .cells .Cur] (fun x=>spec_l14Any.raw x) [(true,15)] [1,3,8,14] false
theorem c33:Contract prog 33 ci33:=eC 52 (l:=[(31,ci31),(35,ci35),(48,ci48),(49,ci49),(50,ci50)]) (pc c31 (pc c35 (pc c48 (pc c49 (pc c50 pn))))) func33 an33 (fun x=>spec_l14Any.raw x) (by kernel_rfl) (fun x=>by kernel_rfl) fun x r hb h=>h
def an10:An:=⟨[(1900550,⟨[.box 6 .Chan []],[(30,36)],[]⟩),(2490376,⟨[.box 4 .Cur [], .box 6 .Chan []],[(39,40)],[]⟩),(3276811,⟨[.box 4 .Cur [], .own 7 .Note],[(8,8),(51,84)],[]⟩)],[],[],[(4,⟨[.slot 29 (.v .bool), .box 4 .Cur []],[(20,28)],[]⟩),(9,⟨[.slot 50 (.v .bool), .box 4 .Cur []],[(44,49)],[]⟩)],[]⟩
def ci10:CInfo:=mkCI (plains 1) [.sl .byte] [.sl .Note, .v .Chan] (fun x=>spec_DrawErased.raw x) [(false,1),(true,15)] [0] false
theorem c10:Contract prog 10 ci10:=eC 87 (l:=[(26,ci26),(27,ci27),(31,ci31),(32,ci32),(33,ci33),(34,ci34),(35,ci35)]) (pc c26 (pc c27 (pc c31 (pc c32 (pc c33 (pc c34 (pc c35 pn))))))) func10 an10 (fun x=>spec_DrawErased.raw x) (by kernel_rfl) (fun x=>by kernel_rfl) fun x r hb h=>h
def ci36:CInfo:=mkCI (plains 1) [.v .Chan] [.v .int] (fun x=>oldestO x) [(false,1)] [] false
theorem c36:Contract prog 36 ci36:=eC 14 (l:=[(52,ci52)]) (pc c52 pn) func36 an0 (fun x=>spec_Oldest.raw x) (by kernel_rfl) (fun x=>by kernel_rfl) fun x r hb h=>spec_Oldest.ok hb h
def an11:An:=⟨[],[(0,⟨[],[(4,4),(6,7),(10,54)],[]⟩),(1,⟨[],[(4,4),(7,7),(16,54)],[]⟩)],[(3,⟨[.slot 6 (.v .int)],[(4,4),(7,7),(10,54)],[]⟩)],[(6,⟨[.slot 36 (.v .bool)],[(20,35)],[]⟩),(7,⟨[.slot 54 (.v .bool)],[(37,53)],[]⟩)],[]⟩
def ci11:CInfo:=mkCI (plains 2) [.sl .Note, .v .Chan] [.v .bool] (fun x=>erasedO x.1 x.2) [(false,1)] [] false
theorem c11:Contract prog 11 ci11:=eC 55 (l:=[(36,ci36),(37,ci37),(38,ci38)]) (pc c36 (pc c37 (pc c38 pn))) func11 an11 (fun x=>spec_Erased.raw x.1 x.2) (by kernel_rfl) (fun x=>by kernel_rfl) fun x r hb h=>spec_Erased.ok hb h
def an3:An:=⟨[],[(0,⟨[],[(2,2),(4,5),(17,39)],[]⟩),(2,⟨[],[(2,2),(6,7),(40,69)],[]⟩)],[(7,⟨[.slot 4 (.v .int)],[(2,2),(5,5),(17,39)],[]⟩),(13,⟨[.slot 6 (.v .int)],[(2,2),(7,7),(40,69)],[]⟩)],[(10,⟨[.slot 39 (.v .bool)],[(27,38)],[]⟩),(16,⟨[.slot 69 (.v .bool)],[(57,68)],[]⟩)],[]⟩
def ci3:CInfo:=mkCI (plains 1) [.sl .byte] [.v .bool] (fun x=>some ((fun (a0:List UInt8)=>always a0) x)) [(false,1)] [] false
theorem c3:Contract prog 3 ci3:=eC 82 (l:=[(5,ci5),(6,ci6),(7,ci7),(8,ci8),(9,ci9),(10,ci10),(11,ci11)]) (pc c5 (pc c6 (pc c7 (pc c8 (pc c9 (pc c10 (pc c11 pn))))))) func3 an3 (fun x=>laws_FnErased.raw x) (by kernel_rfl) (fun x=>by kernel_rfl) fun x r hb h=>(laws_FnErased.ok hb).trans h
end
end Go.D

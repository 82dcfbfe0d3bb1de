/-
  The functions of the program: each computes what is said of it.
-/
import Derived.Test.YtinolgjddfjojaaGreatN8g
import Derived.Test.YtinolgjddfjojaaGreatProg
import Derived.KernelRfl
namespace Go.D
open Go.Proofs
def tnT:TypeId→Option TN:=fun t=>look t [(3, .int),(5, .byte),(22, .bs),(45, .Frame),(56, .Client),(63, .Sess),(73, .Note),(102, .Event),(127, .Op),(129, .Wire),(191, .Out),(242, .Credit),(275, .Cand)]
def an0:An:=⟨[],[],[],[],[]⟩
theorem tn_mixed:Tryz.prog.follows .mixedOrders=true:=by kernel_rfl
theorem tn_ok:tnAll Tryz.prog [(3, .int),(5, .byte),(22, .bs),(45, .Frame),(56, .Client),(63, .Sess),(73, .Note),(102, .Event),(127, .Op),(129, .Wire),(191, .Out),(242, .Credit),(275, .Cand)]=true:=by kernel_rfl
noncomputable def ci5:CInfo:=mkCI (plains 1) [.sl .byte] [.v .bool] (fun x=>some (big x)) [(false,1)] [] false
theorem c5:Contract Tryz.prog 5 ci5:=evC 6 tn_mixed tn_ok phi_nil Tryz.func5 an0 (fun x=>laws_big.raw x) (by kernel_rfl) (fun x=>by kernel_rfl) fun x r hb h=>(laws_big.ok hb).trans h
def an26:An:=⟨[],[(0,⟨[.slot 3 (.v .int)],[(4,4),(8,27)],[]⟩)],[(3,⟨[.slot 3 (.v .int), .slot 4 (.v .int)],[(8,27)],[]⟩)],[(3,⟨[.slot 15 (.v .bool)],[(8,14)],[]⟩)],[]⟩
noncomputable def ci26:CInfo:=mkCI (plains 1) [.sl .byte] [.cells .Cur] (fun x=>spec_l1New.raw x) [(false,1)] [] true
theorem c26:Contract Tryz.prog 26 ci26:=evP 32 tn_mixed tn_ok phi_nil Tryz.func26 an26 (fun x=>spec_l1New.raw x) (by kernel_rfl) (fun x=>by kernel_rfl) fun x r hb h=>h
def an47:An:=⟨[(2228229,⟨[.slot 3 (.v .int), .box 0 .Cur []],[(35,56)],[]⟩)],[],[],[],[]⟩
noncomputable def ci47:CInfo:=mkCI [.ptr []] [.cells .Cur] [.v .int, .cells .Cur] (fun x=>spec_l1Byte.raw x) [(false,1)] [] false
theorem c47:Contract Tryz.prog 47 ci47:=evC 58 tn_mixed tn_ok phi_nil Tryz.func47 an47 (fun x=>spec_l1Byte.raw x) (by kernel_rfl) (fun x=>by kernel_rfl) fun x r hb h=>h
noncomputable def ci31:CInfo:=mkCI [.ptr [], .plain] [.cells .Cur, .v .int] [.v .int, .cells .Cur] (fun x=>spec_l1Below.raw x.1 x.2) [(false,1)] [] false
theorem c31:Contract Tryz.prog 31 ci31:=evC 31 (l:=[(47,ci47)]) tn_mixed tn_ok (phi_cons c47 phi_nil) Tryz.func31 an0 (fun x=>spec_l1Below.raw x.1 x.2) (by kernel_rfl) (fun x=>by kernel_rfl) fun x r hb h=>h
noncomputable def ci32:CInfo:=mkCI [.ptr [], .plain] [.cells .Cur, .v .int] [.v .bool, .cells .Cur] (fun x=>spec_l1Once.raw x.1 x.2) [(false,1)] [] false
theorem c32:Contract Tryz.prog 32 ci32:=evC 9 (l:=[(31,ci31)]) tn_mixed tn_ok (phi_cons c31 phi_nil) Tryz.func32 an0 (fun x=>spec_l1Once.raw x.1 x.2) (by kernel_rfl) (fun x=>by kernel_rfl) fun x r hb h=>h
def an49:An:=⟨[],[(0,⟨[.own 5 .byte, .box 0 .Cur []],[(6,6),(8,18)],[]⟩)],[(3,⟨[.own 5 .byte, .slot 6 (.v .int), .box 0 .Cur []],[(8,18)],[]⟩)],[],[]⟩
noncomputable def ci49:CInfo:=mkCI [.ptr [], .plain] [.cells .Cur, .v .int] [.sl .byte, .cells .Cur] (fun x=>spec_l1Bytes.raw x.1 x.2) [(false,1)] [0] false
theorem c49:Contract Tryz.prog 49 ci49:=evC 20 (l:=[(47,ci47)]) tn_mixed tn_ok (phi_cons c47 phi_nil) Tryz.func49 an49 (fun x=>spec_l1Bytes.raw x.1 x.2) (by kernel_rfl) (fun x=>by kernel_rfl) fun x r hb h=>h
noncomputable def ci78:CInfo:=mkCI (plains 1) [.v .Dice] [.v .Dice] (fun x=>diceCopyO x) [(true,2)] [0] false
theorem c78:Contract Tryz.prog 78 ci78:=evC 10 tn_mixed tn_ok phi_nil Tryz.func78 an0 (fun x=>spec_l10Copy.raw x) (by kernel_rfl) (fun x=>by kernel_rfl) fun x r hb h=>spec_l10Copy.ok hb h
def an72:An:=⟨[],[],[],[(1,⟨[.slot 6 (.v .bool)],[(7,14)],[]⟩)],[]⟩
noncomputable def ci72:CInfo:=mkCI (plains 3) [.v .int, .v .int, .v .int] [.v .bool] (fun x=>some (inR x.1 x.2.1 x.2.2)) [(false,1)] [] false
theorem c72:Contract Tryz.prog 72 ci72:=evC 15 tn_mixed tn_ok phi_nil Tryz.func72 an72 (fun x=>spec_l1In.raw x.1 x.2.1 x.2.2) (by kernel_rfl) (fun x=>by kernel_rfl) fun x r hb h=>(spec_l1In.ok hb).trans h
def an126:An:=⟨[],[],[],[(1,⟨[.slot 2 (.v .bool)],[(3,11)],[]⟩)],[]⟩
noncomputable def ci126:CInfo:=mkCI (plains 1) [.v .Dice] [.v .bool] (fun x=>some (diceOk x)) [(false,1)] [] false
theorem c126:Contract Tryz.prog 126 ci126:=evC 12 (l:=[(72,ci72)]) tn_mixed tn_ok (phi_cons c72 phi_nil) Tryz.func126 an126 (fun x=>spec_DiceOk.raw x) (by kernel_rfl) (fun x=>by kernel_rfl) fun x r hb h=>(spec_DiceOk.ok hb).trans h
def an124:An:=⟨[],[(0,⟨[.own 7 .byte],[(8,8),(21,33)],[]⟩)],[(5,⟨[.own 7 .byte, .slot 8 (.v .int)],[(21,33)],[]⟩)],[(2,⟨[.slot 17 (.v .bool)],[(12,16)],[]⟩)],[]⟩
noncomputable def ci124:CInfo:=mkCI (plains 3) [.sl .byte, .v .int, .v .int] [.sl .byte] (fun x=>putNO x.1 x.2.1 x.2.2) [(false,1)] [0] false
theorem c124:Contract Tryz.prog 124 ci124:=evC 35 tn_mixed tn_ok phi_nil Tryz.func124 an124 (fun x=>spec_PutN.raw x.1 x.2.1 x.2.2) (by kernel_rfl) (fun x=>by kernel_rfl) fun x r hb h=>spec_PutN.ok hb h
def an216:An:=⟨[],[(0,⟨[.own 3 .byte],[(12,21)],[]⟩)],[(4,⟨[.own 3 .byte],[(12,21)],[]⟩)],[(1,⟨[.slot 9 (.v .bool)],[(4,8)],[]⟩)],[]⟩
noncomputable def ci216:CInfo:=mkCI (plains 1) [.v .int] [.sl .byte] (fun x=>padO x) [(false,1)] [0] false
theorem c216:Contract Tryz.prog 216 ci216:=evC 27 (l:=[(124,ci124)]) tn_mixed tn_ok (phi_cons c124 phi_nil) Tryz.func216 an216 (fun x=>spec_Pad.raw x) (by kernel_rfl) (fun x=>by kernel_rfl) fun x r hb h=>spec_Pad.ok hb h
noncomputable def ci217:CInfo:=mkCI (plains 0) [] [.sl .int] (fun _=>some (start)) [(false,1)] [0] false
theorem c217:Contract Tryz.prog 217 ci217:=evC 2 tn_mixed tn_ok phi_nil Tryz.func217 an0 (fun _=>spec_Start.raw) (by kernel_rfl) (fun x=>by kernel_rfl) fun x r hb h=>(spec_Start.ok hb).trans h
def an243:An:=⟨[],[(0,⟨[],[(2,15)],[]⟩)],[(2,⟨[.slot 3 (.v .int)],[(2,2),(4,15)],[]⟩)],[],[]⟩
noncomputable def ci243:CInfo:=mkCI (plains 1) [.sl .int] [.v .bool] (fun x=>some (words8 x)) [(false,1)] [] false
theorem c243:Contract Tryz.prog 243 ci243:=evC 19 (l:=[(72,ci72)]) tn_mixed tn_ok (phi_cons c72 phi_nil) Tryz.func243 an243 (fun x=>spec_l2Words.raw x) (by kernel_rfl) (fun x=>by kernel_rfl) fun x r hb h=>(spec_l2Words.ok hb).trans h
noncomputable def ci244:CInfo:=mkCI (plains 0) [] [.sl .int] (fun _=>some (kTab)) [(false,1)] [0] false
theorem c244:Contract Tryz.prog 244 ci244:=evC 2 tn_mixed tn_ok phi_nil Tryz.func244 an0 (fun _=>spec_l2K.raw) (by kernel_rfl) (fun x=>by kernel_rfl) fun x r hb h=>(spec_l2K.ok hb).trans h
def an211:An:=⟨[],[(0,⟨[.slot 9 (.v .int)],[(10,10),(29,43)],[]⟩)],[(5,⟨[.slot 9 (.v .int), .slot 10 (.v .int)],[(29,43)],[]⟩)],[(1,⟨[.slot 28 (.v .bool)],[(11,27)],[]⟩)],[]⟩
noncomputable def ci211:CInfo:=mkCI (plains 3) [.sl .byte, .v .int, .v .int] [.v .int, .v .int, .v .bool] (fun x=>getNO x.1 x.2.1 x.2.2) [(false,1),(false,1),(false,1)] [] false
theorem c211:Contract Tryz.prog 211 ci211:=evC 48 tn_mixed tn_ok phi_nil Tryz.func211 an211 (fun x=>spec_GetN.raw x.1 x.2.1 x.2.2) (by kernel_rfl) (fun x=>by kernel_rfl) fun x r hb h=>spec_GetN.ok hb h
def an246:An:=⟨[],[],[],[(2,⟨[.slot 13 (.v .bool)],[(8,12)],[]⟩)],[]⟩
noncomputable def ci246:CInfo:=mkCI (plains 2) [.v .int, .v .int] [.v .int] (fun x=>rotO x.1 x.2) [(false,1)] [] false
theorem c246:Contract Tryz.prog 246 ci246:=evC 24 tn_mixed tn_ok phi_nil Tryz.func246 an246 (fun x=>spec_Rot.raw x.1 x.2) (by kernel_rfl) (fun x=>by kernel_rfl) fun x r hb h=>spec_Rot.ok hb h
def an245:An:=⟨[],[(0,⟨[.own 3 .int],[(4,7),(18,33)],[]⟩),(2,⟨[.own 3 .int],[(8,12),(34,82)],[]⟩)],[(5,⟨[.own 3 .int, .slot 4 (.v .int)],[(5,7),(18,33)],[]⟩),(10,⟨[.own 3 .int, .slot 8 (.v .int)],[(9,12),(34,82)],[]⟩)],[],[]⟩
noncomputable def ci245:CInfo:=mkCI (plains 1) [.sl .byte] [.sl .int] (fun x=>scheduleO x) [(false,1)] [0] false
theorem c245:Contract Tryz.prog 245 ci245:=evC 84 (l:=[(211,ci211),(246,ci246)]) tn_mixed tn_ok (phi_cons c211 (phi_cons c246 phi_nil)) Tryz.func245 an245 (fun x=>spec_Schedule.raw x) (by kernel_rfl) (fun x=>by kernel_rfl) fun x r hb h=>spec_Schedule.ok hb h
def an218:An:=⟨[],[(0,⟨[.slot 8 (.v .int), .slot 9 (.v .int), .slot 10 (.v .int), .slot 11 (.v .int), .slot 12 (.v .int), .slot 13 (.v .int), .slot 14 (.v .int), .slot 15 (.v .int)],[(16,18),(60,128)],[]⟩),(2,⟨[.own 5 .int],[(20,20),(138,154)],[]⟩)],[(8,⟨[.slot 8 (.v .int), .slot 9 (.v .int), .slot 10 (.v .int), .slot 11 (.v .int), .slot 12 (.v .int), .slot 13 (.v .int), .slot 14 (.v .int), .slot 15 (.v .int), .slot 16 (.v .int)],[(17,18),(60,128)],[]⟩),(22,⟨[.slot 20 (.v .int), .own 5 .int],[(138,154)],[]⟩)],[(2,⟨[.slot 31 (.v .bool)],[(24,30)],[]⟩)],[]⟩
noncomputable def ci218:CInfo:=mkCI (plains 2) [.sl .int, .sl .byte] [.sl .int] (fun x=>compressO x.1 x.2) [(false,1)] [0] false
theorem c218:Contract Tryz.prog 218 ci218:=evC 156 (l:=[(243,ci243),(244,ci244),(245,ci245),(246,ci246)]) tn_mixed tn_ok (phi_cons c243 (phi_cons c244 (phi_cons c245 (phi_cons c246 phi_nil)))) Tryz.func218 an218 (fun x=>spec_Compress.raw x.1 x.2) (by kernel_rfl) (fun x=>by kernel_rfl) fun x r hb h=>spec_Compress.ok hb h
def an219:An:=⟨[],[(0,⟨[.own 3 .byte],[(4,4),(6,15)],[]⟩)],[(3,⟨[.own 3 .byte, .slot 4 (.v .int)],[(6,15)],[]⟩)],[],[]⟩
noncomputable def ci219:CInfo:=mkCI (plains 1) [.sl .int] [.sl .byte] (fun x=>wordBytesO x) [(false,1)] [0] false
theorem c219:Contract Tryz.prog 219 ci219:=evC 17 (l:=[(124,ci124)]) tn_mixed tn_ok (phi_cons c124 phi_nil) Tryz.func219 an219 (fun x=>spec_l2Out.raw x) (by kernel_rfl) (fun x=>by kernel_rfl) fun x r hb h=>spec_l2Out.ok hb h
def an188:An:=⟨[],[(0,⟨[.own 4 .int],[(5,5),(18,30)],[3]⟩)],[(6,⟨[.own 4 .int, .slot 5 (.v .int)],[(18,30)],[]⟩)],[],[]⟩
noncomputable def ci188:CInfo:=mkCI (plains 1) [.sl .byte] [.sl .byte] (fun x=>some (sha x)) [(false,1)] [0] false
theorem c188:Contract Tryz.prog 188 ci188:=evC 33 (l:=[(216,ci216),(217,ci217),(218,ci218),(219,ci219)]) tn_mixed tn_ok (phi_cons c216 (phi_cons c217 (phi_cons c218 (phi_cons c219 phi_nil)))) Tryz.func188 an188 (fun x=>spec_Sha.raw x) (by kernel_rfl) (fun x=>by kernel_rfl) fun x r hb h=>(spec_Sha.ok hb).trans h
def an187:An:=⟨[(851974,⟨[.own 3 .byte],[(14,15)],[]⟩)],[(0,⟨[.own 3 .byte],[(16,21)],[]⟩)],[(6,⟨[.own 3 .byte],[(16,21)],[]⟩)],[],[]⟩
noncomputable def ci187:CInfo:=mkCI (plains 1) [.sl .byte] [.sl .byte] (fun x=>some (blockKey x)) [(false,1)] [0] false
theorem c187:Contract Tryz.prog 187 ci187:=evC 23 (l:=[(188,ci188)]) tn_mixed tn_ok (phi_cons c188 phi_nil) Tryz.func187 an187 (fun x=>spec_BlockKey.raw x) (by kernel_rfl) (fun x=>by kernel_rfl) fun x r hb h=>(spec_BlockKey.ok hb).trans h
def an144:An:=⟨[],[(0,⟨[.own 6 .byte, .own 7 .byte],[(8,8),(22,41)],[]⟩)],[(7,⟨[.own 6 .byte, .own 7 .byte, .slot 8 (.v .int)],[(22,41)],[]⟩)],[(1,⟨[.slot 16 (.v .bool)],[(9,15)],[]⟩)],[]⟩
noncomputable def ci144:CInfo:=mkCI (plains 2) [.sl .byte, .sl .byte] [.sl .byte] (fun x=>some (hmac x.1 x.2)) [(false,1)] [0] false
theorem c144:Contract Tryz.prog 144 ci144:=evC 49 (l:=[(187,ci187),(188,ci188)]) tn_mixed tn_ok (phi_cons c187 (phi_cons c188 phi_nil)) Tryz.func144 an144 (fun x=>spec_Hmac.raw x.1 x.2) (by kernel_rfl) (fun x=>by kernel_rfl) fun x r hb h=>(spec_Hmac.ok hb).trans h
def an117:An:=⟨[],[],[],[(1,⟨[.slot 13 (.v .bool)],[(5,12)],[]⟩)],[]⟩
noncomputable def ci117:CInfo:=mkCI (plains 2) [.sl .byte, .v .int] [.sl .byte] (fun x=>some (diceAt x.1 x.2)) [(false,1)] [0] false
theorem c117:Contract Tryz.prog 117 ci117:=evC 24 (l:=[(72,ci72),(124,ci124),(144,ci144)]) tn_mixed tn_ok (phi_cons c72 (phi_cons c124 (phi_cons c144 phi_nil))) Tryz.func117 an117 (fun x=>spec_DiceAt.raw x.1 x.2) (by kernel_rfl) (fun x=>by kernel_rfl) fun x r hb h=>(spec_DiceAt.ok hb).trans h
def an84:An:=⟨[],[],[],[(2,⟨[.slot 14 (.v .bool)],[(7,13)],[]⟩)],[]⟩
noncomputable def ci84:CInfo:=mkCI (plains 1) [.v .Dice] [.v .Dice, .sl .byte] (fun x=>rollO x) [(true,2),(false,1)] [0,2] false
theorem c84:Contract Tryz.prog 84 ci84:=evC 27 (l:=[(78,ci78),(117,ci117),(126,ci126)]) tn_mixed tn_ok (phi_cons c78 (phi_cons c117 (phi_cons c126 phi_nil))) Tryz.func84 an84 (fun x=>spec_Roll.raw x) (by kernel_rfl) (fun x=>by kernel_rfl) fun x r hb h=>spec_Roll.ok hb h
def an109:An:=⟨[],[(0,⟨[.own 8 .byte, .own 9 .byte],[(10,10),(27,46)],[]⟩)],[(6,⟨[.own 8 .byte, .own 9 .byte, .slot 10 (.v .int)],[(27,46)],[]⟩)],[(1,⟨[.slot 23 (.v .bool)],[(11,22)],[]⟩)],[]⟩
noncomputable def ci109:CInfo:=mkCI (plains 3) [.sl .byte, .sl .byte, .v .int] [.sl .byte, .v .bool] (fun x=>some (expand x.1 x.2.1 x.2.2)) [(false,1),(false,1)] [0] false
theorem c109:Contract Tryz.prog 109 ci109:=evC 52 (l:=[(72,ci72),(144,ci144)]) tn_mixed tn_ok (phi_cons c72 (phi_cons c144 phi_nil)) Tryz.func109 an109 (fun x=>spec_Expand.raw x.1 x.2.1 x.2.2) (by kernel_rfl) (fun x=>by kernel_rfl) fun x r hb h=>(spec_Expand.ok hb).trans h
noncomputable def ci69:CInfo:=mkCI (plains 2) [.sl .byte, .v .str] [.sl .byte] (fun x=>deriveO x.1 x.2) [(false,1)] [0] false
theorem c69:Contract Tryz.prog 69 ci69:=evC 15 (l:=[(109,ci109)]) tn_mixed tn_ok (phi_cons c109 phi_nil) Tryz.func69 an0 (fun x=>spec_Derive.raw x.1 x.2) (by kernel_rfl) (fun x=>by kernel_rfl) fun x r hb h=>spec_Derive.ok hb h
noncomputable def ci147:CInfo:=mkCI (plains 1) [.sl .byte] [.v .Jar] (fun x=>some (jarNew x)) [(true,1)] [0] false
theorem c147:Contract Tryz.prog 147 ci147:=evC 10 (l:=[(69,ci69)]) tn_mixed tn_ok (phi_cons c69 phi_nil) Tryz.func147 an0 (fun x=>spec_JarNew.raw x) (by kernel_rfl) (fun x=>by kernel_rfl) fun x r hb h=>(spec_JarNew.ok hb).trans h
noncomputable def ci148:CInfo:=mkCI (plains 1) [.v .int] [.v .Tab] (fun x=>some (tabNew x)) [(true,2)] [1] false
theorem c148:Contract Tryz.prog 148 ci148:=evC 9 (l:=[(72,ci72)]) tn_mixed tn_ok (phi_cons c72 phi_nil) Tryz.func148 an0 (fun x=>spec_TabNew.raw x) (by kernel_rfl) (fun x=>by kernel_rfl) fun x r hb h=>(spec_TabNew.ok hb).trans h
noncomputable def ci161:CInfo:=mkCI (plains 1) [.v .Jar] [.v .bool] (fun x=>some (jarOk x)) [(false,1)] [] false
theorem c161:Contract Tryz.prog 161 ci161:=evC 7 tn_mixed tn_ok phi_nil Tryz.func161 an0 (fun x=>spec_JarOk.raw x) (by kernel_rfl) (fun x=>by kernel_rfl) fun x r hb h=>(spec_JarOk.ok hb).trans h
def an192:An:=⟨[(1179655,⟨[.slot 3 (.v .int)],[(19,20)],[]⟩)],[(0,⟨[.slot 3 (.v .int)],[(4,20)],[]⟩)],[(3,⟨[.slot 3 (.v .int), .slot 4 (.v .int)],[(5,20)],[]⟩)],[],[]⟩
noncomputable def ci192:CInfo:=mkCI (plains 1) [.v .Tab] [.v .int] (fun x=>liveO x) [(false,1)] [] false
theorem c192:Contract Tryz.prog 192 ci192:=evC 22 tn_mixed tn_ok phi_nil Tryz.func192 an192 (fun x=>spec_Live.raw x) (by kernel_rfl) (fun x=>by kernel_rfl) fun x r hb h=>spec_Live.ok hb h
def an74:An:=⟨[],[],[],[(1,⟨[.slot 2 (.v .bool)],[(3,29)],[]⟩)],[]⟩
noncomputable def ci74:CInfo:=mkCI (plains 1) [.v .Ep] [.v .bool] (fun x=>some (noEp x)) [(false,1)] [] false
theorem c74:Contract Tryz.prog 74 ci74:=evC 30 tn_mixed tn_ok phi_nil Tryz.func74 an74 (fun x=>spec_l14None.raw x) (by kernel_rfl) (fun x=>by kernel_rfl) fun x r hb h=>(spec_l14None.ok hb).trans h
def an174:An:=⟨[],[],[],[(1,⟨[.slot 2 (.v .bool)],[(3,37)],[]⟩)],[]⟩
noncomputable def ci174:CInfo:=mkCI (plains 1) [.v .Chan] [.v .bool] (fun x=>some (noChan x)) [(false,1)] [] false
theorem c174:Contract Tryz.prog 174 ci174:=evC 38 (l:=[(74,ci74)]) tn_mixed tn_ok (phi_cons c74 phi_nil) Tryz.func174 an174 (fun x=>spec_l19NoChan.raw x) (by kernel_rfl) (fun x=>by kernel_rfl) fun x r hb h=>(spec_l19NoChan.ok hb).trans h
noncomputable def ci55:CInfo:=mkCI (plains 1) [.v .int] [.v .Addr] (fun x=>some (near x)) [(true,2)] [] false
theorem c55:Contract Tryz.prog 55 ci55:=evC 12 (l:=[(72,ci72)]) tn_mixed tn_ok (phi_cons c72 phi_nil) Tryz.func55 an0 (fun x=>spec_Near.raw x) (by kernel_rfl) (fun x=>by kernel_rfl) fun x r hb h=>(spec_Near.ok hb).trans h
noncomputable def ci157:CInfo:=mkCI (plains 2) [.v .Win, .v .int] [.v .bool] (fun x=>bitO x.1 x.2) [(false,1)] [] false
theorem c157:Contract Tryz.prog 157 ci157:=evC 19 tn_mixed tn_ok phi_nil Tryz.func157 an0 (fun x=>spec_l8Bit.raw x.1 x.2) (by kernel_rfl) (fun x=>by kernel_rfl) fun x r hb h=>spec_l8Bit.ok hb h
def an110:An:=⟨[],[(0,⟨[],[(2,3),(15,25)],[]⟩),(2,⟨[],[(2,2),(4,4),(39,45)],[]⟩)],[(4,⟨[.slot 3 (.v .int)],[(2,2),(15,25)],[]⟩),(11,⟨[.slot 4 (.v .int)],[(2,2),(39,45)],[]⟩)],[(1,⟨[.slot 14 (.v .bool)],[(5,13)],[]⟩),(8,⟨[.slot 35 (.v .bool)],[(26,34)],[]⟩)],[]⟩
noncomputable def ci110:CInfo:=mkCI (plains 1) [.v .Win] [.v .bool] (fun x=>some (winOk x)) [(false,1)] [] false
theorem c110:Contract Tryz.prog 110 ci110:=evC 46 (l:=[(72,ci72),(157,ci157)]) tn_mixed tn_ok (phi_cons c72 (phi_cons c157 phi_nil)) Tryz.func110 an110 (fun x=>spec_WinOk.raw x) (by kernel_rfl) (fun x=>by kernel_rfl) fun x r hb h=>(spec_WinOk.ok hb).trans h
def an73:An:=⟨[],[],[],[(1,⟨[.slot 2 (.v .bool)],[(3,21)],[]⟩)],[]⟩
noncomputable def ci73:CInfo:=mkCI (plains 1) [.v .Ep] [.v .bool] (fun x=>some (epOk x)) [(false,1)] [] false
theorem c73:Contract Tryz.prog 73 ci73:=evC 22 (l:=[(72,ci72),(110,ci110)]) tn_mixed tn_ok (phi_cons c72 (phi_cons c110 phi_nil)) Tryz.func73 an73 (fun x=>spec_EpOk.raw x) (by kernel_rfl) (fun x=>by kernel_rfl) fun x r hb h=>(spec_EpOk.ok hb).trans h
def an52:An:=⟨[(1376261,⟨[],[(2,3),(22,54)],[]⟩),(1572871,⟨[.slot 3 (.v .int)],[],[]⟩)],[],[],[(1,⟨[.slot 19 (.v .bool)],[(4,18)],[]⟩),(7,⟨[.slot 45 (.v .bool)],[(25,44)],[]⟩),(9,⟨[.slot 54 (.v .bool)],[(46,53)],[]⟩),(13,⟨[.slot 2 (.v .bool)],[(59,73)],[]⟩)],[]⟩
noncomputable def ci52:CInfo:=mkCI (plains 1) [.v .Chan] [.v .bool] (fun x=>chanOkO x) [(false,1)] [] false
theorem c52:Contract Tryz.prog 52 ci52:=evC 74 (l:=[(72,ci72),(73,ci73),(74,ci74)]) tn_mixed tn_ok (phi_cons c72 (phi_cons c73 (phi_cons c74 phi_nil))) Tryz.func52 an52 (fun x=>spec_ChanOk.raw x) (by kernel_rfl) (fun x=>by kernel_rfl) fun x r hb h=>spec_ChanOk.ok hb h
noncomputable def ci38:CInfo:=mkCI (plains 2) [.sl .byte, .sl .byte] [.v .bool] (fun x=>sameO x.1 x.2) [(false,1)] [] false
theorem c38:Contract Tryz.prog 38 ci38:=evC 10 tn_mixed tn_ok phi_nil Tryz.func38 an0 (fun x=>spec_l1Same.raw x.1 x.2) (by kernel_rfl) (fun x=>by kernel_rfl) fun x r hb h=>spec_l1Same.ok hb h
def an138:An:=⟨[],[],[],[(1,⟨[.slot 2 (.v .bool)],[(3,10)],[]⟩)],[]⟩
noncomputable def ci138:CInfo:=mkCI (plains 1) [.v .Addr] [.v .bool] (fun x=>some (addrOk x)) [(false,1)] [] false
theorem c138:Contract Tryz.prog 138 ci138:=evC 11 (l:=[(72,ci72)]) tn_mixed tn_ok (phi_cons c72 phi_nil) Tryz.func138 an138 (fun x=>spec_AddrOk.raw x) (by kernel_rfl) (fun x=>by kernel_rfl) fun x r hb h=>(spec_AddrOk.ok hb).trans h
def an194:An:=⟨[],[(0,⟨[],[(2,5),(16,64)],[]⟩),(2,⟨[],[(2,2),(5,5),(51,64)],[]⟩)],[(4,⟨[.slot 3 (.v .int)],[(2,2),(4,5),(16,64)],[]⟩),(10,⟨[.slot 5 (.v .int)],[(2,2),(51,64)],[]⟩)],[(1,⟨[.slot 15 (.v .bool)],[(6,14)],[]⟩),(7,⟨[.slot 50 (.v .bool)],[(28,49)],[]⟩)],[]⟩
noncomputable def ci194:CInfo:=mkCI (plains 1) [.v .Paths] [.v .bool] (fun x=>some (pathsOk x)) [(false,1)] [] false
theorem c194:Contract Tryz.prog 194 ci194:=evC 65 (l:=[(72,ci72),(138,ci138)]) tn_mixed tn_ok (phi_cons c72 (phi_cons c138 phi_nil)) Tryz.func194 an194 (fun x=>spec_PathsOk.raw x) (by kernel_rfl) (fun x=>by kernel_rfl) fun x r hb h=>(spec_PathsOk.ok hb).trans h
def an177:An:=⟨[],[],[],[(1,⟨[.slot 30 (.v .bool)],[(3,29)],[]⟩),(4,⟨[.slot 2 (.v .bool)],[(33,54)],[]⟩),(5,⟨[.slot 2 (.v .bool)],[(55,76)],[]⟩)],[]⟩
noncomputable def ci177:CInfo:=mkCI (plains 1) [.v .Sess] [.v .bool] (fun x=>sessOkO x) [(false,1)] [] false
theorem c177:Contract Tryz.prog 177 ci177:=evC 77 (l:=[(38,ci38),(52,ci52),(55,ci55),(72,ci72),(174,ci174),(194,ci194)]) tn_mixed tn_ok (phi_cons c38 (phi_cons c52 (phi_cons c55 (phi_cons c72 (phi_cons c174 (phi_cons c194 phi_nil)))))) Tryz.func177 an177 (fun x=>spec_SessOk.raw x) (by kernel_rfl) (fun x=>by kernel_rfl) fun x r hb h=>spec_SessOk.ok hb h
def an182:An:=⟨[],[(0,⟨[],[(4,21)],[]⟩)],[(2,⟨[.slot 5 (.v .int)],[(4,4),(6,21)],[]⟩)],[],[]⟩
noncomputable def ci182:CInfo:=mkCI (plains 2) [.v .Tab, .sl .byte] [.v .int] (fun x=>findSnO x.1 x.2) [(false,1)] [] false
theorem c182:Contract Tryz.prog 182 ci182:=evC 22 (l:=[(38,ci38)]) tn_mixed tn_ok (phi_cons c38 phi_nil) Tryz.func182 an182 (fun x=>spec_FindSn.raw x.1 x.2) (by kernel_rfl) (fun x=>by kernel_rfl) fun x r hb h=>spec_FindSn.ok hb h
def an162:An:=⟨[],[(0,⟨[],[(2,3),(21,46)],[]⟩)],[(4,⟨[.slot 3 (.v .int)],[(2,2),(21,46)],[]⟩)],[(1,⟨[.slot 20 (.v .bool)],[(4,19)],[]⟩),(6,⟨[.slot 46 (.v .bool)],[(28,45)],[]⟩)],[]⟩
noncomputable def ci162:CInfo:=mkCI (plains 1) [.v .Tab] [.v .bool] (fun x=>tabOkO x) [(false,1)] [] false
theorem c162:Contract Tryz.prog 162 ci162:=evC 47 (l:=[(72,ci72),(177,ci177),(182,ci182),(192,ci192)]) tn_mixed tn_ok (phi_cons c72 (phi_cons c177 (phi_cons c182 (phi_cons c192 phi_nil)))) Tryz.func162 an162 (fun x=>spec_TabOk.raw x) (by kernel_rfl) (fun x=>by kernel_rfl) fun x r hb h=>spec_TabOk.ok hb h
def an163:An:=⟨[],[(0,⟨[],[(2,4),(8,60)],[]⟩),(2,⟨[],[(2,2),(4,4),(45,60)],[]⟩)],[(4,⟨[.slot 3 (.v .int)],[(2,2),(4,4),(8,60)],[]⟩),(9,⟨[.slot 4 (.v .int)],[(2,2),(45,60)],[]⟩)],[(6,⟨[.slot 44 (.v .bool)],[(14,43)],[]⟩)],[]⟩
noncomputable def ci163:CInfo:=mkCI (plains 1) [.sl .Credit] [.v .bool] (fun x=>some (creditsOk x)) [(false,1)] [] false
theorem c163:Contract Tryz.prog 163 ci163:=evC 61 (l:=[(72,ci72),(138,ci138)]) tn_mixed tn_ok (phi_cons c72 (phi_cons c138 phi_nil)) Tryz.func163 an163 (fun x=>spec_CreditsOk.raw x) (by kernel_rfl) (fun x=>by kernel_rfl) fun x r hb h=>(spec_CreditsOk.ok hb).trans h
noncomputable def ci164:CInfo:=mkCI (plains 1) [.sl .byte] [.v .bool] (fun x=>some (pskOk x)) [(false,1)] [] false
theorem c164:Contract Tryz.prog 164 ci164:=evC 6 (l:=[(72,ci72)]) tn_mixed tn_ok (phi_cons c72 phi_nil) Tryz.func164 an0 (fun x=>spec_PskOk.raw x) (by kernel_rfl) (fun x=>by kernel_rfl) fun x r hb h=>(spec_PskOk.ok hb).trans h
def an114:An:=⟨[],[(0,⟨[],[(2,3),(34,47)],[]⟩),(2,⟨[],[(2,2),(4,4),(48,66)],[]⟩)],[(4,⟨[.slot 3 (.v .int)],[(2,2),(34,47)],[]⟩),(9,⟨[.slot 4 (.v .int)],[(2,2),(48,66)],[]⟩)],[(1,⟨[.slot 33 (.v .bool)],[(5,32)],[]⟩)],[]⟩
noncomputable def ci114:CInfo:=mkCI (plains 1) [.v .Server] [.v .bool] (fun x=>serverOkO x) [(false,1)] [] false
theorem c114:Contract Tryz.prog 114 ci114:=evC 67 (l:=[(72,ci72),(126,ci126),(161,ci161),(162,ci162),(163,ci163),(164,ci164)]) tn_mixed tn_ok (phi_cons c72 (phi_cons c126 (phi_cons c161 (phi_cons c162 (phi_cons c163 (phi_cons c164 phi_nil)))))) Tryz.func114 an114 (fun x=>spec_ServerOk.raw x) (by kernel_rfl) (fun x=>by kernel_rfl) fun x r hb h=>spec_ServerOk.ok hb h
def an113:An:=⟨[],[(0,⟨[.box 9 .Server [0,1,2,5,6]],[(10,10),(23,39)],[]⟩)],[(4,⟨[.slot 10 (.v .int), .box 9 .Server [0,1,2,5,6]],[(23,39)],[]⟩)],[],[]⟩
noncomputable def ci113:CInfo:=mkCI (plains 3) [.sl .bs, .sl .byte, .v .int] [.v .Server] (fun x=>serverNewO x.1 x.2.1 x.2.2) [(true,7)] [0,1,2,5,6] false
theorem c113:Contract Tryz.prog 113 ci113:=evC 45 (l:=[(84,ci84),(114,ci114),(147,ci147),(148,ci148)]) tn_mixed tn_ok (phi_cons c84 (phi_cons c114 (phi_cons c147 (phi_cons c148 phi_nil)))) Tryz.func113 an113 (fun x=>spec_ServerNew.raw x.1 x.2.1 x.2.2) (by kernel_rfl) (fun x=>by kernel_rfl) fun x r hb h=>spec_ServerNew.ok hb h
def an115:An:=⟨[(589828,⟨[.own 3 .byte],[(10,11)],[]⟩)],[],[],[],[]⟩
noncomputable def ci115:CInfo:=mkCI (plains 1) [.sl .byte] [.sl .byte] (fun x=>seed25O x) [(false,1)] [0] false
theorem c115:Contract Tryz.prog 115 ci115:=evC 15 tn_mixed tn_ok phi_nil Tryz.func115 an115 (fun x=>spec_l25Seed.raw x) (by kernel_rfl) (fun x=>by kernel_rfl) fun x r hb h=>spec_l25Seed.ok hb h
def an116:An:=⟨[],[],[],[(1,⟨[.slot 19 (.v .bool)],[(7,18)],[]⟩)],[]⟩
noncomputable def ci116:CInfo:=mkCI (plains 3) [.v .int, .sl .byte, .v .Addr] [.v .Client] (fun x=>clientNewO x.1 x.2.1 x.2.2) [(true,41)] [1,5,8,9,11,12,15,16,18,20,23,25,28,31] false
theorem c116:Contract Tryz.prog 116 ci116:=evC 27 (l:=[(72,ci72),(138,ci138),(164,ci164)]) tn_mixed tn_ok (phi_cons c72 (phi_cons c138 (phi_cons c164 phi_nil))) Tryz.func116 an116 (fun x=>spec_ClientNew.raw x.1 x.2.1 x.2.2) (by kernel_rfl) (fun x=>by kernel_rfl) fun x r hb h=>spec_ClientNew.ok hb h
noncomputable def ci86:CInfo:=mkCI (plains 1) [.sl .byte] [.v .Note] (fun x=>noteRolledO x) [(true,12)] [3,4,7,8] false
theorem c86:Contract Tryz.prog 86 ci86:=evC 7 tn_mixed tn_ok phi_nil Tryz.func86 an0 (fun x=>spec_l22Rolled.raw x) (by kernel_rfl) (fun x=>by kernel_rfl) fun x r hb h=>spec_l22Rolled.ok hb h
noncomputable def ci76:CInfo:=mkCI (plains 4) [.sl .byte, .sl .byte, .sl .byte, .v .int] [.v .World] (fun x=>worldNewO x.1 x.2.1 x.2.2.1 x.2.2.2) [(true,14)] [1,2,3,4,7,8,9,11,12,13] false
theorem c76:Contract Tryz.prog 76 ci76:=evC 46 (l:=[(55,ci55),(86,ci86),(113,ci113),(114,ci114),(115,ci115),(116,ci116),(117,ci117)]) tn_mixed tn_ok (phi_cons c55 (phi_cons c86 (phi_cons c113 (phi_cons c114 (phi_cons c115 (phi_cons c116 (phi_cons c117 phi_nil))))))) Tryz.func76 an0 (fun x=>spec_WorldNew.raw x.1 x.2.1 x.2.2.1 x.2.2.2) (by kernel_rfl) (fun x=>by kernel_rfl) fun x r hb h=>spec_WorldNew.ok hb h
noncomputable def ci57:CInfo:=mkCI [.ptr []] [.cells .Cur] [.v .World, .cells .Cur] (fun x=>spec_l26New.raw x) [(true,14)] [1,2,3,4,7,8,9,11,12,13] false
theorem c57:Contract Tryz.prog 57 ci57:=evC 13 (l:=[(31,ci31),(49,ci49),(76,ci76)]) tn_mixed tn_ok (phi_cons c31 (phi_cons c49 (phi_cons c76 phi_nil))) Tryz.func57 an0 (fun x=>spec_l26New.raw x) (by kernel_rfl) (fun x=>by kernel_rfl) fun x r hb h=>h
noncomputable def ci190:CInfo:=mkCI (plains 1) [.v .Win] [.v .Win] (fun x=>(fun (a0:G.Win)=>cpy a0) x) [(true,2)] [1] false
theorem c190:Contract Tryz.prog 190 ci190:=evC 10 tn_mixed tn_ok phi_nil Tryz.func190 an0 (fun x=>spec_l8Copy.raw x) (by kernel_rfl) (fun x=>by kernel_rfl) fun x r hb h=>spec_l8Copy.ok hb h
noncomputable def ci166:CInfo:=mkCI (plains 1) [.v .Ep] [.v .Ep] (fun x=>(fun (a0:G.Ep)=>cpy a0) x) [(true,5)] [1,4] false
theorem c166:Contract Tryz.prog 166 ci166:=evC 15 (l:=[(190,ci190)]) tn_mixed tn_ok (phi_cons c190 phi_nil) Tryz.func166 an0 (fun x=>spec_l9Copy.raw x) (by kernel_rfl) (fun x=>by kernel_rfl) fun x r hb h=>spec_l9Copy.ok hb h
noncomputable def ci167:CInfo:=mkCI (plains 2) [.v .Ep, .v .bool] [.v .Ep] (fun x=>epCopyO x.1 x.2) [(true,5)] [1,4] false
theorem c167:Contract Tryz.prog 167 ci167:=evC 27 (l:=[(166,ci166)]) tn_mixed tn_ok (phi_cons c166 phi_nil) Tryz.func167 an0 (fun x=>spec_l14Ep.raw x.1 x.2) (by kernel_rfl) (fun x=>by kernel_rfl) fun x r hb h=>spec_l14Ep.ok hb h
noncomputable def ci120:CInfo:=mkCI (plains 1) [.v .Chan] [.v .Chan] (fun x=>(fun (a0:G.Chan)=>cpy a0) x) [(true,15)] [1,3,6,8,11,14] false
theorem c120:Contract Tryz.prog 120 ci120:=evC 26 (l:=[(166,ci166),(167,ci167)]) tn_mixed tn_ok (phi_cons c166 (phi_cons c167 phi_nil)) Tryz.func120 an0 (fun x=>spec_l14Copy.raw x) (by kernel_rfl) (fun x=>by kernel_rfl) fun x r hb h=>spec_l14Copy.ok hb h
noncomputable def ci222:CInfo:=mkCI (plains 1) [.v .Cand] [.v .Cand] (fun x=>candCopyO x) [(true,4)] [2] false
theorem c222:Contract Tryz.prog 222 ci222:=evC 12 tn_mixed tn_ok phi_nil Tryz.func222 an0 (fun x=>spec_l16Cand.raw x) (by kernel_rfl) (fun x=>by kernel_rfl) fun x r hb h=>spec_l16Cand.ok hb h
def an193:An:=⟨[],[(0,⟨[.box 3 .Paths [2]],[(4,4),(8,25)],[]⟩)],[(3,⟨[.slot 4 (.v .int), .box 3 .Paths [2]],[(8,25)],[]⟩)],[],[]⟩
noncomputable def ci193:CInfo:=mkCI (plains 1) [.v .Paths] [.v .Paths] (fun x=>(fun (a0:G.Paths)=>cpy a0) x) [(true,3)] [2] false
theorem c193:Contract Tryz.prog 193 ci193:=evC 27 (l:=[(222,ci222)]) tn_mixed tn_ok (phi_cons c222 phi_nil) Tryz.func193 an193 (fun x=>spec_l16Copy.raw x) (by kernel_rfl) (fun x=>by kernel_rfl) fun x r hb h=>spec_l16Copy.ok hb h
noncomputable def ci165:CInfo:=mkCI (plains 1) [.v .Sess] [.v .Sess] (fun x=>(fun (a0:G.Sess)=>cpy a0) x) [(true,24)] [1,2,4,6,9,11,14,17,20] false
theorem c165:Contract Tryz.prog 165 ci165:=evC 24 (l:=[(120,ci120),(193,ci193)]) tn_mixed tn_ok (phi_cons c120 (phi_cons c193 phi_nil)) Tryz.func165 an0 (fun x=>spec_l20Copy.raw x) (by kernel_rfl) (fun x=>by kernel_rfl) fun x r hb h=>spec_l20Copy.ok hb h
def an118:An:=⟨[],[(0,⟨[.box 3 .Tab [1]],[(4,4),(8,25)],[]⟩)],[(3,⟨[.slot 4 (.v .int), .box 3 .Tab [1]],[(8,25)],[]⟩)],[],[]⟩
noncomputable def ci118:CInfo:=mkCI (plains 1) [.v .Tab] [.v .Tab] (fun x=>(fun (a0:G.Tab)=>cpy a0) x) [(true,2)] [1] false
theorem c118:Contract Tryz.prog 118 ci118:=evC 27 (l:=[(165,ci165)]) tn_mixed tn_ok (phi_cons c165 phi_nil) Tryz.func118 an118 (fun x=>spec_l21Copy.raw x) (by kernel_rfl) (fun x=>by kernel_rfl) fun x r hb h=>spec_l21Copy.ok hb h
def an77:An:=⟨[],[(0,⟨[.box 3 .Server [0,1,2,5,6]],[(4,4),(22,40)],[]⟩)],[(3,⟨[.slot 4 (.v .int), .box 3 .Server [0,1,2,5,6]],[(22,40)],[]⟩)],[],[]⟩
noncomputable def ci77:CInfo:=mkCI (plains 1) [.v .Server] [.v .Server] (fun x=>(fun (a0:G.Server)=>cpy a0) x) [(true,7)] [0,1,2,5,6] false
theorem c77:Contract Tryz.prog 77 ci77:=evC 42 (l:=[(78,ci78),(118,ci118)]) tn_mixed tn_ok (phi_cons c78 (phi_cons c118 phi_nil)) Tryz.func77 an77 (fun x=>spec_l22Copy.raw x) (by kernel_rfl) (fun x=>by kernel_rfl) fun x r hb h=>spec_l22Copy.ok hb h
def an79:An:=⟨[],[(0,⟨[.own 3 .Wire],[(4,4),(6,32)],[]⟩)],[(3,⟨[.own 3 .Wire, .slot 4 (.v .int)],[(6,32)],[]⟩)],[],[]⟩
noncomputable def ci79:CInfo:=mkCI (plains 1) [.sl .Wire] [.sl .Wire] (fun x=>(fun (a0:List G.Wire)=>cpy a0) x) [(false,1)] [0] false
theorem c79:Contract Tryz.prog 79 ci79:=evC 34 tn_mixed tn_ok phi_nil Tryz.func79 an79 (fun x=>spec_l23Copy.raw x) (by kernel_rfl) (fun x=>by kernel_rfl) fun x r hb h=>spec_l23Copy.ok hb h
noncomputable def ci51:CInfo:=mkCI (plains 1) [.v .Note] [.v .Note] (fun x=>(fun (a0:G.Note)=>cpy a0) x) [(true,12)] [3,4,7,8] false
theorem c51:Contract Tryz.prog 51 ci51:=evC 24 tn_mixed tn_ok phi_nil Tryz.func51 an0 (fun x=>spec_l18Copy.raw x) (by kernel_rfl) (fun x=>by kernel_rfl) fun x r hb h=>spec_l18Copy.ok hb h
def an34:An:=⟨[],[(0,⟨[.own 3 .Note],[(4,4),(6,19)],[]⟩)],[(3,⟨[.own 3 .Note, .slot 4 (.v .int)],[(6,19)],[]⟩)],[],[]⟩
noncomputable def ci34:CInfo:=mkCI (plains 1) [.sl .Note] [.sl .Note] (fun x=>(fun (a0:List G.Note)=>cpy a0) x) [(false,1)] [0] false
theorem c34:Contract Tryz.prog 34 ci34:=evC 21 (l:=[(51,ci51)]) tn_mixed tn_ok (phi_cons c51 phi_nil) Tryz.func34 an34 (fun x=>spec_l18All.raw x) (by kernel_rfl) (fun x=>by kernel_rfl) fun x r hb h=>spec_l18All.ok hb h
noncomputable def ci119:CInfo:=mkCI (plains 1) [.v .Frame] [.v .Frame] (fun x=>(fun (a0:G.Frame)=>cpy a0) x) [(true,11)] [2,3,5,6,9,10] false
theorem c119:Contract Tryz.prog 119 ci119:=evC 34 tn_mixed tn_ok phi_nil Tryz.func119 an0 (fun x=>spec_l7Copy.raw x) (by kernel_rfl) (fun x=>by kernel_rfl) fun x r hb h=>spec_l7Copy.ok hb h
noncomputable def ci80:CInfo:=mkCI (plains 1) [.v .Client] [.v .Client] (fun x=>(fun (a0:G.Client)=>cpy a0) x) [(true,41)] [1,5,8,9,11,12,15,16,18,20,23,25,28,31] false
theorem c80:Contract Tryz.prog 80 ci80:=evC 24 (l:=[(119,ci119),(120,ci120)]) tn_mixed tn_ok (phi_cons c119 (phi_cons c120 phi_nil)) Tryz.func80 an0 (fun x=>spec_l19Copy.raw x) (by kernel_rfl) (fun x=>by kernel_rfl) fun x r hb h=>spec_l19Copy.ok hb h
def an58:An:=⟨[],[(0,⟨[.box 3 .World [1,2,3,4,7,8,9,11,12,13]],[(4,4),(21,38)],[]⟩),(2,⟨[.box 3 .World [1,2,3,4,7,8,9,11,12,13]],[(5,5),(39,57)],[]⟩)],[(3,⟨[.slot 4 (.v .int), .box 3 .World [1,2,3,4,7,8,9,11,12,13]],[(21,38)],[]⟩),(7,⟨[.slot 5 (.v .int), .box 3 .World [1,2,3,4,7,8,9,11,12,13]],[(39,57)],[]⟩)],[],[]⟩
noncomputable def ci58:CInfo:=mkCI (plains 1) [.v .World] [.v .World] (fun x=>(fun (a0:G.World)=>cpy a0) x) [(true,14)] [1,2,3,4,7,8,9,11,12,13] false
theorem c58:Contract Tryz.prog 58 ci58:=evC 59 (l:=[(34,ci34),(77,ci77),(78,ci78),(79,ci79),(80,ci80)]) tn_mixed tn_ok (phi_cons c34 (phi_cons c77 (phi_cons c78 (phi_cons c79 (phi_cons c80 phi_nil))))) Tryz.func58 an58 (fun x=>spec_l25Copy.raw x) (by kernel_rfl) (fun x=>by kernel_rfl) fun x r hb h=>spec_l25Copy.ok hb h
noncomputable def ci35:CInfo:=mkCI [.ptr [], .plain] [.cells .Cur, .sl .int] [.v .int, .cells .Cur] (fun x=>spec_l1Int.raw x.1 x.2) [(false,1)] [] false
theorem c35:Contract Tryz.prog 35 ci35:=evC 12 (l:=[(31,ci31)]) tn_mixed tn_ok (phi_cons c31 phi_nil) Tryz.func35 an0 (fun x=>spec_l1Int.raw x.1 x.2) (by kernel_rfl) (fun x=>by kernel_rfl) fun x r hb h=>h
def an121:An:=⟨[(655364,⟨[.box 0 .Cur [], .box 3 .Op [3]],[(11,16)],[]⟩)],[],[],[],[]⟩
noncomputable def ci121:CInfo:=mkCI [.ptr []] [.cells .Cur] [.v .Op, .cells .Cur] (fun x=>spec_l24Op.raw x) [(true,4)] [3] false
theorem c121:Contract Tryz.prog 121 ci121:=evC 25 (l:=[(31,ci31),(35,ci35),(49,ci49)]) tn_mixed tn_ok (phi_cons c31 (phi_cons c35 (phi_cons c49 phi_nil))) Tryz.func121 an121 (fun x=>spec_l24Op.raw x) (by kernel_rfl) (fun x=>by kernel_rfl) fun x r hb h=>h
noncomputable def ci122:CInfo:=mkCI (plains 1) [.v .int] [.v .int] (fun x=>spec_l24Need.raw x) [(false,1)] [] false
theorem c122:Contract Tryz.prog 122 ci122:=evC 9 tn_mixed tn_ok phi_nil Tryz.func122 an0 (fun x=>spec_l24Need.raw x) (by kernel_rfl) (fun x=>by kernel_rfl) fun x r hb h=>h
def an81:An:=⟨[],[(0,⟨[.own 5 .Op, .slot 6 (.v .int), .box 0 .Cur []],[(7,9),(15,43)],[]⟩),(2,⟨[.box 0 .Cur [], .box 8 .Op [3]],[(9,9),(21,33)],[]⟩),(4,⟨[.own 5 .Op],[(6,6),(44,51)],[]⟩)],[(4,⟨[.own 5 .Op, .slot 6 (.v .int), .slot 7 (.v .int), .box 0 .Cur []],[(8,9),(15,43)],[]⟩),(8,⟨[.slot 9 (.v .int), .box 0 .Cur [], .box 8 .Op [3]],[(21,33)],[]⟩),(13,⟨[.own 5 .Op, .slot 6 (.v .int)],[(44,51)],[]⟩)],[(8,⟨[.slot 29 (.v .bool)],[(21,28)],[]⟩)],[]⟩
noncomputable def ci81:CInfo:=mkCI [.ptr [], .plain] [.cells .Cur, .v .int] [.sl .Op, .cells .Cur] (fun x=>spec_l24Recipe.raw x.1 x.2) [(false,1)] [0] false
theorem c81:Contract Tryz.prog 81 ci81:=evC 53 (l:=[(31,ci31),(121,ci121),(122,ci122)]) tn_mixed tn_ok (phi_cons c31 (phi_cons c121 (phi_cons c122 phi_nil))) Tryz.func81 an81 (fun x=>spec_l24Recipe.raw x.1 x.2) (by kernel_rfl) (fun x=>by kernel_rfl) fun x r hb h=>h
noncomputable def ci82:CInfo:=mkCI [.ptr []] [.cells .Cur] [.v .int, .sl .byte, .cells .Cur] (fun x=>spec_l9Kind.raw x) [(false,1),(false,1)] [1] false
theorem c82:Contract Tryz.prog 82 ci82:=evC 25 (l:=[(31,ci31),(35,ci35),(49,ci49)]) tn_mixed tn_ok (phi_cons c31 (phi_cons c35 (phi_cons c49 phi_nil))) Tryz.func82 an0 (fun x=>spec_l9Kind.raw x) (by kernel_rfl) (fun x=>by kernel_rfl) fun x r hb h=>h
def an168:An:=⟨[],[],[],[(1,⟨[.slot 26 (.v .bool)],[(9,25)],[]⟩)],[]⟩
noncomputable def ci168:CInfo:=mkCI (plains 4) [.v .int, .sl .byte, .v .int, .v .int] [.sl .byte] (fun x=>spec_HeadOf.raw x.1 x.2.1 x.2.2.1 x.2.2.2) [(false,1)] [0] false
theorem c168:Contract Tryz.prog 168 ci168:=evC 37 (l:=[(72,ci72),(124,ci124)]) tn_mixed tn_ok (phi_cons c72 (phi_cons c124 phi_nil)) Tryz.func168 an168 (fun x=>spec_HeadOf.raw x.1 x.2.1 x.2.2.1 x.2.2.2) (by kernel_rfl) (fun x=>by kernel_rfl) fun x r hb h=>h
noncomputable def ci169:CInfo:=mkCI (plains 1) [.v .int] [.v .bool] (fun x=>some (isSealed x)) [(false,1)] [] false
theorem c169:Contract Tryz.prog 169 ci169:=evC 5 (l:=[(72,ci72)]) tn_mixed tn_ok (phi_cons c72 phi_nil) Tryz.func169 an0 (fun x=>spec_Sealed.raw x) (by kernel_rfl) (fun x=>by kernel_rfl) fun x r hb h=>(spec_Sealed.ok hb).trans h
def an170:An:=⟨[],[],[],[(3,⟨[.slot 14 (.v .bool)],[(9,13)],[]⟩)],[]⟩
noncomputable def ci170:CInfo:=mkCI (plains 2) [.v .int, .v .int] [.v .bool] (fun x=>some (bodyOk x.1 x.2)) [(false,1)] [] false
theorem c170:Contract Tryz.prog 170 ci170:=evC 19 tn_mixed tn_ok phi_nil Tryz.func170 an170 (fun x=>spec_l7Body.raw x.1 x.2) (by kernel_rfl) (fun x=>by kernel_rfl) fun x r hb h=>(spec_l7Body.ok hb).trans h
def an220:An:=⟨[],[],[],[(1,⟨[.slot 14 (.v .bool)],[(7,13)],[]⟩)],[]⟩
noncomputable def ci220:CInfo:=mkCI (plains 3) [.sl .byte, .sl .byte, .v .int] [.sl .byte] (fun x=>spec_BlockOf.raw x.1 x.2.1 x.2.2) [(false,1)] [0] false
theorem c220:Contract Tryz.prog 220 ci220:=evC 23 (l:=[(72,ci72),(124,ci124),(144,ci144)]) tn_mixed tn_ok (phi_cons c72 (phi_cons c124 (phi_cons c144 phi_nil))) Tryz.func220 an220 (fun x=>spec_BlockOf.raw x.1 x.2.1 x.2.2) (by kernel_rfl) (fun x=>by kernel_rfl) fun x r hb h=>h
def an189:An:=⟨[],[(0,⟨[.own 7 .byte],[(8,8),(24,35)],[]⟩)],[(5,⟨[.own 7 .byte, .slot 8 (.v .int)],[(24,35)],[]⟩)],[(1,⟨[.slot 21 (.v .bool)],[(9,20)],[]⟩)],[]⟩
noncomputable def ci189:CInfo:=mkCI (plains 3) [.sl .byte, .sl .byte, .v .int] [.sl .byte] (fun x=>spec_Stream.raw x.1 x.2.1 x.2.2) [(false,1)] [0] false
theorem c189:Contract Tryz.prog 189 ci189:=evC 41 (l:=[(72,ci72),(220,ci220)]) tn_mixed tn_ok (phi_cons c72 (phi_cons c220 phi_nil)) Tryz.func189 an189 (fun x=>spec_Stream.raw x.1 x.2.1 x.2.2) (by kernel_rfl) (fun x=>by kernel_rfl) fun x r hb h=>h
def an146:An:=⟨[],[(0,⟨[.own 7 .byte],[(9,9),(30,47)],[]⟩)],[(6,⟨[.own 7 .byte, .slot 9 (.v .int)],[(30,47)],[]⟩)],[(2,⟨[.slot 23 (.v .bool)],[(11,22)],[]⟩)],[]⟩
noncomputable def ci146:CInfo:=mkCI (plains 3) [.sl .byte, .sl .byte, .sl .byte] [.sl .byte] (fun x=>spec_Mix.raw x.1 x.2.1 x.2.2) [(false,1)] [0] false
theorem c146:Contract Tryz.prog 146 ci146:=evC 49 (l:=[(189,ci189)]) tn_mixed tn_ok (phi_cons c189 phi_nil) Tryz.func146 an146 (fun x=>spec_Mix.raw x.1 x.2.1 x.2.2) (by kernel_rfl) (fun x=>by kernel_rfl) fun x r hb h=>h
def an171:An:=⟨[],[],[],[(2,⟨[.slot 2 (.v .bool)],[(6,61)],[]⟩),(3,⟨[.slot 87 (.v .bool)],[(62,86)],[]⟩),(7,⟨[.slot 2 (.v .bool)],[(92,117)],[]⟩),(9,⟨[.slot 2 (.v .bool)],[(120,145)],[]⟩),(11,⟨[.slot 2 (.v .bool)],[(148,173)],[]⟩)],[]⟩
noncomputable def ci171:CInfo:=mkCI (plains 1) [.v .Frame] [.v .bool] (fun x=>some (frameOk x)) [(false,1)] [] false
theorem c171:Contract Tryz.prog 171 ci171:=evC 174 (l:=[(72,ci72),(169,ci169),(170,ci170)]) tn_mixed tn_ok (phi_cons c72 (phi_cons c169 (phi_cons c170 phi_nil))) Tryz.func171 an171 (fun x=>spec_FrameOk.raw x) (by kernel_rfl) (fun x=>by kernel_rfl) fun x r hb h=>(spec_FrameOk.ok hb).trans h
def an125:An:=⟨[],[],[],[(1,⟨[.slot 19 (.v .bool)],[(6,18)],[]⟩)],[]⟩
noncomputable def ci125:CInfo:=mkCI (plains 2) [.v .int, .v .Frame] [.sl .byte] (fun x=>spec_TagInput.raw x.1 x.2) [(false,1)] [0] false
theorem c125:Contract Tryz.prog 125 ci125:=evC 40 (l:=[(72,ci72),(168,ci168),(169,ci169),(171,ci171)]) tn_mixed tn_ok (phi_cons c72 (phi_cons c168 (phi_cons c169 (phi_cons c171 phi_nil)))) Tryz.func125 an125 (fun x=>spec_TagInput.raw x.1 x.2) (by kernel_rfl) (fun x=>by kernel_rfl) fun x r hb h=>h
noncomputable def ci145:CInfo:=mkCI (plains 2) [.sl .byte, .sl .byte] [.sl .byte] (fun x=>spec_Tag.raw x.1 x.2) [(false,1)] [0] false
theorem c145:Contract Tryz.prog 145 ci145:=evC 17 (l:=[(144,ci144)]) tn_mixed tn_ok (phi_cons c144 phi_nil) Tryz.func145 an0 (fun x=>spec_Tag.raw x.1 x.2) (by kernel_rfl) (fun x=>by kernel_rfl) fun x r hb h=>h
def an123:An:=⟨[],[(0,⟨[.box 17 .Frame [2,3,5,6,9,10]],[(18,18),(56,64)],[]⟩)],[(6,⟨[.slot 18 (.v .int), .box 17 .Frame [2,3,5,6,9,10]],[(56,64)],[]⟩)],[(2,⟨[.slot 43 (.v .bool)],[(24,42)],[]⟩)],[]⟩
noncomputable def ci123:CInfo:=mkCI (plains 7) [.sl .byte, .v .int, .sl .byte, .v .int, .v .int, .v .int, .sl .byte] [.v .Frame, .v .bool] (fun x=>spec_Seal.raw x.1 x.2.1 x.2.2.1 x.2.2.2.1 x.2.2.2.2.1 x.2.2.2.2.2.1 x.2.2.2.2.2.2) [(true,11),(false,1)] [2,3,5,6,9,10] false
theorem c123:Contract Tryz.prog 123 ci123:=evC 72 (l:=[(125,ci125),(145,ci145),(146,ci146),(168,ci168),(169,ci169),(170,ci170)]) tn_mixed tn_ok (phi_cons c125 (phi_cons c145 (phi_cons c146 (phi_cons c168 (phi_cons c169 (phi_cons c170 phi_nil)))))) Tryz.func123 an123 (fun x=>spec_Seal.raw x.1 x.2.1 x.2.2.1 x.2.2.2.1 x.2.2.2.2.1 x.2.2.2.2.2.1 x.2.2.2.2.2.2) (by kernel_rfl) (fun x=>by kernel_rfl) fun x r hb h=>h
def an83:An:=⟨[],[],[],[(2,⟨[.slot 37 (.v .bool)],[(31,36)],[]⟩)],[]⟩
noncomputable def ci83:CInfo:=mkCI (plains 8) [.sl .byte, .v .int, .v .int, .sl .byte, .v .int, .v .int, .v .int, .sl .byte] [.sl .Op] (fun x=>spec_Forge.raw x.1 x.2.1 x.2.2.1 x.2.2.2.1 x.2.2.2.2.1 x.2.2.2.2.2.1 x.2.2.2.2.2.2.1 x.2.2.2.2.2.2.2) [(false,1)] [0] false
theorem c83:Contract Tryz.prog 83 ci83:=evC 65 (l:=[(72,ci72),(123,ci123),(124,ci124),(125,ci125)]) tn_mixed tn_ok (phi_cons c72 (phi_cons c123 (phi_cons c124 (phi_cons c125 phi_nil)))) Tryz.func83 an83 (fun x=>spec_Forge.raw x.1 x.2.1 x.2.2.1 x.2.2.2.1 x.2.2.2.2.1 x.2.2.2.2.2.1 x.2.2.2.2.2.2.1 x.2.2.2.2.2.2.2) (by kernel_rfl) (fun x=>by kernel_rfl) fun x r hb h=>h
def an59:An:=⟨[(5111823,⟨[.box 0 .Cur [], .box 9 .Event [4,5]],[(79,86)],[]⟩),(6225941,⟨[.slot 95 (.v .bool)],[(97,97)],[]⟩),(6225942,⟨[.box 9 .Event [4], .box 0 .Cur []],[(10,15),(98,204)],[]⟩),(6881305,⟨[.box 0 .Cur [], .box 9 .Event [4]],[(10,14),(106,155)],[]⟩),(8060956,⟨[.slot 11 (.sl .byte)],[(124,129)],[]⟩),(10027040,⟨[.box 9 .Event [4]],[(154,155)],[14]⟩),(10223650,⟨[.box 9 .Event [4,5], .box 0 .Cur []],[(15,15),(158,204)],[]⟩),(10420260,⟨[.box 9 .Event [4,5], .box 0 .Cur []],[(15,15),(161,204)],[]⟩),(10616870,⟨[.box 9 .Event [4,5], .box 0 .Cur []],[(15,15),(164,204)],[]⟩),(11010089,⟨[.box 9 .Event [4,5], .box 0 .Cur []],[(15,15),(170,204)],[]⟩),(11206699,⟨[.box 9 .Event [4,5], .box 0 .Cur []],[(15,15),(173,204)],[]⟩),(11599918,⟨[.box 0 .Cur [], .box 9 .Event [4,5]],[(15,15),(179,204)],[]⟩),(11796527,⟨[.box 9 .Event [4,5], .box 0 .Cur []],[(181,184)],[]⟩),(12124210,⟨[.box 9 .Event [4,5], .box 0 .Cur []],[(15,15),(187,204)],[]⟩),(13434934,⟨[.slot 205 (.v .bool)],[(207,208)],[]⟩),(13434935,⟨[.slot 205 (.v .bool)],[(208,208)],[]⟩),(13434936,⟨[.box 9 .Event [4], .box 0 .Cur [], .box 8 .Event [4,5]],[(10,15),(64,204),(209,237)],[]⟩),(14090299,⟨[.slot 215 (.v .bool)],[(217,217)],[]⟩),(14090300,⟨[.box 9 .Event [4], .box 0 .Cur [], .box 8 .Event [4,5]],[(10,15),(64,204),(218,237)],[]⟩),(14876736,⟨[.slot 227 (.v .bool)],[(229,229)],[]⟩),(14876737,⟨[.box 9 .Event [4], .box 0 .Cur [], .box 8 .Event [4,5]],[(10,15),(64,204),(230,237)],[]⟩),(15138883,⟨[.box 9 .Event [4], .box 0 .Cur [], .box 8 .Event [4,5]],[(10,15),(64,204),(233,237)],[]⟩),(15335493,⟨[.slot 234 (.v .bool)],[(236,236)],[]⟩),(15335494,⟨[.box 9 .Event [4], .box 0 .Cur [], .box 8 .Event [4,5]],[(10,15),(64,204),(237,237)],[]⟩)],[],[],[(2,⟨[.slot 34 (.v .bool), .box 0 .Cur []],[(23,33)],[]⟩),(7,⟨[.slot 59 (.v .bool), .box 0 .Cur []],[(47,58)],[]⟩),(13,⟨[.slot 78 (.v .bool), .box 0 .Cur []],[(71,77)],[]⟩),(26,⟨[.slot 123 (.v .bool), .box 0 .Cur []],[(117,122)],[]⟩)],[]⟩
noncomputable def ci59:CInfo:=mkCI [.ptr [], .plain, .ptr [], .plain] [.cells .Cur, .v .World, .cells .int, .v .bool] [.v .Event, .cells .Cur, .cells .int] (fun x=>spec_l26Pick.raw x.1 x.2.1 x.2.2.1 x.2.2.2) [(true,6)] [4] false
theorem c59:Contract Tryz.prog 59 ci59:=evC 239 (l:=[(31,ci31),(32,ci32),(35,ci35),(49,ci49),(81,ci81),(82,ci82),(83,ci83)]) tn_mixed tn_ok (phi_cons c31 (phi_cons c32 (phi_cons c35 (phi_cons c49 (phi_cons c81 (phi_cons c82 (phi_cons c83 phi_nil))))))) Tryz.func59 an59 (fun x=>spec_l26Pick.raw x.1 x.2.1 x.2.2.1 x.2.2.2) (by kernel_rfl) (fun x=>by kernel_rfl) fun x r hb h=>h
def an60:An:=⟨[],[],[],[(1,⟨[.slot 2 (.v .bool)],[(3,32)],[]⟩)],[]⟩
noncomputable def ci60:CInfo:=mkCI (plains 1) [.v .Event] [.v .bool] (fun x=>some (eventOk x)) [(false,1)] [] false
theorem c60:Contract Tryz.prog 60 ci60:=evC 33 (l:=[(72,ci72)]) tn_mixed tn_ok (phi_cons c72 phi_nil) Tryz.func60 an60 (fun x=>spec_EventOk.raw x) (by kernel_rfl) (fun x=>by kernel_rfl) fun x r hb h=>(spec_EventOk.ok hb).trans h
def an172:An:=⟨[],[],[],[(3,⟨[.slot 2 (.v .bool)],[(9,36)],[]⟩)],[]⟩
noncomputable def ci172:CInfo:=mkCI (plains 1) [.v .Timer] [.v .bool] (fun x=>some (timerOk x)) [(false,1)] [] false
theorem c172:Contract Tryz.prog 172 ci172:=evC 37 (l:=[(72,ci72)]) tn_mixed tn_ok (phi_cons c72 phi_nil) Tryz.func172 an172 (fun x=>spec_TimerOk.raw x) (by kernel_rfl) (fun x=>by kernel_rfl) fun x r hb h=>(spec_TimerOk.ok hb).trans h
def an173:An:=⟨[],[],[],[(1,⟨[.slot 2 (.v .bool)],[(3,61)],[]⟩)],[]⟩
noncomputable def ci173:CInfo:=mkCI (plains 1) [.v .Frame] [.v .bool] (fun x=>some (noFrame x)) [(false,1)] [] false
theorem c173:Contract Tryz.prog 173 ci173:=evC 62 tn_mixed tn_ok phi_nil Tryz.func173 an173 (fun x=>spec_l19NoFrame.raw x) (by kernel_rfl) (fun x=>by kernel_rfl) fun x r hb h=>(spec_l19NoFrame.ok hb).trans h
def an127:An:=⟨[],[],[],[(1,⟨[.slot 36 (.v .bool)],[(3,35)],[]⟩),(4,⟨[.slot 2 (.v .bool)],[(40,70)],[]⟩),(8,⟨[.slot 2 (.v .bool)],[(78,108)],[]⟩),(9,⟨[.slot 122 (.v .bool)],[(109,121)],[]⟩),(12,⟨[.slot 2 (.v .bool)],[(126,133)],[]⟩),(13,⟨[.slot 2 (.v .bool)],[(134,203)],[]⟩)],[]⟩
noncomputable def ci127:CInfo:=mkCI (plains 1) [.v .Client] [.v .bool] (fun x=>clientOkO x) [(false,1)] [] false
theorem c127:Contract Tryz.prog 127 ci127:=evC 204 (l:=[(38,ci38),(52,ci52),(72,ci72),(138,ci138),(164,ci164),(171,ci171),(172,ci172),(173,ci173),(174,ci174)]) tn_mixed tn_ok (phi_cons c38 (phi_cons c52 (phi_cons c72 (phi_cons c138 (phi_cons c164 (phi_cons c171 (phi_cons c172 (phi_cons c173 (phi_cons c174 phi_nil))))))))) Tryz.func127 an127 (fun x=>spec_ClientOk.raw x) (by kernel_rfl) (fun x=>by kernel_rfl) fun x r hb h=>spec_ClientOk.ok hb h
noncomputable def ci128:CInfo:=mkCI (plains 1) [.v .int] [.v .Timer] (fun x=>spec_TimerSet.raw x) [(true,4)] [] false
theorem c128:Contract Tryz.prog 128 ci128:=evC 10 (l:=[(72,ci72)]) tn_mixed tn_ok (phi_cons c72 phi_nil) Tryz.func128 an0 (fun x=>spec_TimerSet.raw x) (by kernel_rfl) (fun x=>by kernel_rfl) fun x r hb h=>h
noncomputable def ci129:CInfo:=mkCI (plains 1) [.v .Client] [.v .Frame] (fun x=>spec_l19Init.raw x) [(true,11)] [2,3,5,6,9,10] false
theorem c129:Contract Tryz.prog 129 ci129:=evC 10 tn_mixed tn_ok phi_nil Tryz.func129 an0 (fun x=>spec_l19Init.raw x) (by kernel_rfl) (fun x=>by kernel_rfl) fun x r hb h=>h
def an85:An:=⟨[],[],[],[(2,⟨[.slot 26 (.v .bool)],[(14,25)],[]⟩)],[]⟩
noncomputable def ci85:CInfo:=mkCI (plains 3) [.v .Client, .v .int, .sl .byte] [.v .Client, .sl .Frame, .sl .Note, .v .int] (fun x=>spec_Dial.raw x.1 x.2.1 x.2.2) [(true,41),(false,1),(false,1),(false,1)] [1,5,8,9,11,12,15,16,18,20,23,25,28,31,41,42] false
theorem c85:Contract Tryz.prog 85 ci85:=evC 57 (l:=[(72,ci72),(80,ci80),(127,ci127),(128,ci128),(129,ci129)]) tn_mixed tn_ok (phi_cons c72 (phi_cons c80 (phi_cons c127 (phi_cons c128 (phi_cons c129 phi_nil))))) Tryz.func85 an85 (fun x=>spec_Dial.raw x.1 x.2.1 x.2.2) (by kernel_rfl) (fun x=>by kernel_rfl) fun x r hb h=>h
noncomputable def ci135:CInfo:=mkCI (plains 0) [] [.v .Addr] (fun _=>some (hub)) [(true,2)] [] false
theorem c135:Contract Tryz.prog 135 ci135:=evC 2 (l:=[(55,ci55)]) tn_mixed tn_ok (phi_cons c55 phi_nil) Tryz.func135 an0 (fun _=>spec_Hub.raw) (by kernel_rfl) (fun x=>by kernel_rfl) fun x r hb h=>(spec_Hub.ok hb).trans h
def an178:An:=⟨[(2097161,⟨[.own 3 .byte],[(4,4),(15,31),(34,89)],[]⟩),(3276815,⟨[.own 3 .byte],[(15,31),(52,89)],[]⟩),(4325394,⟨[.own 3 .byte],[(15,31),(68,89)],[]⟩)],[(1,⟨[.own 3 .byte],[(4,4),(43,49)],[]⟩)],[(10,⟨[.own 3 .byte, .slot 4 (.v .int)],[(43,49)],[]⟩)],[],[]⟩
noncomputable def ci178:CInfo:=mkCI (plains 1) [.v .Frame] [.sl .byte] (fun x=>spec_PutFrame.raw x) [(false,1)] [0] false
theorem c178:Contract Tryz.prog 178 ci178:=evC 91 (l:=[(124,ci124),(171,ci171)]) tn_mixed tn_ok (phi_cons c124 (phi_cons c171 phi_nil)) Tryz.func178 an178 (fun x=>spec_PutFrame.raw x) (by kernel_rfl) (fun x=>by kernel_rfl) fun x r hb h=>h
noncomputable def ci134:CInfo:=mkCI (plains 3) [.v .Addr, .v .Addr, .v .Frame] [.v .Wire] (fun x=>spec_WireFrom.raw x.1 x.2.1 x.2.2) [(true,5)] [4] false
theorem c134:Contract Tryz.prog 134 ci134:=evC 12 (l:=[(178,ci178)]) tn_mixed tn_ok (phi_cons c178 phi_nil) Tryz.func134 an0 (fun x=>spec_WireFrom.raw x.1 x.2.1 x.2.2) (by kernel_rfl) (fun x=>by kernel_rfl) fun x r hb h=>h
def an130:An:=⟨[],[(0,⟨[.own 5 .Wire],[(6,6),(8,24)],[]⟩)],[(3,⟨[.own 5 .Wire, .slot 6 (.v .int)],[(8,24)],[]⟩)],[],[]⟩
noncomputable def ci130:CInfo:=mkCI (plains 2) [.v .Client, .sl .Frame] [.sl .Wire] (fun x=>spec_l25Sent.raw x.1 x.2) [(false,1)] [0] false
theorem c130:Contract Tryz.prog 130 ci130:=evC 26 (l:=[(134,ci134),(135,ci135)]) tn_mixed tn_ok (phi_cons c134 (phi_cons c135 phi_nil)) Tryz.func130 an130 (fun x=>spec_l25Sent.raw x.1 x.2) (by kernel_rfl) (fun x=>by kernel_rfl) fun x r hb h=>h
def an90:An:=⟨[(1179653,⟨[.box 0 .World [1,11,12,13]],[(19,31)],[]⟩)],[(0,⟨[.box 0 .World [1,11,12,13]],[(6,31)],[]⟩)],[(1,⟨[.slot 6 (.v .int), .box 0 .World [1,11,12,13]],[(7,31)],[]⟩)],[],[]⟩
noncomputable def ci90:CInfo:=mkCI [.ptr [1,11,12,13], .plain, .plain] [.cells .World, .sl .Wire, .sl .Note] [.cells .World] (fun x=>spec_l26See.raw x.1 x.2.1 x.2.2) [] [1,11,12,13] false
theorem c90:Contract Tryz.prog 90 ci90:=evC 41 tn_mixed tn_ok phi_nil Tryz.func90 an90 (fun x=>spec_l26See.raw x.1 x.2.1 x.2.2) (by kernel_rfl) (fun x=>by kernel_rfl) fun x r hb h=>h
noncomputable def ci87:CInfo:=mkCI [.ptr [1,11,12,13], .plain, .plain, .plain, .plain] [.cells .World, .v .int, .v .Client, .sl .Frame, .sl .Note] [.cells .World] (fun x=>spec_l26Client.raw x.1 x.2.1 x.2.2.1 x.2.2.2.1 x.2.2.2.2) [] [1,11,12,13] false
theorem c87:Contract Tryz.prog 87 ci87:=evC 23 (l:=[(90,ci90),(130,ci130)]) tn_mixed tn_ok (phi_cons c90 (phi_cons c130 phi_nil)) Tryz.func87 an0 (fun x=>spec_l26Client.raw x.1 x.2.1 x.2.2.1 x.2.2.2.1 x.2.2.2.2) (by kernel_rfl) (fun x=>by kernel_rfl) fun x r hb h=>h
def an175:An:=⟨[],[],[],[(2,⟨[.slot 41 (.v .bool)],[(18,40)],[]⟩),(4,⟨[.slot 50 (.v .bool)],[(44,49)],[]⟩)],[]⟩
noncomputable def ci175:CInfo:=mkCI (plains 5) [.v .Ep, .v .int, .sl .byte, .v .int, .sl .byte] [.v .Ep, .v .Frame, .v .int] (fun x=>spec_EpSeal.raw x.1 x.2.1 x.2.2.1 x.2.2.2.1 x.2.2.2.2) [(true,5),(true,11),(false,1)] [1,4,7,8,10,11,14,15] false
theorem c175:Contract Tryz.prog 175 ci175:=evC 78 (l:=[(73,ci73),(123,ci123),(166,ci166),(168,ci168),(169,ci169),(170,ci170)]) tn_mixed tn_ok (phi_cons c73 (phi_cons c123 (phi_cons c166 (phi_cons c168 (phi_cons c169 (phi_cons c170 phi_nil)))))) Tryz.func175 an175 (fun x=>spec_EpSeal.raw x.1 x.2.1 x.2.2.1 x.2.2.2.1 x.2.2.2.2) (by kernel_rfl) (fun x=>by kernel_rfl) fun x r hb h=>h
def an131:An:=⟨[(2228231,⟨[.box 9 .Chan [1,8,11,14]],[(35,36)],[1000010]⟩)],[],[],[],[]⟩
noncomputable def ci131:CInfo:=mkCI (plains 3) [.v .Chan, .v .int, .sl .byte] [.v .Chan, .v .Frame, .v .int] (fun x=>spec_ChanSeal.raw x.1 x.2.1 x.2.2) [(true,15),(true,11),(false,1)] [1,8,11,14,17,18,20,21,24,25] false
theorem c131:Contract Tryz.prog 131 ci131:=evC 40 (l:=[(52,ci52),(120,ci120),(175,ci175)]) tn_mixed tn_ok (phi_cons c52 (phi_cons c120 (phi_cons c175 phi_nil))) Tryz.func131 an131 (fun x=>spec_ChanSeal.raw x.1 x.2.1 x.2.2) (by kernel_rfl) (fun x=>by kernel_rfl) fun x r hb h=>h
noncomputable def ci176:CInfo:=mkCI (plains 2) [.sl .byte, .sl .byte] [.v .Note] (fun x=>spec_Made.raw x.1 x.2) [(true,12)] [3,4,7,8] false
theorem c176:Contract Tryz.prog 176 ci176:=evC 12 tn_mixed tn_ok phi_nil Tryz.func176 an0 (fun x=>spec_Made.raw x.1 x.2) (by kernel_rfl) (fun x=>by kernel_rfl) fun x r hb h=>h
noncomputable def ci132:CInfo:=mkCI (plains 2) [.v .Chan, .v .Frame] [.v .Note] (fun x=>spec_l19Made.raw x.1 x.2) [(true,12)] [3,4,7,8] false
theorem c132:Contract Tryz.prog 132 ci132:=evC 13 (l:=[(125,ci125),(176,ci176)]) tn_mixed tn_ok (phi_cons c125 (phi_cons c176 phi_nil)) Tryz.func132 an0 (fun x=>spec_l19Made.raw x.1 x.2) (by kernel_rfl) (fun x=>by kernel_rfl) fun x r hb h=>h
def an88:An:=⟨[],[],[],[(2,⟨[.slot 29 (.v .bool)],[(17,28)],[]⟩)],[(11,[1000012])]⟩
noncomputable def ci88:CInfo:=mkCI (plains 3) [.v .Client, .v .int, .sl .byte] [.v .Client, .sl .Frame, .sl .Note, .v .int] (fun x=>spec_ClientSend.raw x.1 x.2.1 x.2.2) [(true,41),(false,1),(false,1),(false,1)] [1,5,8,9,11,12,15,16,18,25,28,31,41,42] false
theorem c88:Contract Tryz.prog 88 ci88:=evC 75 (l:=[(72,ci72),(80,ci80),(127,ci127),(131,ci131),(132,ci132)]) tn_mixed tn_ok (phi_cons c72 (phi_cons c80 (phi_cons c127 (phi_cons c131 (phi_cons c132 phi_nil))))) Tryz.func88 an88 (fun x=>spec_ClientSend.raw x.1 x.2.1 x.2.2) (by kernel_rfl) (fun x=>by kernel_rfl) fun x r hb h=>h
def an133:An:=⟨[],[],[],[(2,⟨[.slot 22 (.v .bool)],[(15,21)],[]⟩)],[(11,[1000010])]⟩
noncomputable def ci133:CInfo:=mkCI (plains 2) [.v .Sess, .sl .byte] [.v .Sess, .sl .Out, .sl .Note, .v .int] (fun x=>spec_SessSend.raw x.1 x.2) [(true,24),(false,1),(false,1),(false,1)] [1,2,4,11,14,17,20,24,25] false
theorem c133:Contract Tryz.prog 133 ci133:=evC 71 (l:=[(131,ci131),(132,ci132),(165,ci165),(177,ci177)]) tn_mixed tn_ok (phi_cons c131 (phi_cons c132 (phi_cons c165 (phi_cons c177 phi_nil)))) Tryz.func133 an133 (fun x=>spec_SessSend.raw x.1 x.2) (by kernel_rfl) (fun x=>by kernel_rfl) fun x r hb h=>h
def an89:An:=⟨[(3604489,⟨[.box 12 .Server [0,1,2,5,6]],[(56,61)],[1000013]⟩)],[],[],[(2,⟨[.slot 26 (.v .bool)],[(19,25)],[]⟩)],[]⟩
noncomputable def ci89:CInfo:=mkCI (plains 4) [.v .Server, .v .int, .v .int, .sl .byte] [.v .Server, .sl .Out, .sl .Note, .v .int] (fun x=>spec_ServerSend.raw x.1 x.2.1 x.2.2.1 x.2.2.2) [(true,7),(false,1),(false,1),(false,1)] [0,1,2,5,6,7,8] false
theorem c89:Contract Tryz.prog 89 ci89:=evC 66 (l:=[(72,ci72),(77,ci77),(114,ci114),(133,ci133)]) tn_mixed tn_ok (phi_cons c72 (phi_cons c77 (phi_cons c114 (phi_cons c133 phi_nil)))) Tryz.func89 an89 (fun x=>spec_ServerSend.raw x.1 x.2.1 x.2.2.1 x.2.2.2) (by kernel_rfl) (fun x=>by kernel_rfl) fun x r hb h=>h
def an91:An:=⟨[],[(0,⟨[.own 3 .Wire],[(4,4),(6,26)],[]⟩)],[(3,⟨[.own 3 .Wire, .slot 4 (.v .int)],[(6,26)],[]⟩)],[],[]⟩
noncomputable def ci91:CInfo:=mkCI (plains 1) [.sl .Out] [.sl .Wire] (fun x=>spec_l25Outs.raw x) [(false,1)] [0] false
theorem c91:Contract Tryz.prog 91 ci91:=evC 28 (l:=[(134,ci134),(135,ci135)]) tn_mixed tn_ok (phi_cons c134 (phi_cons c135 phi_nil)) Tryz.func91 an91 (fun x=>spec_l25Outs.raw x) (by kernel_rfl) (fun x=>by kernel_rfl) fun x r hb h=>h
def an195:An:=⟨[],[],[],[(1,⟨[.slot 4 (.v .bool)],[(5,20)],[]⟩)],[]⟩
noncomputable def ci195:CInfo:=mkCI (plains 2) [.v .Timer, .v .int] [.v .bool] (fun x=>spec_TimerFires.raw x.1 x.2) [(false,1)] [] false
theorem c195:Contract Tryz.prog 195 ci195:=evC 21 (l:=[(72,ci72),(172,ci172)]) tn_mixed tn_ok (phi_cons c72 (phi_cons c172 phi_nil)) Tryz.func195 an195 (fun x=>spec_TimerFires.raw x.1 x.2) (by kernel_rfl) (fun x=>by kernel_rfl) fun x r hb h=>h
def an179:An:=⟨[(1310728,⟨[.slot 6 (.v .int)],[],[]⟩)],[],[],[],[]⟩
noncomputable def ci179:CInfo:=mkCI (plains 2) [.v .Timer, .v .int] [.v .Timer, .v .int] (fun x=>spec_TimerNext.raw x.1 x.2) [(true,4),(false,1)] [] false
theorem c179:Contract Tryz.prog 179 ci179:=evC 29 (l:=[(195,ci195)]) tn_mixed tn_ok (phi_cons c195 phi_nil) Tryz.func179 an179 (fun x=>spec_TimerNext.raw x.1 x.2) (by kernel_rfl) (fun x=>by kernel_rfl) fun x r hb h=>h
noncomputable def ci149:CInfo:=mkCI (plains 1) [.v .Client] [.v .Client] (fun x=>spec_l19Idle.raw x) [(true,41)] [1,5,8,9,11,12,15,16,18,20,23,25,28,31] false
theorem c149:Contract Tryz.prog 149 ci149:=evC 10 (l:=[(116,ci116)]) tn_mixed tn_ok (phi_cons c116 phi_nil) Tryz.func149 an0 (fun x=>spec_l19Idle.raw x) (by kernel_rfl) (fun x=>by kernel_rfl) fun x r hb h=>h
def an180:An:=⟨[(1835012,⟨[.box 5 .Chan [1,3,6,8,11,14]],[(29,32)],[]⟩)],[],[],[(2,⟨[.slot 28 (.v .bool)],[(8,27)],[]⟩)],[]⟩
noncomputable def ci180:CInfo:=mkCI (plains 2) [.v .Chan, .v .int] [.v .Chan] (fun x=>spec_ChanTick.raw x.1 x.2) [(true,15)] [1,3,6,8,11,14] false
theorem c180:Contract Tryz.prog 180 ci180:=evC 34 (l:=[(52,ci52),(72,ci72),(120,ci120)]) tn_mixed tn_ok (phi_cons c52 (phi_cons c72 (phi_cons c120 phi_nil))) Tryz.func180 an180 (fun x=>spec_ChanTick.raw x.1 x.2) (by kernel_rfl) (fun x=>by kernel_rfl) fun x r hb h=>h
noncomputable def ci183:CInfo:=mkCI (plains 1) [.v .int] [.sl .byte] (fun x=>spec_RekeyBody.raw x) [(false,1)] [0] false
theorem c183:Contract Tryz.prog 183 ci183:=evC 10 (l:=[(72,ci72),(124,ci124)]) tn_mixed tn_ok (phi_cons c72 (phi_cons c124 phi_nil)) Tryz.func183 an0 (fun x=>spec_RekeyBody.raw x) (by kernel_rfl) (fun x=>by kernel_rfl) fun x r hb h=>h
def an140:An:=⟨[],[],[],[(1,⟨[.slot 13 (.v .bool)],[(5,12)],[]⟩)],[]⟩
noncomputable def ci140:CInfo:=mkCI (plains 1) [.v .Chan] [.v .Chan, .v .Frame, .v .int] (fun x=>spec_AskRekey.raw x) [(true,15),(true,11),(false,1)] [1,8,11,14,17,18,20,21,24,25] false
theorem c140:Contract Tryz.prog 140 ci140:=evC 27 (l:=[(52,ci52),(120,ci120),(131,ci131),(183,ci183)]) tn_mixed tn_ok (phi_cons c52 (phi_cons c120 (phi_cons c131 (phi_cons c183 phi_nil)))) Tryz.func140 an140 (fun x=>spec_AskRekey.raw x) (by kernel_rfl) (fun x=>by kernel_rfl) fun x r hb h=>h
def an136:An:=⟨[(4587533,⟨[.own 8 .Frame],[(71,75)],[]⟩),(5373967,⟨[.own 8 .Frame],[(83,88)],[]⟩),(8585241,⟨[.box 7 .Client [1,5,8,9,11,12,15,16,18,20,23,25,28,31]],[(132,134)],[]⟩),(9371676,⟨[.own 8 .Frame, .own 9 .Note, .box 7 .Client [1,5,8,9,11,12,15,16]],[(144,155)],[1000015,1000014]⟩)],[],[],[(4,⟨[.slot 33 (.v .bool)],[(21,32)],[]⟩),(11,⟨[.slot 70 (.v .bool)],[(64,69)],[]⟩),(13,⟨[.slot 82 (.v .bool)],[(76,81)],[]⟩)],[]⟩
noncomputable def ci136:CInfo:=mkCI (plains 2) [.v .Client, .v .int] [.v .Client, .sl .Frame, .sl .Note] (fun x=>spec_ClientTick.raw x.1 x.2) [(true,41),(false,1),(false,1)] [1,5,8,9,11,12,15,16,41,42] false
theorem c136:Contract Tryz.prog 136 ci136:=evC 159 (l:=[(72,ci72),(80,ci80),(119,ci119),(127,ci127),(128,ci128),(129,ci129),(132,ci132),(140,ci140),(149,ci149),(179,ci179),(180,ci180)]) tn_mixed tn_ok (phi_cons c72 (phi_cons c80 (phi_cons c119 (phi_cons c127 (phi_cons c128 (phi_cons c129 (phi_cons c132 (phi_cons c140 (phi_cons c149 (phi_cons c179 (phi_cons c180 phi_nil))))))))))) Tryz.func136 an136 (fun x=>spec_ClientTick.raw x.1 x.2) (by kernel_rfl) (fun x=>by kernel_rfl) fun x r hb h=>h
noncomputable def ci150:CInfo:=mkCI (plains 1) [.v .Sess] [.v .Sess] (fun x=>spec_Bury.raw x) [(true,24)] [1,2,4,6,9,11,14,17,20] false
theorem c150:Contract Tryz.prog 150 ci150:=evC 21 (l:=[(165,ci165),(177,ci177)]) tn_mixed tn_ok (phi_cons c165 (phi_cons c177 phi_nil)) Tryz.func150 an0 (fun x=>spec_Bury.raw x) (by kernel_rfl) (fun x=>by kernel_rfl) fun x r hb h=>h
def an223:An:=⟨[(2228233,⟨[.box 5 .Paths [2]],[(35,45)],[]⟩)],[(0,⟨[.box 5 .Paths [2]],[(6,6),(20,45)],[]⟩)],[(5,⟨[.slot 6 (.v .int), .box 5 .Paths [2]],[(20,45)],[]⟩)],[(1,⟨[.slot 14 (.v .bool)],[(7,13)],[]⟩)],[]⟩
noncomputable def ci223:CInfo:=mkCI (plains 2) [.v .Paths, .v .int] [.v .Paths] (fun x=>spec_PathTick.raw x.1 x.2) [(true,3)] [2] false
theorem c223:Contract Tryz.prog 223 ci223:=evC 47 (l:=[(72,ci72),(193,ci193),(194,ci194),(222,ci222)]) tn_mixed tn_ok (phi_cons c72 (phi_cons c193 (phi_cons c194 (phi_cons c222 phi_nil)))) Tryz.func223 an223 (fun x=>spec_PathTick.raw x.1 x.2) (by kernel_rfl) (fun x=>by kernel_rfl) fun x r hb h=>h
def an196:An:=⟨[],[],[],[(2,⟨[.slot 19 (.v .bool)],[(8,18)],[]⟩)],[]⟩
noncomputable def ci196:CInfo:=mkCI (plains 2) [.v .Sess, .v .int] [.v .Sess] (fun x=>spec_SessTick.raw x.1 x.2) [(true,24)] [1,2,4,6,9,11,14,17,20] false
theorem c196:Contract Tryz.prog 196 ci196:=evC 39 (l:=[(72,ci72),(150,ci150),(165,ci165),(177,ci177),(180,ci180),(223,ci223)]) tn_mixed tn_ok (phi_cons c72 (phi_cons c150 (phi_cons c165 (phi_cons c177 (phi_cons c180 (phi_cons c223 phi_nil)))))) Tryz.func196 an196 (fun x=>spec_SessTick.raw x.1 x.2) (by kernel_rfl) (fun x=>by kernel_rfl) fun x r hb h=>h
def an181:An:=⟨[(2883594,⟨[.box 5 .Tab [1]],[(45,50)],[1000007]⟩)],[(0,⟨[.box 5 .Tab [1]],[(6,7),(21,50)],[]⟩)],[(5,⟨[.slot 6 (.v .int), .box 5 .Tab [1]],[(7,7),(21,50)],[]⟩)],[(1,⟨[.slot 15 (.v .bool)],[(8,14)],[]⟩),(8,⟨[.slot 44 (.v .bool)],[(35,43)],[]⟩)],[]⟩
noncomputable def ci181:CInfo:=mkCI (plains 2) [.v .Tab, .v .int] [.v .Tab] (fun x=>spec_TabTick.raw x.1 x.2) [(true,2)] [1] false
theorem c181:Contract Tryz.prog 181 ci181:=evC 52 (l:=[(72,ci72),(118,ci118),(162,ci162),(196,ci196)]) tn_mixed tn_ok (phi_cons c72 (phi_cons c118 (phi_cons c162 (phi_cons c196 phi_nil)))) Tryz.func181 an181 (fun x=>spec_TabTick.raw x.1 x.2) (by kernel_rfl) (fun x=>by kernel_rfl) fun x r hb h=>h
noncomputable def ci151:CInfo:=mkCI (plains 1) [.v .Sess] [.v .Note] (fun x=>spec_l22End.raw x) [(true,12)] [3,4,7,8] false
theorem c151:Contract Tryz.prog 151 ci151:=evC 10 tn_mixed tn_ok phi_nil Tryz.func151 an0 (fun x=>spec_l22End.raw x) (by kernel_rfl) (fun x=>by kernel_rfl) fun x r hb h=>h
def an137:An:=⟨[(4325388,⟨[.own 7 .Note],[(67,76)],[]⟩)],[(0,⟨[.own 7 .Note],[(8,9),(28,76)],[1000006]⟩)],[(7,⟨[.own 7 .Note, .slot 8 (.v .int)],[(9,9),(28,76)],[]⟩)],[(3,⟨[.slot 20 (.v .bool)],[(13,19)],[]⟩),(10,⟨[.slot 66 (.v .bool)],[(46,65)],[]⟩)],[]⟩
noncomputable def ci137:CInfo:=mkCI (plains 2) [.v .Server, .v .int] [.v .Server, .sl .Note] (fun x=>spec_ServerTick.raw x.1 x.2) [(true,7),(false,1)] [7] false
theorem c137:Contract Tryz.prog 137 ci137:=evC 79 (l:=[(72,ci72),(77,ci77),(114,ci114),(151,ci151),(181,ci181),(182,ci182)]) tn_mixed tn_ok (phi_cons c72 (phi_cons c77 (phi_cons c114 (phi_cons c151 (phi_cons c181 (phi_cons c182 phi_nil)))))) Tryz.func137 an137 (fun x=>spec_ServerTick.raw x.1 x.2) (by kernel_rfl) (fun x=>by kernel_rfl) fun x r hb h=>h
def an92:An:=⟨[],[(0,⟨[.own 3 .Wire, .box 0 .World [1,11,12,13]],[(4,7),(19,59)],[]⟩)],[(4,⟨[.own 3 .Wire, .slot 4 (.v .int), .box 0 .World [1,11,12,13]],[(5,7),(19,59)],[]⟩)],[],[]⟩
noncomputable def ci92:CInfo:=mkCI [.ptr [1,11,12,13]] [.cells .World] [.sl .Wire, .cells .World] (fun x=>spec_l25Tick.raw x) [(false,1)] [0,2,12,13,14] false
theorem c92:Contract Tryz.prog 92 ci92:=evC 86 (l:=[(130,ci130),(136,ci136),(137,ci137)]) tn_mixed tn_ok (phi_cons c130 (phi_cons c136 (phi_cons c137 phi_nil))) Tryz.func92 an92 (fun x=>spec_l25Tick.raw x) (by kernel_rfl) (fun x=>by kernel_rfl) fun x r hb h=>h
def an93:An:=⟨[(851972,⟨[.box 5 .Client [1,5,8,9,11,12,15,16,18,20,23,25,28,31]],[(14,15)],[]⟩)],[],[],[(2,⟨[.slot 13 (.v .bool)],[(8,12)],[]⟩)],[]⟩
noncomputable def ci93:CInfo:=mkCI (plains 2) [.v .Client, .v .Addr] [.v .Client] (fun x=>spec_Roam.raw x.1 x.2) [(true,41)] [1,5,8,9,11,12,15,16,18,20,23,25,28,31] false
theorem c93:Contract Tryz.prog 93 ci93:=evC 17 (l:=[(80,ci80),(127,ci127),(138,ci138)]) tn_mixed tn_ok (phi_cons c80 (phi_cons c127 (phi_cons c138 phi_nil))) Tryz.func93 an93 (fun x=>spec_Roam.raw x.1 x.2) (by kernel_rfl) (fun x=>by kernel_rfl) fun x r hb h=>h
def an139:An:=⟨[],[],[],[(2,⟨[.slot 26 (.v .bool)],[(7,25)],[]⟩)],[]⟩
noncomputable def ci139:CInfo:=mkCI (plains 1) [.v .Chan] [.v .Chan, .v .bool] (fun x=>spec_Want.raw x) [(true,15),(false,1)] [1,3,6,8,11,14] false
theorem c139:Contract Tryz.prog 139 ci139:=evC 34 (l:=[(52,ci52),(69,ci69),(120,ci120)]) tn_mixed tn_ok (phi_cons c52 (phi_cons c69 (phi_cons c120 phi_nil))) Tryz.func139 an139 (fun x=>spec_Want.raw x) (by kernel_rfl) (fun x=>by kernel_rfl) fun x r hb h=>h
def an94:An:=⟨[],[],[],[(2,⟨[.slot 23 (.v .bool)],[(16,22)],[]⟩),(4,⟨[.slot 36 (.v .bool)],[(27,35)],[]⟩),(8,⟨[.slot 57 (.v .bool)],[(52,56)],[]⟩)],[(12,[1000012])]⟩
noncomputable def ci94:CInfo:=mkCI (plains 2) [.v .Client, .v .int] [.v .Client, .sl .Frame, .sl .Note, .v .int] (fun x=>spec_ClientRekey.raw x.1 x.2) [(true,41),(false,1),(false,1),(false,1)] [1,5,8,9,11,12,15,16,18,25,28,31,41,42] false
theorem c94:Contract Tryz.prog 94 ci94:=evC 73 (l:=[(72,ci72),(80,ci80),(127,ci127),(128,ci128),(132,ci132),(139,ci139),(140,ci140)]) tn_mixed tn_ok (phi_cons c72 (phi_cons c80 (phi_cons c127 (phi_cons c128 (phi_cons c132 (phi_cons c139 (phi_cons c140 phi_nil))))))) Tryz.func94 an94 (fun x=>spec_ClientRekey.raw x.1 x.2) (by kernel_rfl) (fun x=>by kernel_rfl) fun x r hb h=>h
def an95:An:=⟨[],[(0,⟨[],[(4,5),(9,29)],[]⟩)],[(4,⟨[.slot 5 (.v .int)],[(4,4),(9,29)],[]⟩)],[],[]⟩
noncomputable def ci95:CInfo:=mkCI (plains 2) [.v .World, .v .Addr] [.v .int] (fun x=>partyAtO x.1 x.2) [(false,1)] [] false
theorem c95:Contract Tryz.prog 95 ci95:=evC 30 (l:=[(135,ci135)]) tn_mixed tn_ok (phi_cons c135 phi_nil) Tryz.func95 an95 (fun x=>spec_PartyAt.raw x.1 x.2) (by kernel_rfl) (fun x=>by kernel_rfl) fun x r hb h=>spec_PartyAt.ok hb h
def an224:An:=⟨[],[(0,⟨[],[(4,19)],[]⟩)],[(2,⟨[.slot 5 (.v .int)],[(4,4),(6,19)],[]⟩)],[],[]⟩
noncomputable def ci224:CInfo:=mkCI (plains 2) [.sl .Credit, .v .Addr] [.v .int] (fun x=>some (cAt x.1 x.2)) [(false,1)] [] false
theorem c224:Contract Tryz.prog 224 ci224:=evC 20 tn_mixed tn_ok phi_nil Tryz.func224 an224 (fun x=>spec_l17At.raw x.1 x.2) (by kernel_rfl) (fun x=>by kernel_rfl) fun x r hb h=>(spec_l17At.ok hb).trans h
def an197:An:=⟨[(3735564,⟨[.own 7 .Credit],[(58,61)],[]⟩)],[],[],[(2,⟨[.slot 24 (.v .bool)],[(12,23)],[]⟩)],[]⟩
noncomputable def ci197:CInfo:=mkCI (plains 3) [.sl .Credit, .v .Addr, .v .int] [.sl .Credit] (fun x=>spec_Gain.raw x.1 x.2.1 x.2.2) [(false,1)] [0] false
theorem c197:Contract Tryz.prog 197 ci197:=evC 63 (l:=[(72,ci72),(138,ci138),(163,ci163),(224,ci224)]) tn_mixed tn_ok (phi_cons c72 (phi_cons c138 (phi_cons c163 (phi_cons c224 phi_nil)))) Tryz.func197 an197 (fun x=>spec_Gain.raw x.1 x.2.1 x.2.2) (by kernel_rfl) (fun x=>by kernel_rfl) fun x r hb h=>h
def an185:An:=⟨[(3276815,⟨[.box 2 .Frame [2,3,5,6,9,10], .box 4 .Frame [2,3,5,6,9,10]],[(3,3),(17,49),(52,131)],[]⟩),(4325396,⟨[.box 2 .Frame [2,3,5,6,9,10], .box 4 .Frame [2,3,5,6,9,10]],[(3,3),(17,49),(68,131)],[]⟩),(6160411,⟨[.box 2 .Frame [2,3,5,6,9,10], .box 4 .Frame [2,3,5,6,9,10]],[(3,3),(17,49),(96,131)],[]⟩)],[],[],[],[]⟩
noncomputable def ci185:CInfo:=mkCI (plains 1) [.sl .byte] [.v .Frame, .v .bool] (fun x=>spec_GetFrame.raw x) [(true,11),(false,1)] [2,3,5,6,9,10] false
theorem c185:Contract Tryz.prog 185 ci185:=evC 140 (l:=[(178,ci178),(211,ci211)]) tn_mixed tn_ok (phi_cons c178 (phi_cons c211 phi_nil)) Tryz.func185 an185 (fun x=>spec_GetFrame.raw x) (by kernel_rfl) (fun x=>by kernel_rfl) fun x r hb h=>h
def an225:An:=⟨[],[(0,⟨[],[(4,30)],[]⟩)],[(2,⟨[.slot 5 (.v .int)],[(4,4),(6,30)],[]⟩)],[(4,⟨[.slot 30 (.v .bool)],[(13,29)],[]⟩)],[]⟩
noncomputable def ci225:CInfo:=mkCI (plains 2) [.v .Tab, .v .Addr] [.v .bool] (fun x=>spec_AtOf.raw x.1 x.2) [(false,1)] [] false
theorem c225:Contract Tryz.prog 225 ci225:=evC 31 tn_mixed tn_ok phi_nil Tryz.func225 an225 (fun x=>spec_AtOf.raw x.1 x.2) (by kernel_rfl) (fun x=>by kernel_rfl) fun x r hb h=>h
def an226:An:=⟨[],[],[],[(2,⟨[.slot 15 (.v .bool)],[(9,14)],[]⟩)],[]⟩
noncomputable def ci226:CInfo:=mkCI (plains 2) [.sl .Credit, .v .Addr] [.v .int] (fun x=>spec_RoomFor.raw x.1 x.2) [(false,1)] [] false
theorem c226:Contract Tryz.prog 226 ci226:=evC 28 (l:=[(163,ci163),(224,ci224)]) tn_mixed tn_ok (phi_cons c163 (phi_cons c224 phi_nil)) Tryz.func226 an226 (fun x=>spec_RoomFor.raw x.1 x.2) (by kernel_rfl) (fun x=>by kernel_rfl) fun x r hb h=>h
def an198:An:=⟨[],[],[],[(1,⟨[.slot 6 (.v .bool)],[(7,18)],[]⟩)],[]⟩
noncomputable def ci198:CInfo:=mkCI (plains 3) [.v .Server, .v .Addr, .v .int] [.v .bool] (fun x=>spec_MayAsk.raw x.1 x.2.1 x.2.2) [(false,1)] [] false
theorem c198:Contract Tryz.prog 198 ci198:=evC 19 (l:=[(225,ci225),(226,ci226)]) tn_mixed tn_ok (phi_cons c225 (phi_cons c226 phi_nil)) Tryz.func198 an198 (fun x=>spec_MayAsk.raw x.1 x.2.1 x.2.2) (by kernel_rfl) (fun x=>by kernel_rfl) fun x r hb h=>h
noncomputable def ci227:CInfo:=mkCI (plains 2) [.sl .byte, .v .Addr] [.sl .byte] (fun x=>spec_PutAddr.raw x.1 x.2) [(false,1)] [0] false
theorem c227:Contract Tryz.prog 227 ci227:=evC 18 (l:=[(124,ci124),(138,ci138)]) tn_mixed tn_ok (phi_cons c124 (phi_cons c138 phi_nil)) Tryz.func227 an0 (fun x=>spec_PutAddr.raw x.1 x.2) (by kernel_rfl) (fun x=>by kernel_rfl) fun x r hb h=>h
def an200:An:=⟨[],[],[],[(1,⟨[.slot 34 (.v .bool)],[(12,33)],[]⟩)],[]⟩
noncomputable def ci200:CInfo:=mkCI (plains 5) [.v .Addr, .v .int, .sl .byte, .sl .byte, .v .int] [.sl .byte] (fun x=>spec_MintBody.raw x.1 x.2.1 x.2.2.1 x.2.2.2.1 x.2.2.2.2) [(false,1)] [0] false
theorem c200:Contract Tryz.prog 200 ci200:=evC 50 (l:=[(72,ci72),(124,ci124),(138,ci138),(227,ci227)]) tn_mixed tn_ok (phi_cons c72 (phi_cons c124 (phi_cons c138 (phi_cons c227 phi_nil)))) Tryz.func200 an200 (fun x=>spec_MintBody.raw x.1 x.2.1 x.2.2.1 x.2.2.2.1 x.2.2.2.2) (by kernel_rfl) (fun x=>by kernel_rfl) fun x r hb h=>h
def an199:An:=⟨[],[],[],[(2,⟨[.slot 27 (.v .bool)],[(20,26)],[]⟩)],[]⟩
noncomputable def ci199:CInfo:=mkCI (plains 6) [.v .Jar, .v .Addr, .v .int, .sl .byte, .sl .byte, .v .int] [.sl .byte] (fun x=>spec_Mint.raw x.1 x.2.1 x.2.2.1 x.2.2.2.1 x.2.2.2.2.1 x.2.2.2.2.2) [(false,1)] [0] false
theorem c199:Contract Tryz.prog 199 ci199:=evC 33 (l:=[(145,ci145),(161,ci161),(200,ci200)]) tn_mixed tn_ok (phi_cons c145 (phi_cons c161 (phi_cons c200 phi_nil))) Tryz.func199 an199 (fun x=>spec_Mint.raw x.1 x.2.1 x.2.2.1 x.2.2.2.1 x.2.2.2.2.1 x.2.2.2.2.2) (by kernel_rfl) (fun x=>by kernel_rfl) fun x r hb h=>h
def an228:An:=⟨[],[],[],[(1,⟨[.slot 4 (.v .bool)],[(5,16)],[]⟩)],[]⟩
noncomputable def ci228:CInfo:=mkCI (plains 2) [.v .int, .v .int] [.v .bool] (fun x=>spec_Fresh.raw x.1 x.2) [(false,1)] [] false
theorem c228:Contract Tryz.prog 228 ci228:=evC 17 (l:=[(72,ci72)]) tn_mixed tn_ok (phi_cons c72 phi_nil) Tryz.func228 an228 (fun x=>spec_Fresh.raw x.1 x.2) (by kernel_rfl) (fun x=>by kernel_rfl) fun x r hb h=>h
def an247:An:=⟨[],[(0,⟨[.slot 5 (.v .int)],[(6,6),(12,29)],[]⟩)],[(5,⟨[.slot 5 (.v .int), .slot 6 (.v .int)],[(12,29)],[]⟩)],[],[]⟩
noncomputable def ci247:CInfo:=mkCI (plains 2) [.sl .byte, .sl .byte] [.v .int] (fun x=>spec_Diff.raw x.1 x.2) [(false,1)] [] false
theorem c247:Contract Tryz.prog 247 ci247:=evC 31 tn_mixed tn_ok phi_nil Tryz.func247 an247 (fun x=>spec_Diff.raw x.1 x.2) (by kernel_rfl) (fun x=>by kernel_rfl) fun x r hb h=>h
def an229:An:=⟨[],[],[],[(1,⟨[.slot 4 (.v .bool)],[(5,13)],[]⟩)],[]⟩
noncomputable def ci229:CInfo:=mkCI (plains 2) [.sl .byte, .sl .byte] [.v .bool] (fun x=>spec_SameTag.raw x.1 x.2) [(false,1)] [] false
theorem c229:Contract Tryz.prog 229 ci229:=evC 14 (l:=[(247,ci247)]) tn_mixed tn_ok (phi_cons c247 phi_nil) Tryz.func229 an229 (fun x=>spec_SameTag.raw x.1 x.2) (by kernel_rfl) (fun x=>by kernel_rfl) fun x r hb h=>h
def an201:An:=⟨[],[],[],[(1,⟨[.slot 31 (.v .bool)],[(9,30)],[]⟩)],[]⟩
noncomputable def ci201:CInfo:=mkCI (plains 4) [.v .Jar, .v .int, .v .Addr, .v .Frame] [.v .int] (fun x=>spec_Judge.raw x.1 x.2.1 x.2.2.1 x.2.2.2) [(false,1)] [] false
theorem c201:Contract Tryz.prog 201 ci201:=evC 52 (l:=[(72,ci72),(138,ci138),(161,ci161),(171,ci171),(199,ci199),(228,ci228),(229,ci229)]) tn_mixed tn_ok (phi_cons c72 (phi_cons c138 (phi_cons c161 (phi_cons c171 (phi_cons c199 (phi_cons c228 (phi_cons c229 phi_nil))))))) Tryz.func201 an201 (fun x=>spec_Judge.raw x.1 x.2.1 x.2.2.1 x.2.2.2) (by kernel_rfl) (fun x=>by kernel_rfl) fun x r hb h=>h
noncomputable def ci232:CInfo:=mkCI (plains 2) [.sl .byte, .sl .byte] [.sl .byte] (fun x=>spec_Extract.raw x.1 x.2) [(false,1)] [0] false
theorem c232:Contract Tryz.prog 232 ci232:=evC 8 (l:=[(144,ci144)]) tn_mixed tn_ok (phi_cons c144 phi_nil) Tryz.func232 an0 (fun x=>spec_Extract.raw x.1 x.2) (by kernel_rfl) (fun x=>by kernel_rfl) fun x r hb h=>h
noncomputable def ci206:CInfo:=mkCI (plains 1) [.sl .byte] [.sl .byte] (fun x=>spec_FinishKey.raw x) [(false,1)] [0] false
theorem c206:Contract Tryz.prog 206 ci206:=evC 12 (l:=[(69,ci69),(164,ci164),(232,ci232)]) tn_mixed tn_ok (phi_cons c69 (phi_cons c164 (phi_cons c232 phi_nil))) Tryz.func206 an0 (fun x=>spec_FinishKey.raw x) (by kernel_rfl) (fun x=>by kernel_rfl) fun x r hb h=>h
def an207:An:=⟨[],[],[],[(1,⟨[.slot 34 (.v .bool)],[(12,33)],[]⟩)],[]⟩
noncomputable def ci207:CInfo:=mkCI (plains 5) [.v .int, .sl .byte, .sl .byte, .v .int, .sl .byte] [.sl .byte] (fun x=>spec_ProofBody.raw x.1 x.2.1 x.2.2.1 x.2.2.2.1 x.2.2.2.2) [(false,1)] [0] false
theorem c207:Contract Tryz.prog 207 ci207:=evC 48 (l:=[(72,ci72),(124,ci124)]) tn_mixed tn_ok (phi_cons c72 (phi_cons c124 phi_nil)) Tryz.func207 an207 (fun x=>spec_ProofBody.raw x.1 x.2.1 x.2.2.1 x.2.2.2.1 x.2.2.2.2) (by kernel_rfl) (fun x=>by kernel_rfl) fun x r hb h=>h
def an230:An:=⟨[],[],[],[(3,⟨[.slot 30 (.v .bool)],[(23,29)],[]⟩)],[]⟩
noncomputable def ci230:CInfo:=mkCI (plains 6) [.sl .byte, .v .int, .sl .byte, .sl .byte, .v .int, .sl .byte] [.sl .byte] (fun x=>spec_Proof.raw x.1 x.2.1 x.2.2.1 x.2.2.2.1 x.2.2.2.2.1 x.2.2.2.2.2) [(false,1)] [0] false
theorem c230:Contract Tryz.prog 230 ci230:=evC 35 (l:=[(145,ci145),(206,ci206),(207,ci207)]) tn_mixed tn_ok (phi_cons c145 (phi_cons c206 (phi_cons c207 phi_nil))) Tryz.func230 an230 (fun x=>spec_Proof.raw x.1 x.2.1 x.2.2.1 x.2.2.2.1 x.2.2.2.2.1 x.2.2.2.2.2) (by kernel_rfl) (fun x=>by kernel_rfl) fun x r hb h=>h
def an202:An:=⟨[],[],[],[(1,⟨[.slot 4 (.v .bool)],[(5,28)],[]⟩)],[]⟩
noncomputable def ci202:CInfo:=mkCI (plains 2) [.sl .byte, .v .Frame] [.v .bool] (fun x=>spec_ProofOk.raw x.1 x.2) [(false,1)] [] false
theorem c202:Contract Tryz.prog 202 ci202:=evC 29 (l:=[(171,ci171),(229,ci229),(230,ci230)]) tn_mixed tn_ok (phi_cons c171 (phi_cons c229 (phi_cons c230 phi_nil))) Tryz.func202 an202 (fun x=>spec_ProofOk.raw x.1 x.2) (by kernel_rfl) (fun x=>by kernel_rfl) fun x r hb h=>h
def an240:An:=⟨[],[],[],[(1,⟨[.slot 19 (.v .bool)],[(7,18)],[]⟩)],[]⟩
noncomputable def ci240:CInfo:=mkCI (plains 3) [.sl .byte, .sl .byte, .sl .byte] [.sl .byte] (fun x=>spec_RootKey.raw x.1 x.2.1 x.2.2) [(false,1)] [0] false
theorem c240:Contract Tryz.prog 240 ci240:=evC 28 (l:=[(164,ci164),(232,ci232)]) tn_mixed tn_ok (phi_cons c164 (phi_cons c232 phi_nil)) Tryz.func240 an240 (fun x=>spec_RootKey.raw x.1 x.2.1 x.2.2) (by kernel_rfl) (fun x=>by kernel_rfl) fun x r hb h=>h
noncomputable def ci239:CInfo:=mkCI (plains 1) [.sl .byte] [.sl .byte] (fun x=>spec_FirstKey.raw x) [(false,1)] [0] false
theorem c239:Contract Tryz.prog 239 ci239:=evC 9 (l:=[(69,ci69)]) tn_mixed tn_ok (phi_cons c69 phi_nil) Tryz.func239 an0 (fun x=>spec_FirstKey.raw x) (by kernel_rfl) (fun x=>by kernel_rfl) fun x r hb h=>h
def an241:An:=⟨[],[(0,⟨[.own 5 .byte],[(6,6),(14,20)],[]⟩)],[(5,⟨[.own 5 .byte, .slot 6 (.v .int)],[(14,20)],[]⟩)],[],[]⟩
noncomputable def ci241:CInfo:=mkCI (plains 2) [.sl .byte, .v .int] [.sl .byte] (fun x=>spec_Chain.raw x.1 x.2) [(false,1)] [0] false
theorem c241:Contract Tryz.prog 241 ci241:=evC 22 (l:=[(69,ci69),(72,ci72)]) tn_mixed tn_ok (phi_cons c69 (phi_cons c72 phi_nil)) Tryz.func241 an241 (fun x=>spec_Chain.raw x.1 x.2) (by kernel_rfl) (fun x=>by kernel_rfl) fun x r hb h=>h
noncomputable def ci213:CInfo:=mkCI (plains 4) [.sl .byte, .sl .byte, .sl .byte, .v .int] [.sl .byte] (fun x=>spec_EpochKey.raw x.1 x.2.1 x.2.2.1 x.2.2.2) [(false,1)] [0] false
theorem c213:Contract Tryz.prog 213 ci213:=evC 22 (l:=[(239,ci239),(240,ci240),(241,ci241)]) tn_mixed tn_ok (phi_cons c239 (phi_cons c240 (phi_cons c241 phi_nil))) Tryz.func213 an0 (fun x=>spec_EpochKey.raw x.1 x.2.1 x.2.2.1 x.2.2.2) (by kernel_rfl) (fun x=>by kernel_rfl) fun x r hb h=>h
def an108:An:=⟨[],[(0,⟨[.box 1 .Win [1]],[(2,2),(4,12)],[]⟩)],[(3,⟨[.slot 2 (.v .int), .box 1 .Win [1]],[(4,12)],[]⟩)],[],[]⟩
noncomputable def ci108:CInfo:=mkCI (plains 0) [] [.v .Win] (fun _=>spec_WinNew.raw) [(true,2)] [1] false
theorem c108:Contract Tryz.prog 108 ci108:=evC 14 tn_mixed tn_ok phi_nil Tryz.func108 an108 (fun _=>spec_WinNew.raw) (by kernel_rfl) (fun x=>by kernel_rfl) fun x r hb h=>h
def an68:An:=⟨[],[],[],[(1,⟨[.slot 12 (.v .bool)],[(5,11)],[]⟩)],[]⟩
noncomputable def ci68:CInfo:=mkCI (plains 2) [.v .int, .sl .byte] [.v .Ep] (fun x=>spec_EpNew.raw x.1 x.2) [(true,5)] [1,4] false
theorem c68:Contract Tryz.prog 68 ci68:=evC 20 (l:=[(72,ci72),(108,ci108)]) tn_mixed tn_ok (phi_cons c72 (phi_cons c108 phi_nil)) Tryz.func68 an68 (fun x=>spec_EpNew.raw x.1 x.2) (by kernel_rfl) (fun x=>by kernel_rfl) fun x r hb h=>h
def an66:An:=⟨[],[],[],[(1,⟨[.slot 19 (.v .bool)],[(7,18)],[]⟩)],[]⟩
noncomputable def ci66:CInfo:=mkCI (plains 3) [.v .int, .sl .byte, .sl .byte] [.v .Chan] (fun x=>spec_ChanNew.raw x.1 x.2.1 x.2.2) [(true,15)] [1,3,6,8,11,14] false
theorem c66:Contract Tryz.prog 66 ci66:=evC 28 (l:=[(68,ci68),(72,ci72)]) tn_mixed tn_ok (phi_cons c68 (phi_cons c72 phi_nil)) Tryz.func66 an66 (fun x=>spec_ChanNew.raw x.1 x.2.1 x.2.2) (by kernel_rfl) (fun x=>by kernel_rfl) fun x r hb h=>h
noncomputable def ci231:CInfo:=mkCI (plains 1) [.v .Addr] [.v .Paths] (fun x=>spec_PathsNew.raw x) [(true,3)] [2] false
theorem c231:Contract Tryz.prog 231 ci231:=evC 5 tn_mixed tn_ok phi_nil Tryz.func231 an0 (fun x=>spec_PathsNew.raw x) (by kernel_rfl) (fun x=>by kernel_rfl) fun x r hb h=>h
def an203:An:=⟨[],[],[],[(1,⟨[.slot 31 (.v .bool)],[(9,30)],[]⟩)],[]⟩
noncomputable def ci203:CInfo:=mkCI (plains 4) [.sl .byte, .v .int, .v .Addr, .v .Frame] [.v .Sess] (fun x=>spec_SessNew.raw x.1 x.2.1 x.2.2.1 x.2.2.2) [(true,24)] [1,2,4,6,9,11,14,17,20] false
theorem c203:Contract Tryz.prog 203 ci203:=evC 58 (l:=[(66,ci66),(72,ci72),(138,ci138),(164,ci164),(171,ci171),(213,ci213),(231,ci231)]) tn_mixed tn_ok (phi_cons c66 (phi_cons c72 (phi_cons c138 (phi_cons c164 (phi_cons c171 (phi_cons c213 (phi_cons c231 phi_nil))))))) Tryz.func203 an203 (fun x=>spec_SessNew.raw x.1 x.2.1 x.2.2.1 x.2.2.2) (by kernel_rfl) (fun x=>by kernel_rfl) fun x r hb h=>h
def an204:An:=⟨[],[],[],[(2,⟨[.slot 20 (.v .bool)],[(9,19)],[]⟩),(6,⟨[.slot 38 (.v .bool)],[(28,37)],[]⟩)],[]⟩
noncomputable def ci204:CInfo:=mkCI (plains 2) [.v .Tab, .v .Sess] [.v .Tab, .v .int] (fun x=>spec_AddSess.raw x.1 x.2) [(true,2),(false,1)] [1] false
theorem c204:Contract Tryz.prog 204 ci204:=evC 48 (l:=[(118,ci118),(162,ci162),(165,ci165),(177,ci177),(182,ci182),(192,ci192)]) tn_mixed tn_ok (phi_cons c118 (phi_cons c162 (phi_cons c165 (phi_cons c177 (phi_cons c182 (phi_cons c192 phi_nil)))))) Tryz.func204 an204 (fun x=>spec_AddSess.raw x.1 x.2) (by kernel_rfl) (fun x=>by kernel_rfl) fun x r hb h=>h
noncomputable def ci205:CInfo:=mkCI (plains 3) [.sl .byte, .sl .byte, .sl .byte] [.v .Note] (fun x=>spec_Took.raw x.1 x.2.1 x.2.2) [(true,12)] [3,4,7,8] false
theorem c205:Contract Tryz.prog 205 ci205:=evC 17 tn_mixed tn_ok phi_nil Tryz.func205 an0 (fun x=>spec_Took.raw x.1 x.2.1 x.2.2) (by kernel_rfl) (fun x=>by kernel_rfl) fun x r hb h=>h
def an233:An:=⟨[],[],[],[(1,⟨[.slot 12 (.v .bool)],[(5,11)],[]⟩)],[]⟩
noncomputable def ci233:CInfo:=mkCI (plains 1) [.v .Chan] [.v .Chan, .v .Frame, .v .int] (fun x=>spec_Ack.raw x) [(true,15),(true,11),(false,1)] [1,8,11,14,17,18,20,21,24,25] false
theorem c233:Contract Tryz.prog 233 ci233:=evC 25 (l:=[(52,ci52),(120,ci120),(131,ci131),(183,ci183)]) tn_mixed tn_ok (phi_cons c52 (phi_cons c120 (phi_cons c131 (phi_cons c183 phi_nil)))) Tryz.func233 an233 (fun x=>spec_Ack.raw x) (by kernel_rfl) (fun x=>by kernel_rfl) fun x r hb h=>h
def an208:An:=⟨[],[],[],[(2,⟨[.slot 24 (.v .bool)],[(11,23)],[]⟩)],[(8,[1000007])]⟩
noncomputable def ci208:CInfo:=mkCI (plains 1) [.v .Sess] [.v .Sess, .sl .Out, .sl .Note] (fun x=>spec_SessAck.raw x) [(true,24),(false,1),(false,1)] [1,2,4,11,14,17,20,24,25] false
theorem c208:Contract Tryz.prog 208 ci208:=evC 53 (l:=[(132,ci132),(165,ci165),(177,ci177),(233,ci233)]) tn_mixed tn_ok (phi_cons c132 (phi_cons c165 (phi_cons c177 (phi_cons c233 phi_nil)))) Tryz.func208 an208 (fun x=>spec_SessAck.raw x) (by kernel_rfl) (fun x=>by kernel_rfl) fun x r hb h=>h
noncomputable def ci221:CInfo:=mkCI (plains 1) [.v .int] [.v .int] (fun x=>spec_l8Least.raw x) [(false,1)] [] false
theorem c221:Contract Tryz.prog 221 ci221:=evC 8 tn_mixed tn_ok phi_nil Tryz.func221 an0 (fun x=>spec_l8Least.raw x) (by kernel_rfl) (fun x=>by kernel_rfl) fun x r hb h=>h
def an191:An:=⟨[],[],[],[(1,⟨[.slot 12 (.v .bool)],[(5,11)],[]⟩),(3,⟨[.slot 4 (.v .bool)],[(13,29)],[]⟩)],[]⟩
noncomputable def ci191:CInfo:=mkCI (plains 2) [.v .Win, .v .int] [.v .bool] (fun x=>spec_WinMay.raw x.1 x.2) [(false,1)] [] false
theorem c191:Contract Tryz.prog 191 ci191:=evC 30 (l:=[(72,ci72),(110,ci110),(157,ci157),(221,ci221)]) tn_mixed tn_ok (phi_cons c72 (phi_cons c110 (phi_cons c157 (phi_cons c221 phi_nil)))) Tryz.func191 an191 (fun x=>spec_WinMay.raw x.1 x.2) (by kernel_rfl) (fun x=>by kernel_rfl) fun x r hb h=>h
def an250:An:=⟨[],[],[],[(2,⟨[.slot 28 (.v .bool)],[(12,27)],[8]⟩)],[]⟩
noncomputable def ci250:CInfo:=mkCI (plains 3) [.sl .byte, .v .int, .v .Frame] [.sl .byte, .v .bool] (fun x=>spec_Unseal.raw x.1 x.2.1 x.2.2) [(false,1),(false,1)] [0] false
theorem c250:Contract Tryz.prog 250 ci250:=evC 42 (l:=[(125,ci125),(145,ci145),(146,ci146),(168,ci168),(229,ci229)]) tn_mixed tn_ok (phi_cons c125 (phi_cons c145 (phi_cons c146 (phi_cons c168 (phi_cons c229 phi_nil))))) Tryz.func250 an250 (fun x=>spec_Unseal.raw x.1 x.2.1 x.2.2) (by kernel_rfl) (fun x=>by kernel_rfl) fun x r hb h=>h
def an156:An:=⟨[(4521999,⟨[.box 6 .Win [1]],[(70,71)],[]⟩)],[(0,⟨[.box 6 .Win [1]],[(7,9),(21,48)],[]⟩)],[(6,⟨[.slot 7 (.v .int), .slot 8 (.v .int), .box 6 .Win [1]],[(9,9),(21,48)],[]⟩)],[(6,⟨[.slot 27 (.v .bool)],[(21,26)],[]⟩)],[]⟩
noncomputable def ci156:CInfo:=mkCI (plains 2) [.v .Win, .v .int] [.v .Win, .v .bool] (fun x=>spec_WinAdd.raw x.1 x.2) [(true,2),(false,1)] [1] false
theorem c156:Contract Tryz.prog 156 ci156:=evC 73 (l:=[(190,ci190),(191,ci191)]) tn_mixed tn_ok (phi_cons c190 (phi_cons c191 phi_nil)) Tryz.func156 an156 (fun x=>spec_WinAdd.raw x.1 x.2) (by kernel_rfl) (fun x=>by kernel_rfl) fun x r hb h=>h
def an242:An:=⟨[],[],[],[(2,⟨[.slot 30 (.v .bool)],[(14,29)],[]⟩)],[]⟩
noncomputable def ci242:CInfo:=mkCI (plains 3) [.v .Ep, .v .int, .v .Frame] [.v .Ep, .sl .byte, .v .int] (fun x=>spec_EpOpen.raw x.1 x.2.1 x.2.2) [(true,5),(false,1),(false,1)] [1,4,5] false
theorem c242:Contract Tryz.prog 242 ci242:=evC 64 (l:=[(73,ci73),(125,ci125),(156,ci156),(166,ci166),(191,ci191),(250,ci250)]) tn_mixed tn_ok (phi_cons c73 (phi_cons c125 (phi_cons c156 (phi_cons c166 (phi_cons c191 (phi_cons c250 phi_nil)))))) Tryz.func242 an242 (fun x=>spec_EpOpen.raw x.1 x.2.1 x.2.2) (by kernel_rfl) (fun x=>by kernel_rfl) fun x r hb h=>h
def an214:An:=⟨[(5373966,⟨[.box 9 .Chan [1,3,6,8,11,14]],[(83,85)],[]⟩)],[],[],[(2,⟨[.slot 40 (.v .bool)],[(22,39)],[]⟩),(12,⟨[.slot 82 (.v .bool)],[(76,81)],[]⟩),(15,⟨[.slot 97 (.v .bool)],[(88,96)],[]⟩),(16,⟨[.slot 106 (.v .bool)],[(98,105)],[]⟩),(23,⟨[.slot 139 (.v .bool)],[(127,138)],[]⟩)],[]⟩
noncomputable def ci214:CInfo:=mkCI (plains 3) [.v .Chan, .v .int, .v .Frame] [.v .Chan, .sl .byte, .v .int] (fun x=>spec_ChanOpen.raw x.1 x.2.1 x.2.2) [(true,15),(false,1),(false,1)] [1,3,6,8,11,14,15] false
theorem c214:Contract Tryz.prog 214 ci214:=evC 174 (l:=[(38,ci38),(52,ci52),(68,ci68),(72,ci72),(120,ci120),(169,ci169),(171,ci171),(242,ci242)]) tn_mixed tn_ok (phi_cons c38 (phi_cons c52 (phi_cons c68 (phi_cons c72 (phi_cons c120 (phi_cons c169 (phi_cons c171 (phi_cons c242 phi_nil)))))))) Tryz.func214 an214 (fun x=>spec_ChanOpen.raw x.1 x.2.1 x.2.2) (by kernel_rfl) (fun x=>by kernel_rfl) fun x r hb h=>h
def an215:An:=⟨[],[],[],[(3,⟨[.slot 18 (.v .bool)],[(10,17)],[]⟩),(7,⟨[.slot 45 (.v .bool)],[(34,44)],[]⟩)],[]⟩
noncomputable def ci215:CInfo:=mkCI (plains 2) [.v .Chan, .v .int] [.sl .byte, .v .bool] (fun x=>spec_KeyFor.raw x.1 x.2) [(false,1),(false,1)] [0] false
theorem c215:Contract Tryz.prog 215 ci215:=evC 51 (l:=[(52,ci52)]) tn_mixed tn_ok (phi_cons c52 phi_nil) Tryz.func215 an215 (fun x=>spec_KeyFor.raw x.1 x.2) (by kernel_rfl) (fun x=>by kernel_rfl) fun x r hb h=>h
def an248:An:=⟨[],[(0,⟨[.box 4 .Cand [2]],[(5,6),(11,31)],[]⟩)],[(4,⟨[.slot 6 (.v .int), .box 4 .Cand [2]],[(5,5),(11,31)],[]⟩)],[],[]⟩
noncomputable def ci248:CInfo:=mkCI (plains 2) [.v .Paths, .v .Addr] [.v .Cand, .v .bool] (fun x=>candOfO x.1 x.2) [(true,4),(false,1)] [2] false
theorem c248:Contract Tryz.prog 248 ci248:=evC 33 (l:=[(194,ci194),(222,ci222)]) tn_mixed tn_ok (phi_cons c194 (phi_cons c222 phi_nil)) Tryz.func248 an248 (fun x=>spec_CandOf.raw x.1 x.2) (by kernel_rfl) (fun x=>by kernel_rfl) fun x r hb h=>spec_CandOf.ok hb h
def an234:An:=⟨[(3801098,⟨[.box 12 .Paths [2]],[(59,69)],[]⟩)],[(0,⟨[.box 12 .Paths [2]],[(13,13),(44,69)],[]⟩)],[(6,⟨[.slot 13 (.v .int), .box 12 .Paths [2]],[(44,69)],[]⟩)],[(2,⟨[.slot 39 (.v .bool)],[(20,38)],[1000010]⟩)],[]⟩
noncomputable def ci234:CInfo:=mkCI (plains 4) [.v .Paths, .v .int, .v .Addr, .sl .byte] [.v .Paths, .v .bool] (fun x=>spec_Answer.raw x.1 x.2.1 x.2.2.1 x.2.2.2) [(true,3),(false,1)] [2] false
theorem c234:Contract Tryz.prog 234 ci234:=evC 71 (l:=[(38,ci38),(72,ci72),(193,ci193),(222,ci222),(248,ci248)]) tn_mixed tn_ok (phi_cons c38 (phi_cons c72 (phi_cons c193 (phi_cons c222 (phi_cons c248 phi_nil))))) Tryz.func234 an234 (fun x=>spec_Answer.raw x.1 x.2.1 x.2.2.1 x.2.2.2) (by kernel_rfl) (fun x=>by kernel_rfl) fun x r hb h=>h
def an249:An:=⟨[],[],[],[(2,⟨[.slot 20 (.v .bool)],[(7,19)],[]⟩)],[]⟩
noncomputable def ci249:CInfo:=mkCI (plains 1) [.v .Chan] [.v .Chan, .v .bool] (fun x=>spec_Turn.raw x) [(true,15),(false,1)] [1,3,6,8,11,14] false
theorem c249:Contract Tryz.prog 249 ci249:=evC 38 (l:=[(52,ci52),(68,ci68),(69,ci69),(120,ci120)]) tn_mixed tn_ok (phi_cons c52 (phi_cons c68 (phi_cons c69 (phi_cons c120 phi_nil)))) Tryz.func249 an249 (fun x=>spec_Turn.raw x) (by kernel_rfl) (fun x=>by kernel_rfl) fun x r hb h=>h
def an235:An:=⟨[],[],[],[(2,⟨[.slot 33 (.v .bool)],[(13,32)],[]⟩)],[]⟩
noncomputable def ci235:CInfo:=mkCI (plains 3) [.v .Chan, .v .int, .sl .byte] [.v .Chan, .v .int] (fun x=>spec_HearRekey.raw x.1 x.2.1 x.2.2) [(true,15),(false,1)] [1,3,6,8,11,14] false
theorem c235:Contract Tryz.prog 235 ci235:=evC 57 (l:=[(38,ci38),(52,ci52),(72,ci72),(120,ci120),(183,ci183),(249,ci249)]) tn_mixed tn_ok (phi_cons c38 (phi_cons c52 (phi_cons c72 (phi_cons c120 (phi_cons c183 (phi_cons c249 phi_nil)))))) Tryz.func235 an235 (fun x=>spec_HearRekey.raw x.1 x.2.1 x.2.2) (by kernel_rfl) (fun x=>by kernel_rfl) fun x r hb h=>h
def an236:An:=⟨[],[(0,⟨[.box 8 .Paths [2]],[(9,9),(11,11),(41,57)],[]⟩)],[(5,⟨[.slot 11 (.v .int), .box 8 .Paths [2]],[(9,9),(41,57)],[]⟩)],[(1,⟨[.slot 35 (.v .bool)],[(12,34)],[]⟩)],[]⟩
noncomputable def ci236:CInfo:=mkCI (plains 4) [.v .Paths, .v .int, .v .Addr, .sl .byte] [.v .Paths, .v .bool] (fun x=>spec_Offer.raw x.1 x.2.1 x.2.2.1 x.2.2.2) [(true,3),(false,1)] [2] false
theorem c236:Contract Tryz.prog 236 ci236:=evC 77 (l:=[(72,ci72),(138,ci138),(193,ci193),(194,ci194),(223,ci223)]) tn_mixed tn_ok (phi_cons c72 (phi_cons c138 (phi_cons c193 (phi_cons c194 (phi_cons c223 phi_nil))))) Tryz.func236 an236 (fun x=>spec_Offer.raw x.1 x.2.1 x.2.2.1 x.2.2.2) (by kernel_rfl) (fun x=>by kernel_rfl) fun x r hb h=>h
def an209:An:=⟨[(5898256,⟨[.own 15 .Out, .own 16 .Note, .box 14 .Sess [1,2]],[(22,28),(92,197)],[18]⟩),(7077906,⟨[.own 15 .Out, .own 16 .Note, .box 14 .Sess [1,2]],[(22,28),(110,197)],[]⟩),(7798804,⟨[.own 16 .Note, .box 14 .Sess [1,2,4,6,9,11,14,17]],[(120,134)],[1000022]⟩),(8847383,⟨[.own 15 .Out, .own 16 .Note, .box 14 .Sess [1,2,20]],[(24,28),(137,197)],[]⟩),(9633817,⟨[.own 15 .Out, .own 16 .Note, .box 14 .Sess [1,2,20]],[(26,28),(148,197)],[1000024]⟩),(10158106,⟨[.own 16 .Note],[(156,171)],[]⟩),(11862046,⟨[.own 15 .Out, .own 16 .Note, .box 14 .Sess [1,2,20]],[(182,197)],[1000027,1000026]⟩)],[],[],[(4,⟨[.slot 49 (.v .bool)],[(38,48)],[]⟩),(34,⟨[.slot 220 (.v .bool)],[(215,219)],[]⟩)],[]⟩
noncomputable def ci209:CInfo:=mkCI (plains 5) [.v .Sess, .v .int, .v .Addr, .v .Frame, .sl .byte] [.v .Sess, .sl .Out, .sl .Note, .v .bool] (fun x=>spec_SessHear.raw x.1 x.2.1 x.2.2.1 x.2.2.2.1 x.2.2.2.2) [(true,24),(false,1),(false,1),(false,1)] [1,2,24,25] false
theorem c209:Contract Tryz.prog 209 ci209:=evC 241 (l:=[(125,ci125),(131,ci131),(132,ci132),(138,ci138),(165,ci165),(177,ci177),(205,ci205),(214,ci214),(215,ci215),(233,ci233),(234,ci234),(235,ci235),(236,ci236)]) tn_mixed tn_ok (phi_cons c125 (phi_cons c131 (phi_cons c132 (phi_cons c138 (phi_cons c165 (phi_cons c177 (phi_cons c205 (phi_cons c214 (phi_cons c215 (phi_cons c233 (phi_cons c234 (phi_cons c235 (phi_cons c236 phi_nil))))))))))))) Tryz.func209 an209 (fun x=>spec_SessHear.raw x.1 x.2.1 x.2.2.1 x.2.2.2.1 x.2.2.2.2) (by kernel_rfl) (fun x=>by kernel_rfl) fun x r hb h=>h
noncomputable def ci238:CInfo:=mkCI (plains 1) [.v .Frame] [.v .int] (fun x=>spec_SizeOf.raw x) [(false,1)] [] false
theorem c238:Contract Tryz.prog 238 ci238:=evC 6 (l:=[(178,ci178)]) tn_mixed tn_ok (phi_cons c178 phi_nil) Tryz.func238 an0 (fun x=>spec_SizeOf.raw x) (by kernel_rfl) (fun x=>by kernel_rfl) fun x r hb h=>h
def an237:An:=⟨[],[],[],[(3,⟨[.slot 30 (.v .bool)],[(16,29)],[]⟩)],[]⟩
noncomputable def ci237:CInfo:=mkCI (plains 3) [.sl .Credit, .v .Addr, .v .int] [.sl .Credit, .v .bool] (fun x=>spec_Spend.raw x.1 x.2.1 x.2.2) [(false,1),(false,1)] [0] false
theorem c237:Contract Tryz.prog 237 ci237:=evC 44 (l:=[(72,ci72),(163,ci163),(224,ci224),(226,ci226)]) tn_mixed tn_ok (phi_cons c72 (phi_cons c163 (phi_cons c224 (phi_cons c226 phi_nil)))) Tryz.func237 an237 (fun x=>spec_Spend.raw x.1 x.2.1 x.2.2) (by kernel_rfl) (fun x=>by kernel_rfl) fun x r hb h=>h
def an210:An:=⟨[(1703943,⟨[.box 0 .Server []],[(7,8),(27,51)],[]⟩)],[(0,⟨[.own 5 .Out, .box 0 .Server []],[(6,8),(10,58)],[]⟩),(1,⟨[.own 5 .Out, .box 0 .Server []],[(7,8),(16,58)],[]⟩)],[(3,⟨[.own 5 .Out, .slot 6 (.v .int), .box 0 .Server []],[(7,8),(10,58)],[]⟩)],[],[]⟩
noncomputable def ci210:CInfo:=mkCI [.ptr [], .plain] [.cells .Server, .sl .Out] [.sl .Out, .cells .Server] (fun x=>spec_l22Out.raw x.1 x.2) [(false,1)] [0] false
theorem c210:Contract Tryz.prog 210 ci210:=evC 60 (l:=[(225,ci225),(237,ci237),(238,ci238)]) tn_mixed tn_ok (phi_cons c225 (phi_cons c237 (phi_cons c238 phi_nil))) Tryz.func210 an210 (fun x=>spec_l22Out.raw x.1 x.2) (by kernel_rfl) (fun x=>by kernel_rfl) fun x r hb h=>h
def an184:An:=⟨[(4653068,⟨[.own 12 .Out, .own 13 .Note, .box 11 .Server [], .box 8 .Server [0,1,2,5,6]],[(9,10),(16,33),(75,404)],[1000014]⟩),(9437204,⟨[.own 12 .Out, .own 13 .Note, .box 8 .Server [0,1,2,5,6], .box 11 .Server [0,1,5,6]],[(9,10),(19,33),(148,404)],[]⟩),(12058648,⟨[.own 13 .Note, .slot 19 (.v .int), .box 8 .Server [0,1,2,5,6], .box 11 .Server [0,1,2,5,6]],[(9,10),(20,22),(185,279)],[]⟩),(19791907,⟨[.own 12 .Out, .own 13 .Note, .box 11 .Server [0,1,2,5,6]],[(24,26),(303,320)],[]⟩),(21037096,⟨[.own 12 .Out, .own 13 .Note, .box 8 .Server [0,1,2,5,6], .box 11 .Server [0,1,5,6]],[(9,10),(27,33),(325,404)],[]⟩),(23134253,⟨[.own 29 .byte],[(354,354)],[]⟩),(24903730,⟨[.own 13 .Note, .box 11 .Server [0,1,5,6]],[(381,387)],[1000028]⟩),(25624630,⟨[.own 13 .Note],[(392,404)],[]⟩)],[],[],[(4,⟨[.slot 50 (.v .bool)],[(38,49)],[]⟩),(11,⟨[.slot 92 (.v .bool)],[(75,91)],[1000011]⟩),(19,⟨[.slot 174 (.v .bool)],[(148,173)],[]⟩),(33,⟨[.slot 302 (.v .bool)],[(286,301)],[]⟩),(40,⟨[.slot 340 (.v .bool)],[(330,339)],[]⟩)],[]⟩
noncomputable def ci184:CInfo:=mkCI (plains 4) [.v .Server, .v .int, .v .Addr, .sl .byte] [.v .Server, .sl .Out, .sl .Note] (fun x=>spec_ServerHear.raw x.1 x.2.1 x.2.2.1 x.2.2.2) [(true,7),(false,1),(false,1)] [7,8] false
theorem c184:Contract Tryz.prog 184 ci184:=evC 410 (l:=[(38,ci38),(72,ci72),(77,ci77),(84,ci84),(86,ci86),(114,ci114),(138,ci138),(169,ci169),(176,ci176),(182,ci182),(185,ci185),(197,ci197),(198,ci198),(199,ci199),(200,ci200),(201,ci201),(202,ci202),(203,ci203),(204,ci204),(205,ci205),(206,ci206),(207,ci207),(208,ci208),(209,ci209),(210,ci210)]) tn_mixed tn_ok (phi_cons c38 (phi_cons c72 (phi_cons c77 (phi_cons c84 (phi_cons c86 (phi_cons c114 (phi_cons c138 (phi_cons c169 (phi_cons c176 (phi_cons c182 (phi_cons c185 (phi_cons c197 (phi_cons c198 (phi_cons c199 (phi_cons c200 (phi_cons c201 (phi_cons c202 (phi_cons c203 (phi_cons c204 (phi_cons c205 (phi_cons c206 (phi_cons c207 (phi_cons c208 (phi_cons c209 (phi_cons c210 phi_nil))))))))))))))))))))))))) Tryz.func184 an184 (fun x=>spec_ServerHear.raw x.1 x.2.1 x.2.2.1 x.2.2.2) (by kernel_rfl) (fun x=>by kernel_rfl) fun x r hb h=>h
def an212:An:=⟨[],[],[],[(1,⟨[.slot 17 (.v .bool)],[(10,16)],[]⟩)],[]⟩
noncomputable def ci212:CInfo:=mkCI (plains 3) [.sl .byte, .v .int, .v .Frame] [.v .Frame, .v .bool] (fun x=>spec_FinishOf.raw x.1 x.2.1 x.2.2) [(true,11),(false,1)] [2,3,5,6,9,10] false
theorem c212:Contract Tryz.prog 212 ci212:=evC 42 (l:=[(119,ci119),(171,ci171),(230,ci230)]) tn_mixed tn_ok (phi_cons c119 (phi_cons c171 (phi_cons c230 phi_nil))) Tryz.func212 an212 (fun x=>spec_FinishOf.raw x.1 x.2.1 x.2.2) (by kernel_rfl) (fun x=>by kernel_rfl) fun x r hb h=>h
def an186:An:=⟨[(11272218,⟨[.own 11 .Note, .box 9 .Client [1,5,8,9,11,12,15,16]],[(173,197)],[1000014]⟩),(13434911,⟨[.own 11 .Note, .box 9 .Client [1,5,8,9,11,12,15,16]],[(206,223)],[]⟩),(14811170,⟨[.own 11 .Note],[(227,242)],[]⟩),(16056356,⟨[.own 10 .Frame, .own 11 .Note, .box 9 .Client [1,5,8,9,11,12,15,16]],[(19,21),(246,279)],[15]⟩),(16646182,⟨[.own 10 .Frame, .own 11 .Note, .box 9 .Client [1,5,8,9,11,12,15,16]],[(255,279)],[1000020,1000019]⟩)],[],[],[(4,⟨[.slot 38 (.v .bool)],[(26,37)],[]⟩),(6,⟨[.slot 56 (.v .bool)],[(42,55)],[]⟩),(15,⟨[.slot 131 (.v .bool)],[(123,130)],[]⟩)],[]⟩
noncomputable def ci186:CInfo:=mkCI (plains 3) [.v .Client, .v .int, .v .Frame] [.v .Client, .sl .Frame, .sl .Note] (fun x=>spec_ClientHear.raw x.1 x.2.1 x.2.2) [(true,41),(false,1),(false,1)] [1,5,8,9,11,12,15,16,41,42] false
theorem c186:Contract Tryz.prog 186 ci186:=evC 283 (l:=[(38,ci38),(66,ci66),(72,ci72),(80,ci80),(119,ci119),(125,ci125),(127,ci127),(128,ci128),(131,ci131),(132,ci132),(169,ci169),(171,ci171),(176,ci176),(205,ci205),(206,ci206),(207,ci207),(212,ci212),(213,ci213),(214,ci214),(215,ci215)]) tn_mixed tn_ok (phi_cons c38 (phi_cons c66 (phi_cons c72 (phi_cons c80 (phi_cons c119 (phi_cons c125 (phi_cons c127 (phi_cons c128 (phi_cons c131 (phi_cons c132 (phi_cons c169 (phi_cons c171 (phi_cons c176 (phi_cons c205 (phi_cons c206 (phi_cons c207 (phi_cons c212 (phi_cons c213 (phi_cons c214 (phi_cons c215 phi_nil)))))))))))))))))))) Tryz.func186 an186 (fun x=>spec_ClientHear.raw x.1 x.2.1 x.2.2) (by kernel_rfl) (fun x=>by kernel_rfl) fun x r hb h=>h
noncomputable def ci141:CInfo:=mkCI [.ptr [1,11,12,13], .plain, .plain, .plain] [.cells .World, .v .int, .v .Addr, .sl .byte] [.sl .Wire, .cells .World] (fun x=>spec_l25Post.raw x.1 x.2.1 x.2.2.1 x.2.2.2) [(false,1)] [0,2,12,13,14] false
theorem c141:Contract Tryz.prog 141 ci141:=evC 95 (l:=[(91,ci91),(130,ci130),(184,ci184),(185,ci185),(186,ci186)]) tn_mixed tn_ok (phi_cons c91 (phi_cons c130 (phi_cons c184 (phi_cons c185 (phi_cons c186 phi_nil))))) Tryz.func141 an0 (fun x=>spec_l25Post.raw x.1 x.2.1 x.2.2.1 x.2.2.2) (by kernel_rfl) (fun x=>by kernel_rfl) fun x r hb h=>h
noncomputable def ci96:CInfo:=mkCI [.ptr [1,11,12,13], .plain, .plain, .plain] [.cells .World, .v .int, .v .Addr, .sl .byte] [.cells .World] (fun x=>spec_l26Post.raw x.1 x.2.1 x.2.2.1 x.2.2.2) [] [1,11,12,13] false
theorem c96:Contract Tryz.prog 96 ci96:=evC 18 (l:=[(90,ci90),(141,ci141)]) tn_mixed tn_ok (phi_cons c90 (phi_cons c141 phi_nil)) Tryz.func96 an0 (fun x=>spec_l26Post.raw x.1 x.2.1 x.2.2.1 x.2.2.2) (by kernel_rfl) (fun x=>by kernel_rfl) fun x r hb h=>h
def an142:An:=⟨[],[],[],[(1,⟨[.slot 2 (.v .bool)],[(3,21)],[]⟩)],[]⟩
noncomputable def ci142:CInfo:=mkCI (plains 1) [.v .Op] [.v .bool] (fun x=>spec_StepOk.raw x) [(false,1)] [] false
theorem c142:Contract Tryz.prog 142 ci142:=evC 22 (l:=[(72,ci72)]) tn_mixed tn_ok (phi_cons c72 phi_nil) Tryz.func142 an142 (fun x=>spec_StepOk.raw x) (by kernel_rfl) (fun x=>by kernel_rfl) fun x r hb h=>h
def an143:An:=⟨[],[],[],[(1,⟨[.slot 27 (.v .bool)],[(8,26)],[]⟩)],[]⟩
noncomputable def ci143:CInfo:=mkCI (plains 3) [.sl .byte, .v .int, .v .int] [.sl .byte, .v .bool] (fun x=>cutO x.1 x.2.1 x.2.2) [(false,1),(false,1)] [0] false
theorem c143:Contract Tryz.prog 143 ci143:=evC 37 tn_mixed tn_ok phi_nil Tryz.func143 an143 (fun x=>spec_Cut.raw x.1 x.2.1 x.2.2) (by kernel_rfl) (fun x=>by kernel_rfl) fun x r hb h=>spec_Cut.ok hb h
def an97:An:=⟨[(3407887,⟨[.own 12 .byte],[(6,7),(13,15),(54,211)],[]⟩),(3801105,⟨[.own 12 .byte],[(6,7),(13,15),(60,211)],[]⟩),(4849685,⟨[.own 12 .byte],[(6,7),(13,15),(76,211)],[]⟩),(5832729,⟨[.own 12 .byte],[(6,7),(13,15),(91,211)],[]⟩),(7012382,⟨[.own 12 .byte],[(6,7),(15,15),(109,211)],[]⟩),(7929888,⟨[.own 12 .byte],[(6,7),(15,15),(123,211)],[]⟩),(10747943,⟨[.own 12 .byte],[(166,211)],[]⟩),(11534377,⟨[.own 12 .byte],[(178,211)],[]⟩),(12320811,⟨[.own 12 .byte],[(190,211)],[]⟩),(12779565,⟨[.own 12 .byte],[(197,211)],[]⟩)],[(0,⟨[.own 8 .bs],[(6,7),(9,15),(21,225)],[]⟩),(3,⟨[.own 12 .byte],[(15,15),(136,163)],[]⟩)],[(5,⟨[.own 8 .bs, .slot 9 (.v .int)],[(6,7),(10,15),(21,225)],[]⟩),(34,⟨[.own 12 .byte, .slot 15 (.v .int)],[(136,163)],[]⟩)],[(8,⟨[.slot 41 (.v .bool)],[(31,40)],[]⟩),(45,⟨[.slot 218 (.v .bool)],[(212,217)],[]⟩)],[]⟩
noncomputable def ci97:CInfo:=mkCI (plains 3) [.sl .Op, .sl .Wire, .sl .bs] [.sl .byte, .v .bool] (fun x=>spec_Cook.raw x.1 x.2.1 x.2.2) [(false,1),(false,1)] [0] false
theorem c97:Contract Tryz.prog 97 ci97:=evC 235 (l:=[(69,ci69),(122,ci122),(142,ci142),(143,ci143),(144,ci144),(145,ci145),(146,ci146)]) tn_mixed tn_ok (phi_cons c69 (phi_cons c122 (phi_cons c142 (phi_cons c143 (phi_cons c144 (phi_cons c145 (phi_cons c146 phi_nil))))))) Tryz.func97 an97 (fun x=>spec_Cook.raw x.1 x.2.1 x.2.2) (by kernel_rfl) (fun x=>by kernel_rfl) fun x r hb h=>h
def an98:An:=⟨[],[],[],[(2,⟨[.slot 17 (.v .bool)],[(9,16)],[]⟩)],[]⟩
noncomputable def ci98:CInfo:=mkCI (plains 1) [.v .Server] [.v .Server, .sl .Note] (fun x=>spec_Boot.raw x) [(true,7),(false,1)] [0,1,2,5,6,7] false
theorem c98:Contract Tryz.prog 98 ci98:=evC 48 (l:=[(77,ci77),(84,ci84),(86,ci86),(114,ci114),(147,ci147),(148,ci148)]) tn_mixed tn_ok (phi_cons c77 (phi_cons c84 (phi_cons c86 (phi_cons c114 (phi_cons c147 (phi_cons c148 phi_nil)))))) Tryz.func98 an98 (fun x=>spec_Boot.raw x) (by kernel_rfl) (fun x=>by kernel_rfl) fun x r hb h=>h
noncomputable def ci99:CInfo:=mkCI (plains 1) [.v .Client] [.v .Client, .sl .Note] (fun x=>spec_Hang.raw x) [(true,41),(false,1)] [1,5,8,9,11,12,15,16,18,20,23,25,28,31,41] false
theorem c99:Contract Tryz.prog 99 ci99:=evC 27 (l:=[(80,ci80),(127,ci127),(149,ci149)]) tn_mixed tn_ok (phi_cons c80 (phi_cons c127 (phi_cons c149 phi_nil))) Tryz.func99 an0 (fun x=>spec_Hang.raw x) (by kernel_rfl) (fun x=>by kernel_rfl) fun x r hb h=>h
def an100:An:=⟨[],[],[],[(4,⟨[.slot 31 (.v .bool)],[(15,30)],[]⟩)],[]⟩
noncomputable def ci100:CInfo:=mkCI (plains 2) [.v .Server, .v .int] [.v .Server, .sl .Note, .v .int] (fun x=>spec_ServerClose.raw x.1 x.2) [(true,7),(false,1),(false,1)] [0,1,2,5,6,7] false
theorem c100:Contract Tryz.prog 100 ci100:=evC 55 (l:=[(72,ci72),(77,ci77),(114,ci114),(150,ci150),(151,ci151)]) tn_mixed tn_ok (phi_cons c72 (phi_cons c77 (phi_cons c114 (phi_cons c150 (phi_cons c151 phi_nil))))) Tryz.func100 an100 (fun x=>spec_ServerClose.raw x.1 x.2) (by kernel_rfl) (fun x=>by kernel_rfl) fun x r hb h=>h
def an152:An:=⟨[(655366,⟨[.own 3 .bs],[(11,18)],[]⟩),(1966089,⟨[.own 3 .bs],[(31,37)],[]⟩)],[],[],[],[]⟩
noncomputable def ci152:CInfo:=mkCI (plains 1) [.v .Chan] [.sl .bs] (fun x=>spec_KeysOf.raw x) [(false,1)] [0] false
theorem c152:Contract Tryz.prog 152 ci152:=evC 39 (l:=[(52,ci52)]) tn_mixed tn_ok (phi_cons c52 phi_nil) Tryz.func152 an152 (fun x=>spec_KeysOf.raw x) (by kernel_rfl) (fun x=>by kernel_rfl) fun x r hb h=>h
noncomputable def ci101:CInfo:=mkCI [.ptr [1,11,12,13], .plain] [.cells .World, .v .Chan] [.v .bool, .cells .World] (fun x=>spec_l26Show.raw x.1 x.2) [(false,1)] [2,12,13,14] false
theorem c101:Contract Tryz.prog 101 ci101:=evC 40 (l:=[(152,ci152)]) tn_mixed tn_ok (phi_cons c152 phi_nil) Tryz.func101 an0 (fun x=>spec_l26Show.raw x.1 x.2) (by kernel_rfl) (fun x=>by kernel_rfl) fun x r hb h=>h
def an102:An:=⟨[(851972,⟨[.box 5 .Dice [0]],[(14,15)],[]⟩)],[],[],[(2,⟨[.slot 13 (.v .bool)],[(8,12)],[]⟩)],[]⟩
noncomputable def ci102:CInfo:=mkCI (plains 2) [.v .Dice, .v .int] [.v .Dice] (fun x=>spec_Wind.raw x.1 x.2) [(true,2)] [0] false
theorem c102:Contract Tryz.prog 102 ci102:=evC 17 (l:=[(72,ci72),(78,ci78),(126,ci126)]) tn_mixed tn_ok (phi_cons c72 (phi_cons c78 (phi_cons c126 phi_nil))) Tryz.func102 an102 (fun x=>spec_Wind.raw x.1 x.2) (by kernel_rfl) (fun x=>by kernel_rfl) fun x r hb h=>h
def an61:An:=⟨[(3276805,⟨[.box 6 .Wire []],[(4,4),(51,70)],[]⟩),(4784138,⟨[.box 0 .World [1,11,12,13]],[(4,4),(7,38),(75,518)],[]⟩),(8126482,⟨[.box 0 .World [1,11,12,13]],[(4,4),(13,38),(126,518)],[]⟩),(10027031,⟨[.box 0 .World [1,11,12,13]],[(4,4),(17,38),(155,518)],[]⟩),(12058653,⟨[.box 0 .World [1,11,12,13]],[(4,4),(21,38),(186,518)],[]⟩),(12910626,⟨[.box 0 .World [1,11,12,13]],[(4,4),(22,38),(199,518)],[]⟩),(14286884,⟨[.box 0 .World [1,11,12,13]],[(4,4),(22,38),(220,518)],[]⟩),(16056361,⟨[.box 0 .World [1,11,12,13]],[(4,4),(26,38),(247,518)],[]⟩),(17170478,⟨[.box 0 .World [1,11,12,13]],[(4,4),(27,38),(264,518)],[]⟩),(17825840,⟨[.box 0 .World [1,11,12,13]],[(4,4),(27,38),(274,518)],[]⟩),(18546738,⟨[.box 0 .World [1,11,12,13]],[(4,4),(27,38),(285,518)],[]⟩),(21430330,⟨[.box 0 .World [1,11,12,13]],[(4,4),(30,38),(329,518)],[]⟩),(23265343,⟨[.box 0 .World [1,11,12,13]],[(4,4),(32,38),(357,518)],[]⟩),(24641605,⟨[.box 0 .World [1,11,12,13]],[(4,4),(34,38),(378,518)],[]⟩),(26476618,⟨[.box 0 .World [1,11,12,13]],[(4,4),(36,38),(406,518)],[]⟩),(32178260,⟨[.box 0 .World [1,11,12,13]],[(493,518)],[]⟩),(32505941,⟨[.box 0 .World [1,11,12,13]],[(497,518)],[]⟩)],[],[],[(3,⟨[.slot 50 (.v .bool)],[(43,49)],[]⟩),(50,⟨[.slot 298 (.v .bool)],[(291,297)],[]⟩),(79,⟨[.slot 4 (.v .bool), .box 0 .World [1,11,12,13]],[(429,449)],[]⟩),(81,⟨[.slot 4 (.v .bool), .box 0 .World [1,11,12,13]],[(452,490)],[]⟩)],[]⟩
noncomputable def ci61:CInfo:=mkCI [.ptr [1,11,12,13], .plain] [.cells .World, .v .Event] [.v .bool, .cells .World] (fun x=>spec_l26Do.raw x.1 x.2) [(false,1)] [2,12,13,14] false
theorem c61:Contract Tryz.prog 61 ci61:=evC 519 (l:=[(55,ci55),(84,ci84),(85,ci85),(86,ci86),(87,ci87),(88,ci88),(89,ci89),(90,ci90),(91,ci91),(92,ci92),(93,ci93),(94,ci94),(95,ci95),(96,ci96),(97,ci97),(98,ci98),(99,ci99),(100,ci100),(101,ci101),(102,ci102)]) tn_mixed tn_ok (phi_cons c55 (phi_cons c84 (phi_cons c85 (phi_cons c86 (phi_cons c87 (phi_cons c88 (phi_cons c89 (phi_cons c90 (phi_cons c91 (phi_cons c92 (phi_cons c93 (phi_cons c94 (phi_cons c95 (phi_cons c96 (phi_cons c97 (phi_cons c98 (phi_cons c99 (phi_cons c100 (phi_cons c101 (phi_cons c102 phi_nil)))))))))))))))))))) Tryz.func61 an61 (fun x=>spec_l26Do.raw x.1 x.2) (by kernel_rfl) (fun x=>by kernel_rfl) fun x r hb h=>h
def an45:An:=⟨[(3276813,⟨[.box 10 .World []],[(51,51)],[1000015]⟩)],[(0,⟨[.own 11 .Event, .box 0 .Cur [], .box 12 .int [], .box 10 .World []],[(13,15),(25,51)],[]⟩)],[(6,⟨[.own 11 .Event, .slot 13 (.v .int), .box 0 .Cur [], .box 12 .int [], .box 10 .World []],[(14,15),(25,51)],[]⟩)],[(11,⟨[.slot 50 (.v .bool), .box 15 .World [1,11,12,13]],[(39,49)],[]⟩)],[]⟩
noncomputable def ci45:CInfo:=mkCI [.ptr [], .plain, .plain] [.cells .Cur, .v .int, .v .bool] [.v .World, .sl .Event, .v .World, .cells .Cur] (fun x=>spec_l26Events.raw x.1 x.2.1 x.2.2) [(true,14),(false,1),(true,14)] [14] false
theorem c45:Contract Tryz.prog 45 ci45:=evC 55 (l:=[(31,ci31),(57,ci57),(58,ci58),(59,ci59),(60,ci60),(61,ci61)]) tn_mixed tn_ok (phi_cons c31 (phi_cons c57 (phi_cons c58 (phi_cons c59 (phi_cons c60 (phi_cons c61 phi_nil)))))) Tryz.func45 an45 (fun x=>spec_l26Events.raw x.1 x.2.1 x.2.2) (by kernel_rfl) (fun x=>by kernel_rfl) fun x r hb h=>h
noncomputable def ci27:CInfo:=mkCI [.ptr [], .plain] [.cells .Cur, .v .int] [.v .World, .cells .Cur] (fun x=>spec_l26World.raw x.1 x.2) [(true,14)] [] false
theorem c27:Contract Tryz.prog 27 ci27:=evC 19 (l:=[(32,ci32),(45,ci45)]) tn_mixed tn_ok (phi_cons c32 (phi_cons c45 phi_nil)) Tryz.func27 an0 (fun x=>spec_l26World.raw x.1 x.2) (by kernel_rfl) (fun x=>by kernel_rfl) fun x r hb h=>h
def an54:An:=⟨[],[(0,⟨[.own 3 .byte],[(5,5),(10,17)],[]⟩)],[(4,⟨[.own 3 .byte, .slot 5 (.v .int)],[(10,17)],[]⟩)],[],[]⟩
noncomputable def ci54:CInfo:=mkCI [.ptr []] [.cells .Cur] [.sl .byte, .cells .Cur] (fun x=>spec_l18Nonce.raw x) [(false,1)] [0] false
theorem c54:Contract Tryz.prog 54 ci54:=evC 19 (l:=[(31,ci31)]) tn_mixed tn_ok (phi_cons c31 phi_nil) Tryz.func54 an54 (fun x=>spec_l18Nonce.raw x) (by kernel_rfl) (fun x=>by kernel_rfl) fun x r hb h=>h
def an158:An:=⟨[],[(0,⟨[.own 3 .byte],[(5,5),(10,17)],[]⟩)],[(4,⟨[.own 3 .byte, .slot 5 (.v .int)],[(10,17)],[]⟩)],[],[]⟩
noncomputable def ci158:CInfo:=mkCI [.ptr []] [.cells .Cur] [.sl .byte, .cells .Cur] (fun x=>spec_l18Key.raw x) [(false,1)] [0] false
theorem c158:Contract Tryz.prog 158 ci158:=evC 19 (l:=[(31,ci31)]) tn_mixed tn_ok (phi_cons c31 phi_nil) Tryz.func158 an158 (fun x=>spec_l18Key.raw x) (by kernel_rfl) (fun x=>by kernel_rfl) fun x r hb h=>h
noncomputable def ci111:CInfo:=mkCI [.ptr []] [.cells .Cur] [.v .Note, .cells .Cur] (fun x=>spec_l18Draw.raw x) [(true,12)] [3,4,7,8] false
theorem c111:Contract Tryz.prog 111 ci111:=evC 36 (l:=[(31,ci31),(54,ci54),(55,ci55),(158,ci158)]) tn_mixed tn_ok (phi_cons c31 (phi_cons c54 (phi_cons c55 (phi_cons c158 phi_nil)))) Tryz.func111 an0 (fun x=>spec_l18Draw.raw x) (by kernel_rfl) (fun x=>by kernel_rfl) fun x r hb h=>h
noncomputable def ci159:CInfo:=mkCI [.ptr []] [.cells .Cur] [.v .Addr, .cells .Cur] (fun x=>spec_l6Draw.raw x) [(true,2)] [] false
theorem c159:Contract Tryz.prog 159 ci159:=evC 17 (l:=[(31,ci31),(32,ci32),(47,ci47),(55,ci55)]) tn_mixed tn_ok (phi_cons c31 (phi_cons c32 (phi_cons c47 (phi_cons c55 phi_nil)))) Tryz.func159 an0 (fun x=>spec_l6Draw.raw x) (by kernel_rfl) (fun x=>by kernel_rfl) fun x r hb h=>h
noncomputable def ci160:CInfo:=mkCI [.ptr []] [.cells .Cur] [.v .int, .cells .Cur] (fun x=>spec_l1Odd.raw x) [(false,1)] [] false
theorem c160:Contract Tryz.prog 160 ci160:=evC 6 (l:=[(35,ci35)]) tn_mixed tn_ok (phi_cons c35 phi_nil) Tryz.func160 an0 (fun x=>spec_l1Odd.raw x) (by kernel_rfl) (fun x=>by kernel_rfl) fun x r hb h=>h
def an112:An:=⟨[(524293,⟨[.box 0 .Cur [], .box 3 .Addr []],[(10,18)],[]⟩),(851975,⟨[.box 0 .Cur [], .box 3 .Addr []],[(15,18)],[]⟩)],[],[],[],[]⟩
noncomputable def ci112:CInfo:=mkCI [.ptr []] [.cells .Cur] [.v .Addr, .cells .Cur] (fun x=>spec_l6Any.raw x) [(true,2)] [] false
theorem c112:Contract Tryz.prog 112 ci112:=evC 20 (l:=[(31,ci31),(35,ci35),(159,ci159),(160,ci160)]) tn_mixed tn_ok (phi_cons c31 (phi_cons c35 (phi_cons c159 (phi_cons c160 phi_nil)))) Tryz.func112 an112 (fun x=>spec_l6Any.raw x) (by kernel_rfl) (fun x=>by kernel_rfl) fun x r hb h=>h
def an75:An:=⟨[(524293,⟨[.box 0 .Cur [], .box 3 .Note [3,4,7,8]],[(10,80)],[]⟩),(917511,⟨[.box 0 .Cur [], .box 3 .Note [3,4,7,8]],[(16,80)],[]⟩),(1310729,⟨[.box 0 .Cur [], .box 3 .Note [3,4,7,8]],[(22,80)],[]⟩),(1703947,⟨[.box 0 .Cur [], .box 3 .Note [3,4,7,8]],[(28,80)],[]⟩),(2228237,⟨[.box 0 .Cur [], .box 3 .Note [3,4,7,8]],[(36,80)],[]⟩),(2752527,⟨[.box 0 .Cur [], .box 3 .Note [3,4,7,8]],[(44,80)],[]⟩),(3145745,⟨[.box 0 .Cur [], .box 3 .Note [3,4,7,8]],[(50,80)],[]⟩),(3538963,⟨[.box 0 .Cur [], .box 3 .Note [3,4,7,8]],[(56,80)],[]⟩),(4063253,⟨[.box 0 .Cur [], .box 3 .Note [3,4,7,8]],[(64,80)],[]⟩),(4587543,⟨[.box 0 .Cur [], .box 3 .Note [3,4,7,8]],[(72,80)],[]⟩),(4915225,⟨[.box 0 .Cur [], .box 3 .Note [3,4,7,8]],[(77,80)],[]⟩)],[],[],[],[]⟩
noncomputable def ci75:CInfo:=mkCI [.ptr []] [.cells .Cur] [.v .Note, .cells .Cur] (fun x=>spec_l18Any.raw x) [(true,12)] [3,4,7,8] false
theorem c75:Contract Tryz.prog 75 ci75:=evC 82 (l:=[(31,ci31),(35,ci35),(49,ci49),(111,ci111),(112,ci112)]) tn_mixed tn_ok (phi_cons c31 (phi_cons c35 (phi_cons c49 (phi_cons c111 (phi_cons c112 phi_nil))))) Tryz.func75 an75 (fun x=>spec_l18Any.raw x) (by kernel_rfl) (fun x=>by kernel_rfl) fun x r hb h=>h
def an53:An:=⟨[],[(0,⟨[.own 5 .Note, .box 0 .Cur []],[(6,6),(12,20)],[]⟩)],[(3,⟨[.own 5 .Note, .slot 6 (.v .int), .box 0 .Cur []],[(12,20)],[]⟩)],[],[]⟩
noncomputable def ci53:CInfo:=mkCI [.ptr [], .plain] [.cells .Cur, .v .int] [.sl .Note, .cells .Cur] (fun x=>spec_l18List.raw x.1 x.2) [(false,1)] [0] false
theorem c53:Contract Tryz.prog 53 ci53:=evC 22 (l:=[(31,ci31),(75,ci75)]) tn_mixed tn_ok (phi_cons c31 (phi_cons c75 phi_nil)) Tryz.func53 an53 (fun x=>spec_l18List.raw x.1 x.2) (by kernel_rfl) (fun x=>by kernel_rfl) fun x r hb h=>h
def an39:An:=⟨[(1376262,⟨[.own 5 .Note, .box 0 .Cur []],[(6,6),(22,34)],[]⟩),(1835016,⟨[.slot 6 (.v .int)],[],[]⟩),(3473424,⟨[.own 5 .Note, .box 0 .Cur []],[(9,9),(55,191)],[]⟩),(4128786,⟨[.own 5 .Note, .box 0 .Cur []],[(9,9),(65,191)],[]⟩),(4915220,⟨[.own 5 .Note, .box 0 .Cur []],[(9,9),(77,191)],[]⟩),(5701654,⟨[.own 5 .Note, .box 0 .Cur []],[(9,9),(89,191)],[]⟩),(6488088,⟨[.box 0 .Cur [], .own 5 .Note],[(9,9),(101,191)],[]⟩),(7012378,⟨[.own 5 .Note, .box 0 .Cur []],[(9,9),(109,191)],[]⟩),(7798812,⟨[.own 5 .Note, .box 0 .Cur []],[(9,9),(121,191)],[]⟩),(8585246,⟨[.own 5 .Note, .box 0 .Cur []],[(9,9),(133,191)],[]⟩),(9371680,⟨[.box 0 .Cur [], .own 5 .Note],[(9,9),(145,191)],[]⟩),(9961506,⟨[.box 0 .Cur [], .own 5 .Note],[(9,9),(154,191)],[]⟩),(10551332,⟨[.own 5 .Note],[(9,9),(163,191)],[]⟩),(11337766,⟨[.own 5 .Note],[(9,9),(175,191)],[]⟩)],[],[],[(9,⟨[.slot 41 (.v .bool), .box 0 .Cur []],[(35,40)],[]⟩)],[(17,[5])]⟩
noncomputable def ci39:CInfo:=mkCI [.ptr [], .plain] [.cells .Cur, .v .int] [.sl .Note, .cells .Cur] (fun x=>spec_l27Notes.raw x.1 x.2) [(false,1)] [0] false
theorem c39:Contract Tryz.prog 39 ci39:=evC 193 (l:=[(27,ci27),(31,ci31),(32,ci32),(34,ci34),(51,ci51),(53,ci53),(54,ci54),(55,ci55)]) tn_mixed tn_ok (phi_cons c27 (phi_cons c31 (phi_cons c32 (phi_cons c34 (phi_cons c51 (phi_cons c53 (phi_cons c54 (phi_cons c55 phi_nil)))))))) Tryz.func39 an39 (fun x=>spec_l27Notes.raw x.1 x.2) (by kernel_rfl) (fun x=>by kernel_rfl) fun x r hb h=>h
noncomputable def ci12:CInfo:=mkCI (plains 1) [.sl .byte] [.sl .Note] (fun x=>spec_DrawLuckyAt.raw x) [(false,1)] [0] false
theorem c12:Contract Tryz.prog 12 ci12:=evC 8 (l:=[(26,ci26),(39,ci39)]) tn_mixed tn_ok (phi_cons c26 (phi_cons c39 phi_nil)) Tryz.func12 an0 (fun x=>spec_DrawLuckyAt.raw x) (by kernel_rfl) (fun x=>by kernel_rfl) fun x r hb h=>h
noncomputable def ci29:CInfo:=mkCI (plains 2) [.sl .byte, .sl .byte] [.v .bool] (fun x=>sameO x.1 x.2) [(false,1)] [] false
theorem c29:Contract Tryz.prog 29 ci29:=evC 10 tn_mixed tn_ok phi_nil Tryz.func29 an0 (fun x=>bytes_Equal.raw x.1 x.2) (by kernel_rfl) (fun x=>by kernel_rfl) fun x r hb h=>bytes_Equal.ok hb h
def an40:An:=⟨[],[(0,⟨[],[(4,4),(6,6),(11,36)],[]⟩)],[(2,⟨[.slot 11 (.v .int)],[(4,4),(6,6),(12,36)],[]⟩)],[(4,⟨[.slot 35 (.v .bool)],[(15,34)],[]⟩)],[]⟩
noncomputable def ci40:CInfo:=mkCI (plains 2) [.sl .Note, .v .int] [.v .bool] (fun x=>rolledAtO x.1 x.2) [(false,1)] [] false
theorem c40:Contract Tryz.prog 40 ci40:=evC 37 (l:=[(29,ci29)]) tn_mixed tn_ok (phi_cons c29 phi_nil) Tryz.func40 an40 (fun x=>impl_rolledAt.raw x.1 x.2) (by kernel_rfl) (fun x=>by kernel_rfl) fun x r hb h=>impl_rolledAt.ok hb h
def an8:An:=⟨[],[(0,⟨[],[(4,4),(6,6),(9,22)],[]⟩)],[(2,⟨[.slot 9 (.v .int)],[(4,4),(6,6),(10,22)],[]⟩)],[(4,⟨[.slot 21 (.v .bool)],[(13,20)],[]⟩)],[]⟩
noncomputable def ci8:CInfo:=mkCI (plains 2) [.sl .Note, .sl .byte] [.v .bool] (fun x=>shownO x.1 x.2) [(false,1)] [] false
theorem c8:Contract Tryz.prog 8 ci8:=evC 23 (l:=[(29,ci29)]) tn_mixed tn_ok (phi_cons c29 phi_nil) Tryz.func8 an8 (fun x=>impl_Shown.raw x.1 x.2) (by kernel_rfl) (fun x=>by kernel_rfl) fun x r hb h=>impl_Shown.ok hb h
def an41:An:=⟨[],[(0,⟨[],[(4,4),(6,6),(28,55)],[]⟩)],[(4,⟨[.slot 28 (.v .int)],[(4,4),(6,6),(29,55)],[]⟩)],[(1,⟨[.slot 23 (.v .bool)],[(7,22)],[]⟩),(6,⟨[.slot 54 (.v .bool)],[(32,53)],[]⟩)],[]⟩
noncomputable def ci41:CInfo:=mkCI (plains 2) [.sl .Note, .v .int] [.v .bool] (fun x=>forgedAtO x.1 x.2) [(false,1)] [] false
theorem c41:Contract Tryz.prog 41 ci41:=evC 56 (l:=[(8,ci8),(29,ci29)]) tn_mixed tn_ok (phi_cons c8 (phi_cons c29 phi_nil)) Tryz.func41 an41 (fun x=>impl_forgedAt.raw x.1 x.2) (by kernel_rfl) (fun x=>by kernel_rfl) fun x r hb h=>impl_forgedAt.ok hb h
def an56:An:=⟨[],[],[],[(1,⟨[.slot 5 (.v .bool), .slot 6 (.v .bool)],[(7,22)],[]⟩),(2,⟨[.slot 34 (.v .bool)],[(23,33)],[]⟩),(4,⟨[.slot 48 (.v .bool)],[(35,47)],[]⟩),(5,⟨[.slot 4 (.v .bool)],[(49,61)],[]⟩),(6,⟨[.slot 4 (.v .bool)],[(62,69)],[]⟩)],[]⟩
noncomputable def ci56:CInfo:=mkCI (plains 2) [.v .Note, .v .Note] [.v .bool] (fun x=>differO x.1 x.2) [(false,1)] [] false
theorem c56:Contract Tryz.prog 56 ci56:=evC 70 (l:=[(29,ci29)]) tn_mixed tn_ok (phi_cons c29 phi_nil) Tryz.func56 an56 (fun x=>impl_keysDiffer.raw x.1 x.2) (by kernel_rfl) (fun x=>by kernel_rfl) fun x r hb h=>impl_keysDiffer.ok hb h
def an42:An:=⟨[],[(0,⟨[],[(4,4),(6,6),(11,31)],[]⟩)],[(2,⟨[.slot 11 (.v .int)],[(4,4),(6,6),(12,31)],[]⟩)],[(4,⟨[.slot 30 (.v .bool)],[(15,29)],[]⟩)],[]⟩
noncomputable def ci42:CInfo:=mkCI (plains 2) [.sl .Note, .v .int] [.v .bool] (fun x=>twiceAtO x.1 x.2) [(false,1)] [] false
theorem c42:Contract Tryz.prog 42 ci42:=evC 32 (l:=[(29,ci29),(56,ci56)]) tn_mixed tn_ok (phi_cons c29 (phi_cons c56 phi_nil)) Tryz.func42 an42 (fun x=>impl_keyTwiceAt.raw x.1 x.2) (by kernel_rfl) (fun x=>by kernel_rfl) fun x r hb h=>impl_keyTwiceAt.ok hb h
def an13:An:=⟨[],[(0,⟨[],[(2,3),(6,24)],[]⟩)],[(2,⟨[.slot 6 (.v .int)],[(2,3),(7,24)],[]⟩)],[(4,⟨[.slot 21 (.v .bool)],[(9,20)],[]⟩)],[]⟩
noncomputable def ci13:CInfo:=mkCI (plains 1) [.sl .Note] [.v .int] (fun x=>luckyAtO x) [(false,1)] [] false
theorem c13:Contract Tryz.prog 13 ci13:=evC 25 (l:=[(40,ci40),(41,ci41),(42,ci42)]) tn_mixed tn_ok (phi_cons c40 (phi_cons c41 (phi_cons c42 phi_nil))) Tryz.func13 an13 (fun x=>impl_LuckyAt.raw x) (by kernel_rfl) (fun x=>by kernel_rfl) fun x r hb h=>impl_LuckyAt.ok hb h
noncomputable def ci14:CInfo:=mkCI (plains 1) [.sl .byte] [.sl .Note] (fun x=>spec_DrawRolled.raw x) [(false,1)] [0] false
theorem c14:Contract Tryz.prog 14 ci14:=evC 8 (l:=[(26,ci26),(39,ci39)]) tn_mixed tn_ok (phi_cons c26 (phi_cons c39 phi_nil)) Tryz.func14 an0 (fun x=>spec_DrawRolled.raw x) (by kernel_rfl) (fun x=>by kernel_rfl) fun x r hb h=>h
noncomputable def ci15:CInfo:=mkCI (plains 1) [.sl .byte] [.sl .Note] (fun x=>spec_DrawForged.raw x) [(false,1)] [0] false
theorem c15:Contract Tryz.prog 15 ci15:=evC 8 (l:=[(26,ci26),(39,ci39)]) tn_mixed tn_ok (phi_cons c26 (phi_cons c39 phi_nil)) Tryz.func15 an0 (fun x=>spec_DrawForged.raw x) (by kernel_rfl) (fun x=>by kernel_rfl) fun x r hb h=>h
noncomputable def ci16:CInfo:=mkCI (plains 1) [.sl .byte] [.sl .Note] (fun x=>spec_DrawKeyTwice.raw x) [(false,1)] [0] false
theorem c16:Contract Tryz.prog 16 ci16:=evC 8 (l:=[(26,ci26),(39,ci39)]) tn_mixed tn_ok (phi_cons c26 (phi_cons c39 phi_nil)) Tryz.func16 an0 (fun x=>spec_DrawKeyTwice.raw x) (by kernel_rfl) (fun x=>by kernel_rfl) fun x r hb h=>h
def an19:An:=⟨[],[(0,⟨[],[(2,42)],[]⟩),(2,⟨[],[(2,2),(4,4),(11,42)],[]⟩)],[(2,⟨[.slot 3 (.v .int)],[(2,2),(4,42)],[]⟩),(5,⟨[.slot 4 (.v .int)],[(2,2),(11,42)],[]⟩)],[(5,⟨[.slot 21 (.v .bool)],[(11,20)],[]⟩),(7,⟨[.slot 42 (.v .bool)],[(24,41)],[]⟩)],[]⟩
noncomputable def ci19:CInfo:=mkCI (plains 1) [.sl .Note] [.v .bool] (fun x=>rolledO x) [(false,1)] [] false
theorem c19:Contract Tryz.prog 19 ci19:=evC 43 (l:=[(38,ci38)]) tn_mixed tn_ok (phi_cons c38 phi_nil) Tryz.func19 an19 (fun x=>spec_Rolled.raw x) (by kernel_rfl) (fun x=>by kernel_rfl) fun x r hb h=>spec_Rolled.ok hb h
def an43:An:=⟨[],[(0,⟨[],[(4,26)],[]⟩)],[(2,⟨[.slot 5 (.v .int)],[(4,4),(6,26)],[]⟩)],[(4,⟨[.slot 26 (.v .bool)],[(12,25)],[]⟩)],[]⟩
noncomputable def ci43:CInfo:=mkCI (plains 2) [.sl .Note, .sl .byte] [.v .bool] (fun x=>shownO x.1 x.2) [(false,1)] [] false
theorem c43:Contract Tryz.prog 43 ci43:=evC 27 (l:=[(38,ci38)]) tn_mixed tn_ok (phi_cons c38 phi_nil) Tryz.func43 an43 (fun x=>spec_Shown.raw x.1 x.2) (by kernel_rfl) (fun x=>by kernel_rfl) fun x r hb h=>spec_Shown.ok hb h
def an21:An:=⟨[],[(0,⟨[],[(2,71)],[]⟩),(1,⟨[],[(2,2),(4,5),(12,71)],[]⟩),(2,⟨[.slot 4 (.v .bool)],[(5,5),(29,69)],[]⟩)],[(2,⟨[.slot 3 (.v .int)],[(2,2),(4,71)],[]⟩),(7,⟨[.slot 4 (.v .bool), .slot 5 (.v .int)],[(29,69)],[]⟩)],[(4,⟨[.slot 28 (.v .bool)],[(12,27)],[]⟩),(7,⟨[.slot 35 (.v .bool)],[(29,34)],[]⟩),(9,⟨[.slot 4 (.v .bool)],[(38,69)],[]⟩)],[]⟩
noncomputable def ci21:CInfo:=mkCI (plains 1) [.sl .Note] [.v .bool] (fun x=>forgedO x) [(false,1)] [] false
theorem c21:Contract Tryz.prog 21 ci21:=evC 72 (l:=[(38,ci38),(43,ci43)]) tn_mixed tn_ok (phi_cons c38 (phi_cons c43 phi_nil)) Tryz.func21 an21 (fun x=>spec_Forged.raw x) (by kernel_rfl) (fun x=>by kernel_rfl) fun x r hb h=>spec_Forged.ok hb h
def an44:An:=⟨[],[],[],[(1,⟨[.slot 2 (.v .bool)],[(3,10)],[]⟩)],[]⟩
noncomputable def ci44:CInfo:=mkCI (plains 1) [.v .Note] [.v .bool] (fun x=>some (isUp x)) [(false,1)] [] false
theorem c44:Contract Tryz.prog 44 ci44:=evC 11 tn_mixed tn_ok phi_nil Tryz.func44 an44 (fun x=>spec_l27Up.raw x) (by kernel_rfl) (fun x=>by kernel_rfl) fun x r hb h=>(spec_l27Up.ok hb).trans h
def an37:An:=⟨[],[],[],[(1,⟨[.slot 2 (.v .bool)],[(3,9)],[]⟩)],[]⟩
noncomputable def ci37:CInfo:=mkCI (plains 1) [.v .Note] [.v .bool] (fun x=>some (isKey x)) [(false,1)] [] false
theorem c37:Contract Tryz.prog 37 ci37:=evC 10 (l:=[(44,ci44)]) tn_mixed tn_ok (phi_cons c44 phi_nil) Tryz.func37 an37 (fun x=>spec_l27Key.raw x) (by kernel_rfl) (fun x=>by kernel_rfl) fun x r hb h=>(spec_l27Key.ok hb).trans h
def an23:An:=⟨[],[(0,⟨[],[(2,106)],[]⟩),(2,⟨[],[(2,2),(4,4),(11,106)],[]⟩),(3,⟨[],[(2,2),(16,106)],[]⟩)],[(2,⟨[.slot 3 (.v .int)],[(2,2),(4,106)],[]⟩),(5,⟨[.slot 4 (.v .int)],[(2,2),(11,106)],[]⟩)],[(8,⟨[.slot 66 (.v .bool)],[(28,65)],[]⟩),(10,⟨[.slot 92 (.v .bool)],[(67,91)],[]⟩),(12,⟨[.slot 106 (.v .bool)],[(93,105)],[]⟩)],[]⟩
noncomputable def ci23:CInfo:=mkCI (plains 1) [.sl .Note] [.v .bool] (fun x=>twiceO x) [(false,1)] [] false
theorem c23:Contract Tryz.prog 23 ci23:=evC 107 (l:=[(37,ci37),(38,ci38),(44,ci44)]) tn_mixed tn_ok (phi_cons c37 (phi_cons c38 (phi_cons c44 phi_nil))) Tryz.func23 an23 (fun x=>spec_KeyTwice.raw x) (by kernel_rfl) (fun x=>by kernel_rfl) fun x r hb h=>spec_KeyTwice.ok hb h
def an7:An:=⟨[],[],[],[(1,⟨[.slot 2 (.v .bool)],[(3,12)],[]⟩)],[]⟩
noncomputable def ci7:CInfo:=mkCI (plains 1) [.sl .Note] [.v .bool] (fun x=>luckyO x) [(false,1)] [] false
theorem c7:Contract Tryz.prog 7 ci7:=evC 13 (l:=[(19,ci19),(21,ci21),(23,ci23)]) tn_mixed tn_ok (phi_cons c19 (phi_cons c21 (phi_cons c23 phi_nil))) Tryz.func7 an7 (fun x=>spec_Lucky.raw x) (by kernel_rfl) (fun x=>by kernel_rfl) fun x r hb h=>spec_Lucky.ok hb h
def an17:An:=⟨[],[(0,⟨[],[(2,3),(7,17)],[]⟩)],[(4,⟨[.slot 3 (.v .int)],[(2,2),(7,17)],[]⟩)],[],[]⟩
noncomputable def ci17:CInfo:=mkCI (plains 1) [.sl .Note] [.v .int] (fun x=>luckyAtO x) [(false,1)] [] false
theorem c17:Contract Tryz.prog 17 ci17:=evC 20 (l:=[(7,ci7)]) tn_mixed tn_ok (phi_cons c7 phi_nil) Tryz.func17 an17 (fun x=>spec_LuckyAt.raw x) (by kernel_rfl) (fun x=>by kernel_rfl) fun x r hb h=>spec_LuckyAt.ok hb h
def an18:An:=⟨[],[(0,⟨[],[(2,3),(6,12)],[]⟩)],[(2,⟨[.slot 6 (.v .int)],[(2,3),(7,12)],[]⟩)],[],[]⟩
noncomputable def ci18:CInfo:=mkCI (plains 1) [.sl .Note] [.v .bool] (fun x=>rolledO x) [(false,1)] [] false
theorem c18:Contract Tryz.prog 18 ci18:=evC 13 (l:=[(40,ci40)]) tn_mixed tn_ok (phi_cons c40 phi_nil) Tryz.func18 an18 (fun x=>impl_Rolled.raw x) (by kernel_rfl) (fun x=>by kernel_rfl) fun x r hb h=>impl_Rolled.ok hb h
def an20:An:=⟨[],[(0,⟨[],[(2,3),(6,12)],[]⟩)],[(2,⟨[.slot 6 (.v .int)],[(2,3),(7,12)],[]⟩)],[],[]⟩
noncomputable def ci20:CInfo:=mkCI (plains 1) [.sl .Note] [.v .bool] (fun x=>forgedO x) [(false,1)] [] false
theorem c20:Contract Tryz.prog 20 ci20:=evC 13 (l:=[(41,ci41)]) tn_mixed tn_ok (phi_cons c41 phi_nil) Tryz.func20 an20 (fun x=>impl_Forged.raw x) (by kernel_rfl) (fun x=>by kernel_rfl) fun x r hb h=>impl_Forged.ok hb h
def an22:An:=⟨[],[(0,⟨[],[(2,3),(6,12)],[]⟩)],[(2,⟨[.slot 6 (.v .int)],[(2,3),(7,12)],[]⟩)],[],[]⟩
noncomputable def ci22:CInfo:=mkCI (plains 1) [.sl .Note] [.v .bool] (fun x=>twiceO x) [(false,1)] [] false
theorem c22:Contract Tryz.prog 22 ci22:=evC 13 (l:=[(42,ci42)]) tn_mixed tn_ok (phi_cons c42 phi_nil) Tryz.func22 an22 (fun x=>impl_KeyTwice.raw x) (by kernel_rfl) (fun x=>by kernel_rfl) fun x r hb h=>impl_KeyTwice.ok hb h
def an24:An:=⟨[],[],[],[(1,⟨[.slot 2 (.v .bool)],[(3,12)],[]⟩)],[]⟩
noncomputable def ci24:CInfo:=mkCI (plains 1) [.sl .Note] [.v .bool] (fun x=>luckyO x) [(false,1)] [] false
theorem c24:Contract Tryz.prog 24 ci24:=evC 13 (l:=[(18,ci18),(20,ci20),(22,ci22)]) tn_mixed tn_ok (phi_cons c18 (phi_cons c20 (phi_cons c22 phi_nil))) Tryz.func24 an24 (fun x=>impl_Lucky.raw x) (by kernel_rfl) (fun x=>by kernel_rfl) fun x r hb h=>impl_Lucky.ok hb h
noncomputable def ci25:CInfo:=mkCI (plains 2) [.sl .byte, .v .int] [.v .int] (fun x=>laws_at.raw x.1 x.2) [(false,1)] [] false
theorem c25:Contract Tryz.prog 25 ci25:=evC 21 tn_mixed tn_ok phi_nil Tryz.func25 an0 (fun x=>laws_at.raw x.1 x.2) (by kernel_rfl) (fun x=>by kernel_rfl) fun x r hb h=>h
def an4:An:=⟨[(3604495,⟨[.slot 8 (.v .int)],[(56,65)],[]⟩)],[],[],[(8,⟨[.slot 45 (.v .bool)],[(21,44)],[3,5,6,7]⟩),(15,⟨[.slot 2 (.v .bool)],[(66,85)],[]⟩)],[]⟩
noncomputable def ci4:CInfo:=mkCI (plains 1) [.sl .byte] [.v .bool] (fun x=>some ((fun (a0:List UInt8)=>always a0) x)) [(false,1)] [] false
theorem c4:Contract Tryz.prog 4 ci4:=evC 86 (l:=[(5,ci5),(12,ci12),(13,ci13),(14,ci14),(15,ci15),(16,ci16),(17,ci17),(18,ci18),(19,ci19),(20,ci20),(21,ci21),(22,ci22),(23,ci23),(24,ci24),(25,ci25)]) tn_mixed tn_ok (phi_cons c5 (phi_cons c12 (phi_cons c13 (phi_cons c14 (phi_cons c15 (phi_cons c16 (phi_cons c17 (phi_cons c18 (phi_cons c19 (phi_cons c20 (phi_cons c21 (phi_cons c22 (phi_cons c23 (phi_cons c24 (phi_cons c25 phi_nil))))))))))))))) Tryz.func4 an4 (fun x=>laws_FnLucks.raw x) (by kernel_rfl) (fun x=>by kernel_rfl) fun x r hb h=>(laws_FnLucks.ok hb).trans h
end Go.D

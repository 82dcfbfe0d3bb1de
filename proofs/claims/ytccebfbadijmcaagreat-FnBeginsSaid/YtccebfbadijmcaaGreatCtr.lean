/-
  The functions of the program: each computes what is said of it.
-/
import Derived.Test.YtccebfbadijmcaaGreatN7
import Derived.Test.YtccebfbadijmcaaGreatProg
import Derived.KernelRfl
namespace Go.D
open Go.Proofs

def tnT : TypeId → Option TN := fun t => look t [(3, .int), (5, .byte), (22, .bs), (69, .Client), (73, .Note), (93, .Sess), (114, .Wire), (132, .Credit), (158, .Cand)]
def an0 : An := ⟨[], [], [], [], []⟩
theorem tn_mixed : Tryz.prog.follows .mixedOrders = true := by kernel_rfl
theorem tn_ok : tnAll Tryz.prog [(3, .int), (5, .byte), (22, .bs), (69, .Client), (73, .Note), (93, .Sess), (114, .Wire), (132, .Credit), (158, .Cand)] = true := by kernel_rfl

noncomputable def ci4 : CInfo := mkCI (plains 1) [.sl .byte] [.v .bool] (fun x => some (big x)) [(false, 1)] [] false
theorem c4 : Contract Tryz.prog 4 ci4 := evC 6 tn_mixed tn_ok phi_nil Tryz.func4 an0 (fun x => laws_big.raw x) (by kernel_rfl) (fun x => by kernel_rfl) fun x r hb h => (laws_big.ok hb).trans h

def an16 : An := ⟨[], [(0, ⟨[.slot 3 (.v .int)], [(4, 4), (8, 27)], []⟩)], [(3, ⟨[.slot 3 (.v .int), .slot 4 (.v .int)], [(8, 27)], []⟩)], [(3, ⟨[.slot 15 (.v .bool)], [(8, 14)], []⟩)], []⟩
noncomputable def ci16 : CInfo := mkCI (plains 1) [.sl .byte] [.cells .Cur] (fun x => spec_l1New.raw x) [(false, 1)] [] true
theorem c16 : Contract Tryz.prog 16 ci16 := evP 32 tn_mixed tn_ok phi_nil Tryz.func16 an16 (fun x => spec_l1New.raw x) (by kernel_rfl) (fun x => by kernel_rfl) fun x r hb h => h

def an58 : An := ⟨[(2228229, ⟨[.slot 3 (.v .int), .box 0 .Cur []], [(35, 56)], []⟩)], [], [], [], []⟩
noncomputable def ci58 : CInfo := mkCI [.ptr []] [.cells .Cur] [.v .int, .cells .Cur] (fun x => spec_l1Byte.raw x) [(false, 1)] [] false
theorem c58 : Contract Tryz.prog 58 ci58 := evC 58 tn_mixed tn_ok phi_nil Tryz.func58 an58 (fun x => spec_l1Byte.raw x) (by kernel_rfl) (fun x => by kernel_rfl) fun x r hb h => h

noncomputable def ci59 : CInfo := mkCI [.ptr [], .plain] [.cells .Cur, .v .int] [.v .int, .cells .Cur] (fun x => spec_l1Below.raw x.1 x.2) [(false, 1)] [] false
theorem c59 : Contract Tryz.prog 59 ci59 := evC 31 (l := [(58, ci58)]) tn_mixed tn_ok (phi_cons c58 phi_nil) Tryz.func59 an0 (fun x => spec_l1Below.raw x.1 x.2) (by kernel_rfl) (fun x => by kernel_rfl) fun x r hb h => h

noncomputable def ci18 : CInfo := mkCI [.ptr [], .plain] [.cells .Cur, .sl .int] [.v .int, .cells .Cur] (fun x => spec_l1Int.raw x.1 x.2) [(false, 1)] [] false
theorem c18 : Contract Tryz.prog 18 ci18 := evC 12 (l := [(59, ci59)]) tn_mixed tn_ok (phi_cons c59 phi_nil) Tryz.func18 an0 (fun x => spec_l1Int.raw x.1 x.2) (by kernel_rfl) (fun x => by kernel_rfl) fun x r hb h => h

def an17 : An := ⟨[], [(0, ⟨[.own 5 .byte, .box 0 .Cur []], [(6, 6), (8, 18)], []⟩)], [(3, ⟨[.own 5 .byte, .slot 6 (.v .int), .box 0 .Cur []], [(8, 18)], []⟩)], [], []⟩
noncomputable def ci17 : CInfo := mkCI [.ptr [], .plain] [.cells .Cur, .v .int] [.sl .byte, .cells .Cur] (fun x => spec_l1Bytes.raw x.1 x.2) [(false, 1)] [0] false
theorem c17 : Contract Tryz.prog 17 ci17 := evC 20 (l := [(58, ci58)]) tn_mixed tn_ok (phi_cons c58 phi_nil) Tryz.func17 an17 (fun x => spec_l1Bytes.raw x.1 x.2) (by kernel_rfl) (fun x => by kernel_rfl) fun x r hb h => h

noncomputable def ci19 : CInfo := mkCI [.ptr []] [.cells .Cur] [.sl .byte, .cells .Cur] (fun x => spec_l12Psk.raw x) [(false, 1)] [0] false
theorem c19 : Contract Tryz.prog 19 ci19 := evC 8 (l := [(17, ci17), (18, ci18)]) tn_mixed tn_ok (phi_cons c17 (phi_cons c18 phi_nil)) Tryz.func19 an0 (fun x => spec_l12Psk.raw x) (by kernel_rfl) (fun x => by kernel_rfl) fun x r hb h => h

noncomputable def ci5 : CInfo := mkCI (plains 1) [.sl .byte] [.sl .byte, .sl .byte, .sl .byte, .v .int] (fun x => spec_DrawWorldNew.raw x) [(false, 1), (false, 1), (false, 1), (false, 1)] [0, 1, 2] false
theorem c5 : Contract Tryz.prog 5 ci5 := evC 27 (l := [(16, ci16), (17, ci17), (18, ci18), (19, ci19)]) tn_mixed tn_ok (phi_cons c16 (phi_cons c17 (phi_cons c18 (phi_cons c19 phi_nil)))) Tryz.func5 an0 (fun x => spec_DrawWorldNew.raw x) (by kernel_rfl) (fun x => by kernel_rfl) fun x r hb h => h

noncomputable def ci27 : CInfo := mkCI (plains 1) [.sl .byte] [.sl .byte] (fun x => cloneO x) [(false, 1)] [0] false
theorem c27 : Contract Tryz.prog 27 ci27 := evC 6 tn_mixed tn_ok phi_nil Tryz.func27 an0 (fun x => impl_clone.raw x) (by kernel_rfl) (fun x => by kernel_rfl) fun x r hb h => impl_clone.ok hb h

def an46 : An := ⟨[], [], [], [(1, ⟨[.slot 6 (.v .bool)], [(7, 14)], []⟩)], []⟩
noncomputable def ci46 : CInfo := mkCI (plains 3) [.v .int, .v .int, .v .int] [.v .bool] (fun x => some (inR x.1 x.2.1 x.2.2)) [(false, 1)] [] false
theorem c46 : Contract Tryz.prog 46 ci46 := evC 15 tn_mixed tn_ok phi_nil Tryz.func46 an46 (fun x => impl_within.raw x.1 x.2.1 x.2.2) (by kernel_rfl) (fun x => by kernel_rfl) fun x r hb h => (impl_within.ok hb).trans h

def an47 : An := ⟨[], [], [], [(1, ⟨[.slot 2 (.v .bool)], [(3, 11)], []⟩)], []⟩
noncomputable def ci47 : CInfo := mkCI (plains 1) [.v .Dice] [.v .bool] (fun x => some (diceOk x)) [(false, 1)] [] false
theorem c47 : Contract Tryz.prog 47 ci47 := evC 12 (l := [(46, ci46)]) tn_mixed tn_ok (phi_cons c46 phi_nil) Tryz.func47 an47 (fun x => impl_DiceOk.raw x) (by kernel_rfl) (fun x => by kernel_rfl) fun x r hb h => (impl_DiceOk.ok hb).trans h

def an69 : An := ⟨[], [(0, ⟨[.own 7 .byte], [(8, 8), (21, 33)], []⟩)], [(5, ⟨[.own 7 .byte, .slot 8 (.v .int)], [(21, 33)], []⟩)], [(2, ⟨[.slot 17 (.v .bool)], [(12, 16)], []⟩)], []⟩
noncomputable def ci69 : CInfo := mkCI (plains 3) [.sl .byte, .v .int, .v .int] [.sl .byte] (fun x => putNO x.1 x.2.1 x.2.2) [(false, 1)] [0] false
theorem c69 : Contract Tryz.prog 69 ci69 := evC 35 tn_mixed tn_ok phi_nil Tryz.func69 an69 (fun x => impl_PutN.raw x.1 x.2.1 x.2.2) (by kernel_rfl) (fun x => by kernel_rfl) fun x r hb h => impl_PutN.ok hb h

noncomputable def ci175 : CInfo := mkCI (plains 0) [] [.sl .int] (fun _ => some (start)) [(false, 1)] [0] false
theorem c175 : Contract Tryz.prog 175 ci175 := evC 2 tn_mixed tn_ok phi_nil Tryz.func175 an0 (fun _ => impl_Start.raw) (by kernel_rfl) (fun x => by kernel_rfl) fun x r hb h => (impl_Start.ok hb).trans h

noncomputable def ci157 : CInfo := mkCI (plains 0) [] [.v .Hash] (fun _ => some (hashNew)) [(true, 3)] [0, 1] false
theorem c157 : Contract Tryz.prog 157 ci157 := evC 3 (l := [(175, ci175)]) tn_mixed tn_ok (phi_cons c175 phi_nil) Tryz.func157 an0 (fun _ => impl_HashNew.raw) (by kernel_rfl) (fun x => by kernel_rfl) fun x r hb h => (impl_HashNew.ok hb).trans h

def an182 : An := ⟨[], [(0, ⟨[], [(4, 4), (6, 6), (9, 16)], []⟩)], [(2, ⟨[.slot 9 (.v .int)], [(4, 4), (6, 6), (10, 16)], []⟩)], [], []⟩
noncomputable def ci182 : CInfo := mkCI (plains 2) [.sl .int, .v .int] [.v .bool] (fun x => some (areWords x.1 x.2)) [(false, 1)] [] false
theorem c182 : Contract Tryz.prog 182 ci182 := evC 21 (l := [(46, ci46)]) tn_mixed tn_ok (phi_cons c46 phi_nil) Tryz.func182 an182 (fun x => impl_areWords.raw x.1 x.2) (by kernel_rfl) (fun x => by kernel_rfl) fun x r hb h => (impl_areWords.ok hb).trans h

def an171 : An := ⟨[], [], [], [(1, ⟨[.slot 2 (.v .bool)], [(3, 19)], []⟩)], []⟩
noncomputable def ci171 : CInfo := mkCI (plains 1) [.v .Hash] [.v .bool] (fun x => some (hashOk x)) [(false, 1)] [] false
theorem c171 : Contract Tryz.prog 171 ci171 := evC 20 (l := [(46, ci46), (182, ci182)]) tn_mixed tn_ok (phi_cons c46 (phi_cons c182 phi_nil)) Tryz.func171 an171 (fun x => impl_HashOk.raw x) (by kernel_rfl) (fun x => by kernel_rfl) fun x r hb h => (impl_HashOk.ok hb).trans h

def an22 : An := ⟨[], [(0, ⟨[.own 3 .byte], [(5, 5), (9, 16)], []⟩)], [(3, ⟨[.own 3 .byte, .slot 9 (.v .int)], [(5, 5), (10, 16)], []⟩)], [], []⟩
noncomputable def ci22 : CInfo := mkCI (plains 1) [.sl .bs] [.sl .byte] (fun x => joinedO x) [(false, 1)] [0] false
theorem c22 : Contract Tryz.prog 22 ci22 := evC 18 tn_mixed tn_ok phi_nil Tryz.func22 an22 (fun x => impl_joined.raw x) (by kernel_rfl) (fun x => by kernel_rfl) fun x r hb h => impl_joined.ok hb h

def an191 : An := ⟨[], [], [], [(1, ⟨[.slot 27 (.v .bool)], [(8, 26)], []⟩)], []⟩
noncomputable def ci191 : CInfo := mkCI (plains 3) [.sl .byte, .v .int, .v .int] [.sl .byte, .v .bool] (fun x => cutO x.1 x.2.1 x.2.2) [(false, 1), (false, 1)] [0] false
theorem c191 : Contract Tryz.prog 191 ci191 := evC 36 tn_mixed tn_ok phi_nil Tryz.func191 an191 (fun x => impl_Cut.raw x.1 x.2.1 x.2.2) (by kernel_rfl) (fun x => by kernel_rfl) fun x r hb h => impl_Cut.ok hb h

def an190 : An := ⟨[], [(0, ⟨[.slot 11 (.v .int)], [(13, 13), (31, 40)], []⟩)], [(8, ⟨[.slot 11 (.v .int), .slot 31 (.v .int)], [(13, 13), (32, 40)], []⟩)], [(1, ⟨[.slot 19 (.v .bool)], [(14, 18)], []⟩)], []⟩
noncomputable def ci190 : CInfo := mkCI (plains 3) [.sl .byte, .v .int, .v .int] [.v .int, .v .int, .v .bool] (fun x => getNO x.1 x.2.1 x.2.2) [(false, 1), (false, 1), (false, 1)] [] false
theorem c190 : Contract Tryz.prog 190 ci190 := evC 45 (l := [(191, ci191)]) tn_mixed tn_ok (phi_cons c191 phi_nil) Tryz.func190 an190 (fun x => impl_GetN.raw x.1 x.2.1 x.2.2) (by kernel_rfl) (fun x => by kernel_rfl) fun x r hb h => impl_GetN.ok hb h

def an187 : An := ⟨[], [], [], [(2, ⟨[.slot 12 (.v .bool)], [(7, 11)], []⟩)], []⟩
noncomputable def ci187 : CInfo := mkCI (plains 2) [.v .int, .v .int] [.v .int] (fun x => rotO x.1 x.2) [(false, 1)] [] false
theorem c187 : Contract Tryz.prog 187 ci187 := evC 23 tn_mixed tn_ok phi_nil Tryz.func187 an187 (fun x => impl_Rot.raw x.1 x.2) (by kernel_rfl) (fun x => by kernel_rfl) fun x r hb h => impl_Rot.ok hb h

def an186 : An := ⟨[], [(0, ⟨[.own 3 .int], [(4, 4), (14, 28)], []⟩), (2, ⟨[.own 3 .int], [(5, 9), (29, 77)], []⟩)], [(5, ⟨[.slot 4 (.v .int), .own 3 .int], [(14, 28)], []⟩), (9, ⟨[.slot 5 (.v .int), .own 3 .int], [(6, 9), (29, 77)], []⟩)], [], []⟩
noncomputable def ci186 : CInfo := mkCI (plains 1) [.sl .byte] [.sl .int] (fun x => scheduleO x) [(false, 1)] [0] false
theorem c186 : Contract Tryz.prog 186 ci186 := evC 79 (l := [(187, ci187), (190, ci190)]) tn_mixed tn_ok (phi_cons c187 (phi_cons c190 phi_nil)) Tryz.func186 an186 (fun x => impl_Schedule.raw x) (by kernel_rfl) (fun x => by kernel_rfl) fun x r hb h => impl_Schedule.ok hb h

def an188 : An := ⟨[], [], [], [(1, ⟨[.slot 9 (.v .bool)], [(4, 8)], []⟩)], []⟩
noncomputable def ci188 : CInfo := mkCI (plains 1) [.v .int] [.v .int] (fun x => some (roundWord x)) [(false, 1)] [] false
theorem c188 : Contract Tryz.prog 188 ci188 := evC 14 tn_mixed tn_ok phi_nil Tryz.func188 an188 (fun x => impl_RoundWord.raw x) (by kernel_rfl) (fun x => by kernel_rfl) fun x r hb h => (impl_RoundWord.ok hb).trans h

noncomputable def ci189 : CInfo := mkCI (plains 2) [.v .int, .v .int] [.v .int] (fun x => some (add32 x.1 x.2)) [(false, 1)] [] false
theorem c189 : Contract Tryz.prog 189 ci189 := evC 9 tn_mixed tn_ok phi_nil Tryz.func189 an0 (fun x => impl_Add32.raw x.1 x.2) (by kernel_rfl) (fun x => by kernel_rfl) fun x r hb h => (impl_Add32.ok hb).trans h

def an184 : An := ⟨[], [(0, ⟨[.slot 7 (.v .int), .slot 8 (.v .int), .slot 9 (.v .int), .slot 10 (.v .int), .slot 11 (.v .int), .slot 12 (.v .int), .slot 13 (.v .int), .slot 14 (.v .int)], [(15, 19), (60, 124)], []⟩), (2, ⟨[.own 5 .int], [(20, 21), (135, 149)], []⟩)], [(7, ⟨[.slot 7 (.v .int), .slot 8 (.v .int), .slot 9 (.v .int), .slot 10 (.v .int), .slot 11 (.v .int), .slot 12 (.v .int), .slot 13 (.v .int), .slot 14 (.v .int), .slot 15 (.v .int)], [(16, 19), (60, 124)], []⟩), (16, ⟨[.slot 135 (.v .int), .own 5 .int], [(20, 21), (136, 149)], []⟩)], [(2, ⟨[.slot 32 (.v .bool)], [(25, 31)], []⟩)], []⟩
noncomputable def ci184 : CInfo := mkCI (plains 2) [.sl .int, .sl .byte] [.sl .int] (fun x => compressO x.1 x.2) [(false, 1)] [0] false
theorem c184 : Contract Tryz.prog 184 ci184 := evC 151 (l := [(182, ci182), (186, ci186), (187, ci187), (188, ci188), (189, ci189)]) tn_mixed tn_ok (phi_cons c182 (phi_cons c186 (phi_cons c187 (phi_cons c188 (phi_cons c189 phi_nil))))) Tryz.func184 an184 (fun x => impl_Compress.raw x.1 x.2) (by kernel_rfl) (fun x => by kernel_rfl) fun x r hb h => impl_Compress.ok hb h

def an172 : An := ⟨[], [(0, ⟨[.slot 0 (.sl .int), .slot 1 (.sl .byte)], [(6, 14)], []⟩)], [(1, ⟨[.slot 0 (.sl .int), .slot 1 (.sl .byte)], [(6, 14)], []⟩)], [], []⟩
noncomputable def ci172 : CInfo := mkCI (plains 2) [.sl .int, .sl .byte] [.sl .int, .sl .byte] (fun x => allO x.1 x.2) [(false, 1), (false, 1)] [] false
theorem c172 : Contract Tryz.prog 172 ci172 := evC 17 (l := [(184, ci184)]) tn_mixed tn_ok (phi_cons c184 phi_nil) Tryz.func172 an172 (fun x => impl_compressAll.raw x.1 x.2) (by kernel_rfl) (fun x => by kernel_rfl) fun x r hb h => impl_compressAll.ok hb h

def an156 : An := ⟨[], [], [], [(1, ⟨[.slot 17 (.v .bool)], [(7, 16)], []⟩)], []⟩
noncomputable def ci156 : CInfo := mkCI (plains 2) [.v .Hash, .sl .byte] [.v .Hash] (fun x => hashAddO x.1 x.2) [(true, 3)] [0, 1] false
theorem c156 : Contract Tryz.prog 156 ci156 := evC 50 (l := [(22, ci22), (27, ci27), (171, ci171), (172, ci172)]) tn_mixed tn_ok (phi_cons c22 (phi_cons c27 (phi_cons c171 (phi_cons c172 phi_nil)))) Tryz.func156 an156 (fun x => impl_HashAdd.raw x.1 x.2) (by kernel_rfl) (fun x => by kernel_rfl) fun x r hb h => impl_HashAdd.ok hb h

def an173 : An := ⟨[], [(0, ⟨[.own 3 .byte], [(8, 17)], []⟩)], [(4, ⟨[.own 3 .byte], [(8, 17)], []⟩)], [], []⟩
noncomputable def ci173 : CInfo := mkCI (plains 1) [.v .int] [.sl .byte] (fun x => padO x) [(false, 1)] [0] false
theorem c173 : Contract Tryz.prog 173 ci173 := evC 25 (l := [(46, ci46), (69, ci69)]) tn_mixed tn_ok (phi_cons c46 (phi_cons c69 phi_nil)) Tryz.func173 an173 (fun x => impl_Pad.raw x) (by kernel_rfl) (fun x => by kernel_rfl) fun x r hb h => impl_Pad.ok hb h

def an174 : An := ⟨[], [(0, ⟨[.own 3 .byte], [(5, 5), (9, 16)], []⟩)], [(3, ⟨[.own 3 .byte, .slot 9 (.v .int)], [(5, 5), (10, 16)], []⟩)], [], []⟩
noncomputable def ci174 : CInfo := mkCI (plains 1) [.sl .int] [.sl .byte] (fun x => wordBytesO x) [(false, 1)] [0] false
theorem c174 : Contract Tryz.prog 174 ci174 := evC 18 (l := [(69, ci69)]) tn_mixed tn_ok (phi_cons c69 phi_nil) Tryz.func174 an174 (fun x => impl_wordBytes.raw x) (by kernel_rfl) (fun x => by kernel_rfl) fun x r hb h => impl_wordBytes.ok hb h

noncomputable def ci155 : CInfo := mkCI (plains 1) [.v .Hash] [.sl .byte] (fun x => hashEndO x) [(false, 1)] [0] false
theorem c155 : Contract Tryz.prog 155 ci155 := evC 23 (l := [(22, ci22), (171, ci171), (172, ci172), (173, ci173), (174, ci174)]) tn_mixed tn_ok (phi_cons c22 (phi_cons c171 (phi_cons c172 (phi_cons c173 (phi_cons c174 phi_nil))))) Tryz.func155 an0 (fun x => impl_HashEnd.raw x) (by kernel_rfl) (fun x => by kernel_rfl) fun x r hb h => impl_HashEnd.ok hb h

noncomputable def ci118 : CInfo := mkCI (plains 1) [.sl .byte] [.sl .byte] (fun x => some (sha x)) [(false, 1)] [0] false
theorem c118 : Contract Tryz.prog 118 ci118 := evC 10 (l := [(155, ci155), (156, ci156), (157, ci157)]) tn_mixed tn_ok (phi_cons c155 (phi_cons c156 (phi_cons c157 phi_nil))) Tryz.func118 an0 (fun x => impl_Sha.raw x) (by kernel_rfl) (fun x => by kernel_rfl) fun x r hb h => (impl_Sha.ok hb).trans h

def an117 : An := ⟨[(720902, ⟨[.own 3 .byte], [(12, 13)], []⟩)], [(0, ⟨[.own 3 .byte], [(14, 19)], []⟩)], [(6, ⟨[.own 3 .byte], [(14, 19)], []⟩)], [], []⟩
noncomputable def ci117 : CInfo := mkCI (plains 1) [.sl .byte] [.sl .byte] (fun x => some (blockKey x)) [(false, 1)] [0] false
theorem c117 : Contract Tryz.prog 117 ci117 := evC 21 (l := [(27, ci27), (118, ci118)]) tn_mixed tn_ok (phi_cons c27 (phi_cons c118 phi_nil)) Tryz.func117 an117 (fun x => impl_BlockKey.raw x) (by kernel_rfl) (fun x => by kernel_rfl) fun x r hb h => (impl_BlockKey.ok hb).trans h

def an119 : An := ⟨[], [(0, ⟨[.own 5 .byte], [(7, 7), (11, 21)], []⟩)], [(3, ⟨[.own 5 .byte, .slot 11 (.v .int)], [(7, 7), (12, 21)], []⟩)], [], []⟩
noncomputable def ci119 : CInfo := mkCI (plains 2) [.sl .byte, .v .byte] [.sl .byte] (fun x => maskedO x.1 x.2) [(false, 1)] [0] false
theorem c119 : Contract Tryz.prog 119 ci119 := evC 23 tn_mixed tn_ok phi_nil Tryz.func119 an119 (fun x => impl_masked.raw x.1 x.2) (by kernel_rfl) (fun x => by kernel_rfl) fun x r hb h => impl_masked.ok hb h

def an68 : An := ⟨[], [], [], [(1, ⟨[.slot 13 (.v .bool)], [(6, 12)], []⟩)], []⟩
noncomputable def ci68 : CInfo := mkCI (plains 2) [.sl .byte, .sl .byte] [.sl .byte] (fun x => some (hmac x.1 x.2)) [(false, 1)] [0] false
theorem c68 : Contract Tryz.prog 68 ci68 := evC 27 (l := [(22, ci22), (117, ci117), (118, ci118), (119, ci119)]) tn_mixed tn_ok (phi_cons c22 (phi_cons c117 (phi_cons c118 (phi_cons c119 phi_nil)))) Tryz.func68 an68 (fun x => impl_Hmac.raw x.1 x.2) (by kernel_rfl) (fun x => by kernel_rfl) fun x r hb h => (impl_Hmac.ok hb).trans h

def an26 : An := ⟨[], [], [], [(1, ⟨[.slot 13 (.v .bool)], [(5, 12)], []⟩)], []⟩
noncomputable def ci26 : CInfo := mkCI (plains 2) [.sl .byte, .v .int] [.sl .byte] (fun x => some (diceAt x.1 x.2)) [(false, 1)] [0] false
theorem c26 : Contract Tryz.prog 26 ci26 := evC 22 (l := [(27, ci27), (46, ci46), (68, ci68), (69, ci69)]) tn_mixed tn_ok (phi_cons c27 (phi_cons c46 (phi_cons c68 (phi_cons c69 phi_nil)))) Tryz.func26 an26 (fun x => impl_DiceAt.raw x.1 x.2) (by kernel_rfl) (fun x => by kernel_rfl) fun x r hb h => (impl_DiceAt.ok hb).trans h

def an60 : An := ⟨[], [], [], [(2, ⟨[.slot 18 (.v .bool)], [(11, 17)], []⟩)], []⟩
noncomputable def ci60 : CInfo := mkCI (plains 1) [.v .Dice] [.v .Dice, .sl .byte] (fun x => rollO x) [(true, 2), (false, 1)] [0, 2] false
theorem c60 : Contract Tryz.prog 60 ci60 := evC 30 (l := [(26, ci26), (27, ci27), (47, ci47)]) tn_mixed tn_ok (phi_cons c26 (phi_cons c27 (phi_cons c47 phi_nil))) Tryz.func60 an60 (fun x => impl_Roll.raw x) (by kernel_rfl) (fun x => by kernel_rfl) fun x r hb h => impl_Roll.ok hb h

def an61 : An := ⟨[], [(0, ⟨[.own 3 .bs], [(5, 5), (9, 18)], []⟩)], [(3, ⟨[.own 3 .bs, .slot 9 (.v .int)], [(5, 5), (10, 18)], []⟩)], [], []⟩
noncomputable def ci61 : CInfo := mkCI (plains 1) [.sl .bs] [.sl .bs] (fun x => cloneAllO x) [(false, 1)] [0] false
theorem c61 : Contract Tryz.prog 61 ci61 := evC 20 (l := [(27, ci27)]) tn_mixed tn_ok (phi_cons c27 phi_nil) Tryz.func61 an61 (fun x => impl_cloneAll.raw x) (by kernel_rfl) (fun x => by kernel_rfl) fun x r hb h => impl_cloneAll.ok hb h

noncomputable def ci96 : CInfo := mkCI (plains 1) [.sl .byte] [.v .bool] (fun x => some (isNonce x)) [(false, 1)] [] false
theorem c96 : Contract Tryz.prog 96 ci96 := evC 6 tn_mixed tn_ok phi_nil Tryz.func96 an0 (fun x => impl_isNonce.raw x) (by kernel_rfl) (fun x => by kernel_rfl) fun x r hb h => (impl_isNonce.ok hb).trans h

def an153 : An := ⟨[], [(0, ⟨[.own 8 .byte, .own 9 .byte], [(10, 10), (26, 43)], []⟩)], [(6, ⟨[.own 8 .byte, .own 9 .byte, .slot 10 (.v .int)], [(26, 43)], []⟩)], [(1, ⟨[.slot 23 (.v .bool)], [(11, 22)], []⟩)], []⟩
noncomputable def ci153 : CInfo := mkCI (plains 3) [.sl .byte, .sl .byte, .v .int] [.sl .byte, .v .bool] (fun x => some (expand x.1 x.2.1 x.2.2)) [(false, 1), (false, 1)] [0] false
theorem c153 : Contract Tryz.prog 153 ci153 := evC 48 (l := [(22, ci22), (27, ci27), (46, ci46), (68, ci68)]) tn_mixed tn_ok (phi_cons c22 (phi_cons c27 (phi_cons c46 (phi_cons c68 phi_nil)))) Tryz.func153 an153 (fun x => impl_Expand.raw x.1 x.2.1 x.2.2) (by kernel_rfl) (fun x => by kernel_rfl) fun x r hb h => (impl_Expand.ok hb).trans h

noncomputable def ci114 : CInfo := mkCI (plains 2) [.sl .byte, .v .str] [.sl .byte] (fun x => deriveO x.1 x.2) [(false, 1)] [0] false
theorem c114 : Contract Tryz.prog 114 ci114 := evC 15 (l := [(153, ci153)]) tn_mixed tn_ok (phi_cons c153 phi_nil) Tryz.func114 an0 (fun x => impl_Derive.raw x.1 x.2) (by kernel_rfl) (fun x => by kernel_rfl) fun x r hb h => impl_Derive.ok hb h

noncomputable def ci62 : CInfo := mkCI (plains 1) [.sl .byte] [.v .Jar] (fun x => some (jarNew x)) [(true, 1)] [0] false
theorem c62 : Contract Tryz.prog 62 ci62 := evC 10 (l := [(96, ci96), (114, ci114)]) tn_mixed tn_ok (phi_cons c96 (phi_cons c114 phi_nil)) Tryz.func62 an0 (fun x => impl_JarNew.raw x) (by kernel_rfl) (fun x => by kernel_rfl) fun x r hb h => (impl_JarNew.ok hb).trans h

noncomputable def ci63 : CInfo := mkCI (plains 1) [.v .int] [.v .Tab] (fun x => some (tabNew x)) [(true, 2)] [1] false
theorem c63 : Contract Tryz.prog 63 ci63 := evC 9 (l := [(46, ci46)]) tn_mixed tn_ok (phi_cons c46 phi_nil) Tryz.func63 an0 (fun x => impl_TabNew.raw x) (by kernel_rfl) (fun x => by kernel_rfl) fun x r hb h => (impl_TabNew.ok hb).trans h

noncomputable def ci64 : CInfo := mkCI (plains 1) [.v .Jar] [.v .bool] (fun x => some (jarOk x)) [(false, 1)] [] false
theorem c64 : Contract Tryz.prog 64 ci64 := evC 7 tn_mixed tn_ok phi_nil Tryz.func64 an0 (fun x => impl_JarOk.raw x) (by kernel_rfl) (fun x => by kernel_rfl) fun x r hb h => (impl_JarOk.ok hb).trans h

def an56 : An := ⟨[(983047, ⟨[.slot 3 (.v .int)], [(16, 17)], []⟩)], [(0, ⟨[.slot 3 (.v .int)], [(5, 5), (9, 18)], []⟩)], [(3, ⟨[.slot 3 (.v .int), .slot 9 (.v .int)], [(5, 5), (10, 18)], []⟩)], [], []⟩
noncomputable def ci56 : CInfo := mkCI (plains 1) [.v .Tab] [.v .int] (fun x => liveO x) [(false, 1)] [] false
theorem c56 : Contract Tryz.prog 56 ci56 := evC 20 tn_mixed tn_ok phi_nil Tryz.func56 an56 (fun x => impl_Live.raw x) (by kernel_rfl) (fun x => by kernel_rfl) fun x r hb h => impl_Live.ok hb h

noncomputable def ci50 : CInfo := mkCI (plains 2) [.sl .byte, .sl .byte] [.v .bool] (fun x => sameO x.1 x.2) [(false, 1)] [] false
theorem c50 : Contract Tryz.prog 50 ci50 := evC 10 tn_mixed tn_ok phi_nil Tryz.func50 an0 (fun x => bytes_Equal.raw x.1 x.2) (by kernel_rfl) (fun x => by kernel_rfl) fun x r hb h => bytes_Equal.ok hb h

def an167 : An := ⟨[], [(0, ⟨[], [(4, 6), (14, 25)], []⟩)], [(4, ⟨[.slot 14 (.v .int)], [(4, 6), (15, 25)], []⟩)], [], []⟩
noncomputable def ci167 : CInfo := mkCI (plains 2) [.sl .int, .sl .int] [.v .bool] (fun x => some (sameI x.1 x.2)) [(false, 1)] [] false
theorem c167 : Contract Tryz.prog 167 ci167 := evC 26 tn_mixed tn_ok phi_nil Tryz.func167 an167 (fun x => impl_sameInts.raw x.1 x.2) (by kernel_rfl) (fun x => by kernel_rfl) fun x r hb h => (impl_sameInts.ok hb).trans h

def an133 : An := ⟨[], [], [], [(1, ⟨[.slot 4 (.v .bool)], [(5, 41)], []⟩)], []⟩
noncomputable def ci133 : CInfo := mkCI (plains 2) [.v .Ep, .v .Ep] [.v .bool] (fun x => sameEpO x.1 x.2) [(false, 1)] [] false
theorem c133 : Contract Tryz.prog 133 ci133 := evC 42 (l := [(50, ci50), (167, ci167)]) tn_mixed tn_ok (phi_cons c50 (phi_cons c167 phi_nil)) Tryz.func133 an133 (fun x => impl_sameEp.raw x.1 x.2) (by kernel_rfl) (fun x => by kernel_rfl) fun x r hb h => impl_sameEp.ok hb h

def an95 : An := ⟨[], [], [], [(1, ⟨[.slot 2 (.v .bool)], [(3, 39)], []⟩)], []⟩
noncomputable def ci95 : CInfo := mkCI (plains 1) [.v .Chan] [.v .bool] (fun x => noChanO x) [(false, 1)] [] false
theorem c95 : Contract Tryz.prog 95 ci95 := evC 40 (l := [(133, ci133)]) tn_mixed tn_ok (phi_cons c133 phi_nil) Tryz.func95 an95 (fun x => impl_isZeroChan.raw x) (by kernel_rfl) (fun x => by kernel_rfl) fun x r hb h => impl_isZeroChan.ok hb h

def an135 : An := ⟨[], [], [], [(1, ⟨[.slot 2 (.v .bool)], [(3, 8)], []⟩)], []⟩
noncomputable def ci135 : CInfo := mkCI (plains 1) [.v .int] [.v .bool] (fun x => some (isRole x)) [(false, 1)] [] false
theorem c135 : Contract Tryz.prog 135 ci135 := evC 9 tn_mixed tn_ok phi_nil Tryz.func135 an135 (fun x => impl_isRole.raw x) (by kernel_rfl) (fun x => by kernel_rfl) fun x r hb h => (impl_isRole.ok hb).trans h

noncomputable def ci183 : CInfo := mkCI (plains 2) [.v .Win, .v .int] [.v .bool] (fun x => bitO x.1 x.2) [(false, 1)] [] false
theorem c183 : Contract Tryz.prog 183 ci183 := evC 17 tn_mixed tn_ok phi_nil Tryz.func183 an0 (fun x => impl_hasBit.raw x.1 x.2) (by kernel_rfl) (fun x => by kernel_rfl) fun x r hb h => impl_hasBit.ok hb h

def an170 : An := ⟨[], [(0, ⟨[], [(2, 3), (17, 23)], []⟩)], [(4, ⟨[.slot 3 (.v .int)], [(2, 2), (17, 23)], []⟩)], [(1, ⟨[.slot 13 (.v .bool)], [(4, 12)], []⟩), (8, ⟨[.slot 2 (.v .bool)], [(24, 32)], []⟩)], []⟩
noncomputable def ci170 : CInfo := mkCI (plains 1) [.v .Win] [.v .bool] (fun x => some (winOk x)) [(false, 1)] [] false
theorem c170 : Contract Tryz.prog 170 ci170 := evC 33 (l := [(46, ci46), (182, ci182), (183, ci183)]) tn_mixed tn_ok (phi_cons c46 (phi_cons c182 (phi_cons c183 phi_nil))) Tryz.func170 an170 (fun x => impl_WinOk.raw x) (by kernel_rfl) (fun x => by kernel_rfl) fun x r hb h => (impl_WinOk.ok hb).trans h

def an136 : An := ⟨[], [], [], [(1, ⟨[.slot 2 (.v .bool)], [(3, 21)], []⟩)], []⟩
noncomputable def ci136 : CInfo := mkCI (plains 1) [.v .Ep] [.v .bool] (fun x => some (epOk x)) [(false, 1)] [] false
theorem c136 : Contract Tryz.prog 136 ci136 := evC 22 (l := [(46, ci46), (170, ci170)]) tn_mixed tn_ok (phi_cons c46 (phi_cons c170 phi_nil)) Tryz.func136 an136 (fun x => impl_EpOk.raw x) (by kernel_rfl) (fun x => by kernel_rfl) fun x r hb h => (impl_EpOk.ok hb).trans h

def an137 : An := ⟨[], [], [], [(2, ⟨[.slot 2 (.v .bool)], [(6, 14)], []⟩), (3, ⟨[.slot 28 (.v .bool)], [(15, 27)], []⟩), (5, ⟨[.slot 2 (.v .bool)], [(29, 41)], []⟩)], []⟩
noncomputable def ci137 : CInfo := mkCI (plains 1) [.v .Chan] [.v .bool] (fun x => oldOkO x) [(false, 1)] [] false
theorem c137 : Contract Tryz.prog 137 ci137 := evC 42 (l := [(46, ci46), (133, ci133), (136, ci136)]) tn_mixed tn_ok (phi_cons c46 (phi_cons c133 (phi_cons c136 phi_nil))) Tryz.func137 an137 (fun x => impl_oldOk.raw x) (by kernel_rfl) (fun x => by kernel_rfl) fun x r hb h => impl_oldOk.ok hb h

def an99 : An := ⟨[], [], [], [(1, ⟨[.slot 23 (.v .bool)], [(3, 22)], []⟩), (3, ⟨[.slot 2 (.v .bool)], [(24, 44)], []⟩)], []⟩
noncomputable def ci99 : CInfo := mkCI (plains 1) [.v .Chan] [.v .bool] (fun x => chanOkO x) [(false, 1)] [] false
theorem c99 : Contract Tryz.prog 99 ci99 := evC 45 (l := [(96, ci96), (135, ci135), (136, ci136), (137, ci137)]) tn_mixed tn_ok (phi_cons c96 (phi_cons c135 (phi_cons c136 (phi_cons c137 phi_nil)))) Tryz.func99 an99 (fun x => impl_ChanOk.raw x) (by kernel_rfl) (fun x => by kernel_rfl) fun x r hb h => impl_ChanOk.ok hb h

def an93 : An := ⟨[], [], [], [(1, ⟨[.slot 2 (.v .bool)], [(3, 10)], []⟩)], []⟩
noncomputable def ci93 : CInfo := mkCI (plains 1) [.v .Addr] [.v .bool] (fun x => some (addrOk x)) [(false, 1)] [] false
theorem c93 : Contract Tryz.prog 93 ci93 := evC 11 (l := [(46, ci46)]) tn_mixed tn_ok (phi_cons c46 phi_nil) Tryz.func93 an93 (fun x => impl_AddrOk.raw x) (by kernel_rfl) (fun x => by kernel_rfl) fun x r hb h => (impl_AddrOk.ok hb).trans h

def an154 : An := ⟨[], [(0, ⟨[], [(2, 4), (6, 6), (20, 63)], []⟩), (2, ⟨[], [(2, 2), (6, 6), (53, 62)], []⟩)], [(4, ⟨[.slot 20 (.v .int)], [(2, 4), (6, 6), (21, 63)], []⟩), (9, ⟨[.slot 53 (.v .int)], [(2, 2), (6, 6), (54, 62)], []⟩)], [(1, ⟨[.slot 16 (.v .bool)], [(7, 15)], []⟩), (6, ⟨[.slot 47 (.v .bool)], [(25, 46)], []⟩)], []⟩
noncomputable def ci154 : CInfo := mkCI (plains 1) [.v .Paths] [.v .bool] (fun x => some (pathsOk x)) [(false, 1)] [] false
theorem c154 : Contract Tryz.prog 154 ci154 := evC 64 (l := [(46, ci46), (93, ci93), (96, ci96)]) tn_mixed tn_ok (phi_cons c46 (phi_cons c93 (phi_cons c96 phi_nil))) Tryz.func154 an154 (fun x => impl_PathsOk.raw x) (by kernel_rfl) (fun x => by kernel_rfl) fun x r hb h => (impl_PathsOk.ok hb).trans h

def an115 : An := ⟨[], [], [], [(1, ⟨[.slot 24 (.v .bool)], [(3, 23)], []⟩), (4, ⟨[.slot 2 (.v .bool)], [(27, 48)], []⟩), (5, ⟨[.slot 2 (.v .bool)], [(49, 75)], []⟩)], []⟩
noncomputable def ci115 : CInfo := mkCI (plains 1) [.v .Sess] [.v .bool] (fun x => sessOkO x) [(false, 1)] [] false
theorem c115 : Contract Tryz.prog 115 ci115 := evC 76 (l := [(46, ci46), (50, ci50), (95, ci95), (96, ci96), (99, ci99), (154, ci154)]) tn_mixed tn_ok (phi_cons c46 (phi_cons c50 (phi_cons c95 (phi_cons c96 (phi_cons c99 (phi_cons c154 phi_nil)))))) Tryz.func115 an115 (fun x => impl_SessOk.raw x) (by kernel_rfl) (fun x => by kernel_rfl) fun x r hb h => impl_SessOk.ok hb h

def an113 : An := ⟨[], [(0, ⟨[], [(4, 6), (10, 20)], []⟩)], [(2, ⟨[.slot 10 (.v .int)], [(4, 6), (11, 20)], []⟩)], [], []⟩
noncomputable def ci113 : CInfo := mkCI (plains 2) [.v .Tab, .sl .byte] [.v .int] (fun x => findSnO x.1 x.2) [(false, 1)] [] false
theorem c113 : Contract Tryz.prog 113 ci113 := evC 21 (l := [(50, ci50)]) tn_mixed tn_ok (phi_cons c50 phi_nil) Tryz.func113 an113 (fun x => impl_FindSn.raw x.1 x.2) (by kernel_rfl) (fun x => by kernel_rfl) fun x r hb h => impl_FindSn.ok hb h

def an65 : An := ⟨[], [(0, ⟨[], [(2, 4), (25, 41)], []⟩)], [(4, ⟨[.slot 25 (.v .int)], [(2, 4), (26, 41)], []⟩)], [(1, ⟨[.slot 21 (.v .bool)], [(5, 20)], []⟩), (6, ⟨[.slot 40 (.v .bool)], [(30, 39)], []⟩)], []⟩
noncomputable def ci65 : CInfo := mkCI (plains 1) [.v .Tab] [.v .bool] (fun x => tabOkO x) [(false, 1)] [] false
theorem c65 : Contract Tryz.prog 65 ci65 := evC 42 (l := [(46, ci46), (56, ci56), (113, ci113), (115, ci115)]) tn_mixed tn_ok (phi_cons c46 (phi_cons c56 (phi_cons c113 (phi_cons c115 phi_nil)))) Tryz.func65 an65 (fun x => impl_TabOk.raw x) (by kernel_rfl) (fun x => by kernel_rfl) fun x r hb h => impl_TabOk.ok hb h

def an116 : An := ⟨[], [(0, ⟨[], [(4, 6), (9, 19)], []⟩)], [(2, ⟨[.slot 9 (.v .int)], [(4, 6), (10, 19)], []⟩)], [], []⟩
noncomputable def ci116 : CInfo := mkCI (plains 2) [.sl .Credit, .v .Addr] [.v .int] (fun x => some (cAt x.1 x.2)) [(false, 1)] [] false
theorem c116 : Contract Tryz.prog 116 ci116 := evC 20 tn_mixed tn_ok phi_nil Tryz.func116 an116 (fun x => impl_creditAt.raw x.1 x.2) (by kernel_rfl) (fun x => by kernel_rfl) fun x r hb h => (impl_creditAt.ok hb).trans h

def an66 : An := ⟨[], [(0, ⟨[], [(2, 4), (10, 42)], []⟩)], [(4, ⟨[.slot 10 (.v .int)], [(2, 4), (11, 42)], []⟩)], [(6, ⟨[.slot 41 (.v .bool)], [(15, 40)], []⟩)], []⟩
noncomputable def ci66 : CInfo := mkCI (plains 1) [.sl .Credit] [.v .bool] (fun x => some (creditsOk x)) [(false, 1)] [] false
theorem c66 : Contract Tryz.prog 66 ci66 := evC 43 (l := [(46, ci46), (93, ci93), (116, ci116)]) tn_mixed tn_ok (phi_cons c46 (phi_cons c93 (phi_cons c116 phi_nil))) Tryz.func66 an66 (fun x => impl_CreditsOk.raw x) (by kernel_rfl) (fun x => by kernel_rfl) fun x r hb h => (impl_CreditsOk.ok hb).trans h

noncomputable def ci67 : CInfo := mkCI (plains 1) [.sl .byte] [.v .bool] (fun x => some (pskOk x)) [(false, 1)] [] false
theorem c67 : Contract Tryz.prog 67 ci67 := evC 6 (l := [(46, ci46)]) tn_mixed tn_ok (phi_cons c46 phi_nil) Tryz.func67 an0 (fun x => impl_PskOk.raw x) (by kernel_rfl) (fun x => by kernel_rfl) fun x r hb h => (impl_PskOk.ok hb).trans h

def an21 : An := ⟨[], [(0, ⟨[], [(2, 2), (4, 4), (39, 46)], []⟩), (2, ⟨[], [(2, 2), (6, 6), (51, 61)], []⟩)], [(4, ⟨[.slot 39 (.v .int)], [(2, 2), (4, 4), (40, 46)], []⟩), (10, ⟨[.slot 51 (.v .int)], [(2, 2), (6, 6), (52, 61)], []⟩)], [(1, ⟨[.slot 35 (.v .bool)], [(7, 34)], []⟩)], []⟩
noncomputable def ci21 : CInfo := mkCI (plains 1) [.v .Server] [.v .bool] (fun x => serverOkO x) [(false, 1)] [] false
theorem c21 : Contract Tryz.prog 21 ci21 := evC 62 (l := [(46, ci46), (47, ci47), (64, ci64), (65, ci65), (66, ci66), (67, ci67)]) tn_mixed tn_ok (phi_cons c46 (phi_cons c47 (phi_cons c64 (phi_cons c65 (phi_cons c66 (phi_cons c67 phi_nil)))))) Tryz.func21 an21 (fun x => impl_ServerOk.raw x) (by kernel_rfl) (fun x => by kernel_rfl) fun x r hb h => impl_ServerOk.ok hb h

noncomputable def ci20 : CInfo := mkCI (plains 3) [.sl .bs, .sl .byte, .v .int] [.v .Server] (fun x => serverNewO x.1 x.2.1 x.2.2) [(true, 7)] [0, 1, 2, 5, 6] false
theorem c20 : Contract Tryz.prog 20 ci20 := evC 29 (l := [(21, ci21), (60, ci60), (61, ci61), (62, ci62), (63, ci63)]) tn_mixed tn_ok (phi_cons c21 (phi_cons c60 (phi_cons c61 (phi_cons c62 (phi_cons c63 phi_nil))))) Tryz.func20 an0 (fun x => impl_ServerNew.raw x.1 x.2.1 x.2.2) (by kernel_rfl) (fun x => by kernel_rfl) fun x r hb h => impl_ServerNew.ok hb h

noncomputable def ci24 : CInfo := mkCI (plains 1) [.v .int] [.v .Addr] (fun x => some (near x)) [(true, 2)] [] false
theorem c24 : Contract Tryz.prog 24 ci24 := evC 12 (l := [(46, ci46)]) tn_mixed tn_ok (phi_cons c46 phi_nil) Tryz.func24 an0 (fun x => impl_Near.raw x) (by kernel_rfl) (fun x => by kernel_rfl) fun x r hb h => (impl_Near.ok hb).trans h

def an94 : An := ⟨[], [], [], [(1, ⟨[.slot 4 (.v .bool)], [(5, 79)], []⟩)], []⟩
noncomputable def ci94 : CInfo := mkCI (plains 2) [.v .Frame, .v .Frame] [.v .bool] (fun x => sameFrameO x.1 x.2) [(false, 1)] [] false
theorem c94 : Contract Tryz.prog 94 ci94 := evC 80 (l := [(50, ci50)]) tn_mixed tn_ok (phi_cons c50 phi_nil) Tryz.func94 an94 (fun x => impl_sameFrame.raw x.1 x.2) (by kernel_rfl) (fun x => by kernel_rfl) fun x r hb h => impl_sameFrame.ok hb h

def an97 : An := ⟨[], [], [], [(3, ⟨[.slot 3 (.v .bool)], [(10, 27)], []⟩), (4, ⟨[.slot 2 (.v .bool)], [(28, 38)], []⟩)], []⟩
noncomputable def ci97 : CInfo := mkCI (plains 1) [.v .Timer] [.v .bool] (fun x => some (timerOk x)) [(false, 1)] [] false
theorem c97 : Contract Tryz.prog 97 ci97 := evC 39 (l := [(46, ci46)]) tn_mixed tn_ok (phi_cons c46 phi_nil) Tryz.func97 an97 (fun x => impl_TimerOk.raw x) (by kernel_rfl) (fun x => by kernel_rfl) fun x r hb h => (impl_TimerOk.ok hb).trans h

noncomputable def ci168 : CInfo := mkCI (plains 1) [.v .int] [.v .bool] (fun x => some (isSealed x)) [(false, 1)] [] false
theorem c168 : Contract Tryz.prog 168 ci168 := evC 5 (l := [(46, ci46)]) tn_mixed tn_ok (phi_cons c46 phi_nil) Tryz.func168 an0 (fun x => impl_Sealed.raw x) (by kernel_rfl) (fun x => by kernel_rfl) fun x r hb h => (impl_Sealed.ok hb).trans h

def an169 : An := ⟨[(655366, ⟨[.slot 10 (.v .bool)], [(12, 12)], []⟩)], [], [], [], []⟩
noncomputable def ci169 : CInfo := mkCI (plains 2) [.v .int, .v .int] [.v .bool] (fun x => some (bodyOk x.1 x.2)) [(false, 1)] [] false
theorem c169 : Contract Tryz.prog 169 ci169 := evC 17 tn_mixed tn_ok phi_nil Tryz.func169 an169 (fun x => impl_bodyOk.raw x.1 x.2) (by kernel_rfl) (fun x => by kernel_rfl) fun x r hb h => (impl_bodyOk.ok hb).trans h

def an134 : An := ⟨[(524293, ⟨[.slot 4 (.v .bool), .box 3 .Frame []], [(12, 158)], []⟩), (1703944, ⟨[.slot 4 (.v .bool), .box 3 .Frame []], [(30, 158)], []⟩), (3997707, ⟨[.slot 4 (.v .bool), .box 3 .Frame []], [(65, 158)], []⟩), (7405582, ⟨[.slot 4 (.v .bool), .box 3 .Frame [2, 5, 6]], [(117, 158)], []⟩)], [], [], [(5, ⟨[.slot 4 (.v .bool)], [(18, 25)], []⟩), (8, ⟨[.slot 4 (.v .bool)], [(42, 60)], []⟩), (11, ⟨[.slot 4 (.v .bool)], [(83, 112)], []⟩), (14, ⟨[.slot 4 (.v .bool)], [(132, 158)], []⟩), (15, ⟨[.slot 2 (.v .bool)], [(159, 164)], []⟩)], []⟩
noncomputable def ci134 : CInfo := mkCI (plains 1) [.v .Frame] [.v .bool] (fun x => frameOkO x) [(false, 1)] [] false
theorem c134 : Contract Tryz.prog 134 ci134 := evC 165 (l := [(46, ci46), (94, ci94), (96, ci96), (168, ci168), (169, ci169)]) tn_mixed tn_ok (phi_cons c46 (phi_cons c94 (phi_cons c96 (phi_cons c168 (phi_cons c169 phi_nil))))) Tryz.func134 an134 (fun x => impl_FrameOk.raw x) (by kernel_rfl) (fun x => by kernel_rfl) fun x r hb h => impl_FrameOk.ok hb h

def an98 : An := ⟨[], [], [], [(1, ⟨[.slot 35 (.v .bool)], [(3, 34)], []⟩), (3, ⟨[.slot 2 (.v .bool)], [(36, 73)], []⟩)], []⟩
noncomputable def ci98 : CInfo := mkCI (plains 1) [.v .Client] [.v .bool] (fun x => finishOkO x) [(false, 1)] [] false
theorem c98 : Contract Tryz.prog 98 ci98 := evC 74 (l := [(50, ci50), (96, ci96), (99, ci99), (134, ci134)]) tn_mixed tn_ok (phi_cons c50 (phi_cons c96 (phi_cons c99 (phi_cons c134 phi_nil)))) Tryz.func98 an98 (fun x => impl_finishOk.raw x) (by kernel_rfl) (fun x => by kernel_rfl) fun x r hb h => impl_finishOk.ok hb h

def an49 : An := ⟨[], [], [], [(1, ⟨[.slot 20 (.v .bool)], [(5, 19)], []⟩), (7, ⟨[.slot 2 (.v .bool)], [(33, 58)], []⟩), (9, ⟨[.slot 2 (.v .bool)], [(61, 92)], []⟩), (11, ⟨[.slot 2 (.v .bool)], [(95, 117)], []⟩), (13, ⟨[.slot 2 (.v .bool)], [(120, 160)], []⟩)], []⟩
noncomputable def ci49 : CInfo := mkCI (plains 1) [.v .Client] [.v .bool] (fun x => clientOkO x) [(false, 1)] [] false
theorem c49 : Contract Tryz.prog 49 ci49 := evC 161 (l := [(46, ci46), (67, ci67), (93, ci93), (94, ci94), (95, ci95), (96, ci96), (97, ci97), (98, ci98), (99, ci99)]) tn_mixed tn_ok (phi_cons c46 (phi_cons c67 (phi_cons c93 (phi_cons c94 (phi_cons c95 (phi_cons c96 (phi_cons c97 (phi_cons c98 (phi_cons c99 phi_nil))))))))) Tryz.func49 an49 (fun x => impl_ClientOk.raw x) (by kernel_rfl) (fun x => by kernel_rfl) fun x r hb h => impl_ClientOk.ok hb h

noncomputable def ci23 : CInfo := mkCI (plains 3) [.v .int, .sl .byte, .v .Addr] [.v .Client] (fun x => clientNewO x.1 x.2.1 x.2.2) [(true, 41)] [1, 5, 8, 9, 11, 12, 15, 16, 18, 20, 23, 25, 28, 31] false
theorem c23 : Contract Tryz.prog 23 ci23 := evC 18 (l := [(27, ci27), (49, ci49)]) tn_mixed tn_ok (phi_cons c27 (phi_cons c49 phi_nil)) Tryz.func23 an0 (fun x => impl_ClientNew.raw x.1 x.2.1 x.2.2) (by kernel_rfl) (fun x => by kernel_rfl) fun x r hb h => impl_ClientNew.ok hb h

noncomputable def ci25 : CInfo := mkCI (plains 1) [.sl .byte] [.v .Note] (fun x => noteRolledO x) [(true, 12)] [3, 4, 7, 8] false
theorem c25 : Contract Tryz.prog 25 ci25 := evC 6 (l := [(27, ci27)]) tn_mixed tn_ok (phi_cons c27 phi_nil) Tryz.func25 an0 (fun x => impl_rollNote.raw x) (by kernel_rfl) (fun x => by kernel_rfl) fun x r hb h => impl_rollNote.ok hb h

def an6 : An := ⟨[(1835015, ⟨[.own 10 .byte], [(29, 33)], []⟩)], [], [], [], []⟩
noncomputable def ci6 : CInfo := mkCI (plains 4) [.sl .byte, .sl .byte, .sl .byte, .v .int] [.v .World] (fun x => worldNewO x.1 x.2.1 x.2.2.1 x.2.2.2) [(true, 14)] [1, 2, 3, 4, 7, 8, 9, 11, 12, 13] false
theorem c6 : Contract Tryz.prog 6 ci6 := evC 57 (l := [(20, ci20), (21, ci21), (22, ci22), (23, ci23), (24, ci24), (25, ci25), (26, ci26), (27, ci27)]) tn_mixed tn_ok (phi_cons c20 (phi_cons c21 (phi_cons c22 (phi_cons c23 (phi_cons c24 (phi_cons c25 (phi_cons c26 (phi_cons c27 phi_nil)))))))) Tryz.func6 an6 (fun x => impl_WorldNew.raw x.1 x.2.1 x.2.2.1 x.2.2.2) (by kernel_rfl) (fun x => by kernel_rfl) fun x r hb h => impl_WorldNew.ok hb h

noncomputable def ci120 : CInfo := mkCI (plains 1) [.v .Dice] [.v .Dice] (fun x => diceCopyO x) [(true, 2)] [0] false
theorem c120 : Contract Tryz.prog 120 ci120 := evC 10 tn_mixed tn_ok phi_nil Tryz.func120 an0 (fun x => spec_l10Copy.raw x) (by kernel_rfl) (fun x => by kernel_rfl) fun x r hb h => spec_l10Copy.ok hb h

def an40 : An := ⟨[], [], [], [(1, ⟨[.slot 6 (.v .bool)], [(7, 14)], []⟩)], []⟩
noncomputable def ci40 : CInfo := mkCI (plains 3) [.v .int, .v .int, .v .int] [.v .bool] (fun x => some (inR x.1 x.2.1 x.2.2)) [(false, 1)] [] false
theorem c40 : Contract Tryz.prog 40 ci40 := evC 15 tn_mixed tn_ok phi_nil Tryz.func40 an40 (fun x => spec_l1In.raw x.1 x.2.1 x.2.2) (by kernel_rfl) (fun x => by kernel_rfl) fun x r hb h => (spec_l1In.ok hb).trans h

def an41 : An := ⟨[], [], [], [(1, ⟨[.slot 2 (.v .bool)], [(3, 11)], []⟩)], []⟩
noncomputable def ci41 : CInfo := mkCI (plains 1) [.v .Dice] [.v .bool] (fun x => some (diceOk x)) [(false, 1)] [] false
theorem c41 : Contract Tryz.prog 41 ci41 := evC 12 (l := [(40, ci40)]) tn_mixed tn_ok (phi_cons c40 phi_nil) Tryz.func41 an41 (fun x => spec_DiceOk.raw x) (by kernel_rfl) (fun x => by kernel_rfl) fun x r hb h => (spec_DiceOk.ok hb).trans h

def an79 : An := ⟨[], [(0, ⟨[.own 7 .byte], [(8, 8), (21, 33)], []⟩)], [(5, ⟨[.own 7 .byte, .slot 8 (.v .int)], [(21, 33)], []⟩)], [(2, ⟨[.slot 17 (.v .bool)], [(12, 16)], []⟩)], []⟩
noncomputable def ci79 : CInfo := mkCI (plains 3) [.sl .byte, .v .int, .v .int] [.sl .byte] (fun x => putNO x.1 x.2.1 x.2.2) [(false, 1)] [0] false
theorem c79 : Contract Tryz.prog 79 ci79 := evC 35 tn_mixed tn_ok phi_nil Tryz.func79 an79 (fun x => spec_PutN.raw x.1 x.2.1 x.2.2) (by kernel_rfl) (fun x => by kernel_rfl) fun x r hb h => spec_PutN.ok hb h

def an160 : An := ⟨[], [(0, ⟨[.own 3 .byte], [(12, 21)], []⟩)], [(4, ⟨[.own 3 .byte], [(12, 21)], []⟩)], [(1, ⟨[.slot 9 (.v .bool)], [(4, 8)], []⟩)], []⟩
noncomputable def ci160 : CInfo := mkCI (plains 1) [.v .int] [.sl .byte] (fun x => padO x) [(false, 1)] [0] false
theorem c160 : Contract Tryz.prog 160 ci160 := evC 27 (l := [(79, ci79)]) tn_mixed tn_ok (phi_cons c79 phi_nil) Tryz.func160 an160 (fun x => spec_Pad.raw x) (by kernel_rfl) (fun x => by kernel_rfl) fun x r hb h => spec_Pad.ok hb h

noncomputable def ci161 : CInfo := mkCI (plains 0) [] [.sl .int] (fun _ => some (start)) [(false, 1)] [0] false
theorem c161 : Contract Tryz.prog 161 ci161 := evC 2 tn_mixed tn_ok phi_nil Tryz.func161 an0 (fun _ => spec_Start.raw) (by kernel_rfl) (fun x => by kernel_rfl) fun x r hb h => (spec_Start.ok hb).trans h

def an176 : An := ⟨[], [(0, ⟨[], [(2, 15)], []⟩)], [(2, ⟨[.slot 3 (.v .int)], [(2, 2), (4, 15)], []⟩)], [], []⟩
noncomputable def ci176 : CInfo := mkCI (plains 1) [.sl .int] [.v .bool] (fun x => some (words8 x)) [(false, 1)] [] false
theorem c176 : Contract Tryz.prog 176 ci176 := evC 19 (l := [(40, ci40)]) tn_mixed tn_ok (phi_cons c40 phi_nil) Tryz.func176 an176 (fun x => spec_l2Words.raw x) (by kernel_rfl) (fun x => by kernel_rfl) fun x r hb h => (spec_l2Words.ok hb).trans h

noncomputable def ci177 : CInfo := mkCI (plains 0) [] [.sl .int] (fun _ => some (kTab)) [(false, 1)] [0] false
theorem c177 : Contract Tryz.prog 177 ci177 := evC 2 tn_mixed tn_ok phi_nil Tryz.func177 an0 (fun _ => spec_l2K.raw) (by kernel_rfl) (fun x => by kernel_rfl) fun x r hb h => (spec_l2K.ok hb).trans h

def an185 : An := ⟨[], [(0, ⟨[.slot 9 (.v .int)], [(10, 10), (29, 43)], []⟩)], [(5, ⟨[.slot 9 (.v .int), .slot 10 (.v .int)], [(29, 43)], []⟩)], [(1, ⟨[.slot 28 (.v .bool)], [(11, 27)], []⟩)], []⟩
noncomputable def ci185 : CInfo := mkCI (plains 3) [.sl .byte, .v .int, .v .int] [.v .int, .v .int, .v .bool] (fun x => getNO x.1 x.2.1 x.2.2) [(false, 1), (false, 1), (false, 1)] [] false
theorem c185 : Contract Tryz.prog 185 ci185 := evC 48 tn_mixed tn_ok phi_nil Tryz.func185 an185 (fun x => spec_GetN.raw x.1 x.2.1 x.2.2) (by kernel_rfl) (fun x => by kernel_rfl) fun x r hb h => spec_GetN.ok hb h

def an179 : An := ⟨[], [], [], [(2, ⟨[.slot 13 (.v .bool)], [(8, 12)], []⟩)], []⟩
noncomputable def ci179 : CInfo := mkCI (plains 2) [.v .int, .v .int] [.v .int] (fun x => rotO x.1 x.2) [(false, 1)] [] false
theorem c179 : Contract Tryz.prog 179 ci179 := evC 24 tn_mixed tn_ok phi_nil Tryz.func179 an179 (fun x => spec_Rot.raw x.1 x.2) (by kernel_rfl) (fun x => by kernel_rfl) fun x r hb h => spec_Rot.ok hb h

def an178 : An := ⟨[], [(0, ⟨[.own 3 .int], [(4, 7), (18, 33)], []⟩), (2, ⟨[.own 3 .int], [(8, 12), (34, 82)], []⟩)], [(5, ⟨[.own 3 .int, .slot 4 (.v .int)], [(5, 7), (18, 33)], []⟩), (10, ⟨[.own 3 .int, .slot 8 (.v .int)], [(9, 12), (34, 82)], []⟩)], [], []⟩
noncomputable def ci178 : CInfo := mkCI (plains 1) [.sl .byte] [.sl .int] (fun x => scheduleO x) [(false, 1)] [0] false
theorem c178 : Contract Tryz.prog 178 ci178 := evC 84 (l := [(179, ci179), (185, ci185)]) tn_mixed tn_ok (phi_cons c179 (phi_cons c185 phi_nil)) Tryz.func178 an178 (fun x => spec_Schedule.raw x) (by kernel_rfl) (fun x => by kernel_rfl) fun x r hb h => spec_Schedule.ok hb h

def an162 : An := ⟨[], [(0, ⟨[.slot 8 (.v .int), .slot 9 (.v .int), .slot 10 (.v .int), .slot 11 (.v .int), .slot 12 (.v .int), .slot 13 (.v .int), .slot 14 (.v .int), .slot 15 (.v .int)], [(16, 18), (60, 128)], []⟩), (2, ⟨[.own 5 .int], [(20, 20), (138, 154)], []⟩)], [(8, ⟨[.slot 8 (.v .int), .slot 9 (.v .int), .slot 10 (.v .int), .slot 11 (.v .int), .slot 12 (.v .int), .slot 13 (.v .int), .slot 14 (.v .int), .slot 15 (.v .int), .slot 16 (.v .int)], [(17, 18), (60, 128)], []⟩), (22, ⟨[.slot 20 (.v .int), .own 5 .int], [(138, 154)], []⟩)], [(2, ⟨[.slot 31 (.v .bool)], [(24, 30)], []⟩)], []⟩
noncomputable def ci162 : CInfo := mkCI (plains 2) [.sl .int, .sl .byte] [.sl .int] (fun x => compressO x.1 x.2) [(false, 1)] [0] false
theorem c162 : Contract Tryz.prog 162 ci162 := evC 156 (l := [(176, ci176), (177, ci177), (178, ci178), (179, ci179)]) tn_mixed tn_ok (phi_cons c176 (phi_cons c177 (phi_cons c178 (phi_cons c179 phi_nil)))) Tryz.func162 an162 (fun x => spec_Compress.raw x.1 x.2) (by kernel_rfl) (fun x => by kernel_rfl) fun x r hb h => spec_Compress.ok hb h

def an163 : An := ⟨[], [(0, ⟨[.own 3 .byte], [(4, 4), (6, 15)], []⟩)], [(3, ⟨[.own 3 .byte, .slot 4 (.v .int)], [(6, 15)], []⟩)], [], []⟩
noncomputable def ci163 : CInfo := mkCI (plains 1) [.sl .int] [.sl .byte] (fun x => wordBytesO x) [(false, 1)] [0] false
theorem c163 : Contract Tryz.prog 163 ci163 := evC 17 (l := [(79, ci79)]) tn_mixed tn_ok (phi_cons c79 phi_nil) Tryz.func163 an163 (fun x => spec_l2Out.raw x) (by kernel_rfl) (fun x => by kernel_rfl) fun x r hb h => spec_l2Out.ok hb h

def an126 : An := ⟨[], [(0, ⟨[.own 4 .int], [(5, 5), (18, 30)], [3]⟩)], [(6, ⟨[.own 4 .int, .slot 5 (.v .int)], [(18, 30)], []⟩)], [], []⟩
noncomputable def ci126 : CInfo := mkCI (plains 1) [.sl .byte] [.sl .byte] (fun x => some (sha x)) [(false, 1)] [0] false
theorem c126 : Contract Tryz.prog 126 ci126 := evC 33 (l := [(160, ci160), (161, ci161), (162, ci162), (163, ci163)]) tn_mixed tn_ok (phi_cons c160 (phi_cons c161 (phi_cons c162 (phi_cons c163 phi_nil)))) Tryz.func126 an126 (fun x => spec_Sha.raw x) (by kernel_rfl) (fun x => by kernel_rfl) fun x r hb h => (spec_Sha.ok hb).trans h

def an125 : An := ⟨[(851974, ⟨[.own 3 .byte], [(14, 15)], []⟩)], [(0, ⟨[.own 3 .byte], [(16, 21)], []⟩)], [(6, ⟨[.own 3 .byte], [(16, 21)], []⟩)], [], []⟩
noncomputable def ci125 : CInfo := mkCI (plains 1) [.sl .byte] [.sl .byte] (fun x => some (blockKey x)) [(false, 1)] [0] false
theorem c125 : Contract Tryz.prog 125 ci125 := evC 23 (l := [(126, ci126)]) tn_mixed tn_ok (phi_cons c126 phi_nil) Tryz.func125 an125 (fun x => spec_BlockKey.raw x) (by kernel_rfl) (fun x => by kernel_rfl) fun x r hb h => (spec_BlockKey.ok hb).trans h

def an78 : An := ⟨[], [(0, ⟨[.own 6 .byte, .own 7 .byte], [(8, 8), (22, 41)], []⟩)], [(7, ⟨[.own 6 .byte, .own 7 .byte, .slot 8 (.v .int)], [(22, 41)], []⟩)], [(1, ⟨[.slot 16 (.v .bool)], [(9, 15)], []⟩)], []⟩
noncomputable def ci78 : CInfo := mkCI (plains 2) [.sl .byte, .sl .byte] [.sl .byte] (fun x => some (hmac x.1 x.2)) [(false, 1)] [0] false
theorem c78 : Contract Tryz.prog 78 ci78 := evC 49 (l := [(125, ci125), (126, ci126)]) tn_mixed tn_ok (phi_cons c125 (phi_cons c126 phi_nil)) Tryz.func78 an78 (fun x => spec_Hmac.raw x.1 x.2) (by kernel_rfl) (fun x => by kernel_rfl) fun x r hb h => (spec_Hmac.ok hb).trans h

def an34 : An := ⟨[], [], [], [(1, ⟨[.slot 13 (.v .bool)], [(5, 12)], []⟩)], []⟩
noncomputable def ci34 : CInfo := mkCI (plains 2) [.sl .byte, .v .int] [.sl .byte] (fun x => some (diceAt x.1 x.2)) [(false, 1)] [0] false
theorem c34 : Contract Tryz.prog 34 ci34 := evC 24 (l := [(40, ci40), (78, ci78), (79, ci79)]) tn_mixed tn_ok (phi_cons c40 (phi_cons c78 (phi_cons c79 phi_nil))) Tryz.func34 an34 (fun x => spec_DiceAt.raw x.1 x.2) (by kernel_rfl) (fun x => by kernel_rfl) fun x r hb h => (spec_DiceAt.ok hb).trans h

def an70 : An := ⟨[], [], [], [(2, ⟨[.slot 14 (.v .bool)], [(7, 13)], []⟩)], []⟩
noncomputable def ci70 : CInfo := mkCI (plains 1) [.v .Dice] [.v .Dice, .sl .byte] (fun x => rollO x) [(true, 2), (false, 1)] [0, 2] false
theorem c70 : Contract Tryz.prog 70 ci70 := evC 27 (l := [(34, ci34), (41, ci41), (120, ci120)]) tn_mixed tn_ok (phi_cons c34 (phi_cons c41 (phi_cons c120 phi_nil))) Tryz.func70 an70 (fun x => spec_Roll.raw x) (by kernel_rfl) (fun x => by kernel_rfl) fun x r hb h => spec_Roll.ok hb h

def an158 : An := ⟨[], [(0, ⟨[.own 8 .byte, .own 9 .byte], [(10, 10), (27, 46)], []⟩)], [(6, ⟨[.own 8 .byte, .own 9 .byte, .slot 10 (.v .int)], [(27, 46)], []⟩)], [(1, ⟨[.slot 23 (.v .bool)], [(11, 22)], []⟩)], []⟩
noncomputable def ci158 : CInfo := mkCI (plains 3) [.sl .byte, .sl .byte, .v .int] [.sl .byte, .v .bool] (fun x => some (expand x.1 x.2.1 x.2.2)) [(false, 1), (false, 1)] [0] false
theorem c158 : Contract Tryz.prog 158 ci158 := evC 52 (l := [(40, ci40), (78, ci78)]) tn_mixed tn_ok (phi_cons c40 (phi_cons c78 phi_nil)) Tryz.func158 an158 (fun x => spec_Expand.raw x.1 x.2.1 x.2.2) (by kernel_rfl) (fun x => by kernel_rfl) fun x r hb h => (spec_Expand.ok hb).trans h

noncomputable def ci121 : CInfo := mkCI (plains 2) [.sl .byte, .v .str] [.sl .byte] (fun x => deriveO x.1 x.2) [(false, 1)] [0] false
theorem c121 : Contract Tryz.prog 121 ci121 := evC 15 (l := [(158, ci158)]) tn_mixed tn_ok (phi_cons c158 phi_nil) Tryz.func121 an0 (fun x => spec_Derive.raw x.1 x.2) (by kernel_rfl) (fun x => by kernel_rfl) fun x r hb h => spec_Derive.ok hb h

noncomputable def ci71 : CInfo := mkCI (plains 1) [.sl .byte] [.v .Jar] (fun x => some (jarNew x)) [(true, 1)] [0] false
theorem c71 : Contract Tryz.prog 71 ci71 := evC 10 (l := [(121, ci121)]) tn_mixed tn_ok (phi_cons c121 phi_nil) Tryz.func71 an0 (fun x => spec_JarNew.raw x) (by kernel_rfl) (fun x => by kernel_rfl) fun x r hb h => (spec_JarNew.ok hb).trans h

noncomputable def ci72 : CInfo := mkCI (plains 1) [.v .int] [.v .Tab] (fun x => some (tabNew x)) [(true, 2)] [1] false
theorem c72 : Contract Tryz.prog 72 ci72 := evC 9 (l := [(40, ci40)]) tn_mixed tn_ok (phi_cons c40 phi_nil) Tryz.func72 an0 (fun x => spec_TabNew.raw x) (by kernel_rfl) (fun x => by kernel_rfl) fun x r hb h => (spec_TabNew.ok hb).trans h

noncomputable def ci73 : CInfo := mkCI (plains 1) [.v .Jar] [.v .bool] (fun x => some (jarOk x)) [(false, 1)] [] false
theorem c73 : Contract Tryz.prog 73 ci73 := evC 7 tn_mixed tn_ok phi_nil Tryz.func73 an0 (fun x => spec_JarOk.raw x) (by kernel_rfl) (fun x => by kernel_rfl) fun x r hb h => (spec_JarOk.ok hb).trans h

def an122 : An := ⟨[(1179655, ⟨[.slot 3 (.v .int)], [(19, 20)], []⟩)], [(0, ⟨[.slot 3 (.v .int)], [(4, 20)], []⟩)], [(3, ⟨[.slot 3 (.v .int), .slot 4 (.v .int)], [(5, 20)], []⟩)], [], []⟩
noncomputable def ci122 : CInfo := mkCI (plains 1) [.v .Tab] [.v .int] (fun x => liveO x) [(false, 1)] [] false
theorem c122 : Contract Tryz.prog 122 ci122 := evC 22 tn_mixed tn_ok phi_nil Tryz.func122 an122 (fun x => spec_Live.raw x) (by kernel_rfl) (fun x => by kernel_rfl) fun x r hb h => spec_Live.ok hb h

def an129 : An := ⟨[], [], [], [(1, ⟨[.slot 2 (.v .bool)], [(3, 29)], []⟩)], []⟩
noncomputable def ci129 : CInfo := mkCI (plains 1) [.v .Ep] [.v .bool] (fun x => some (noEp x)) [(false, 1)] [] false
theorem c129 : Contract Tryz.prog 129 ci129 := evC 30 tn_mixed tn_ok phi_nil Tryz.func129 an129 (fun x => spec_l14None.raw x) (by kernel_rfl) (fun x => by kernel_rfl) fun x r hb h => (spec_l14None.ok hb).trans h

def an88 : An := ⟨[], [], [], [(1, ⟨[.slot 2 (.v .bool)], [(3, 37)], []⟩)], []⟩
noncomputable def ci88 : CInfo := mkCI (plains 1) [.v .Chan] [.v .bool] (fun x => some (noChan x)) [(false, 1)] [] false
theorem c88 : Contract Tryz.prog 88 ci88 := evC 38 (l := [(129, ci129)]) tn_mixed tn_ok (phi_cons c129 phi_nil) Tryz.func88 an88 (fun x => spec_l19NoChan.raw x) (by kernel_rfl) (fun x => by kernel_rfl) fun x r hb h => (spec_l19NoChan.ok hb).trans h

noncomputable def ci32 : CInfo := mkCI (plains 1) [.v .int] [.v .Addr] (fun x => some (near x)) [(true, 2)] [] false
theorem c32 : Contract Tryz.prog 32 ci32 := evC 12 (l := [(40, ci40)]) tn_mixed tn_ok (phi_cons c40 phi_nil) Tryz.func32 an0 (fun x => spec_Near.raw x) (by kernel_rfl) (fun x => by kernel_rfl) fun x r hb h => (spec_Near.ok hb).trans h

noncomputable def ci181 : CInfo := mkCI (plains 2) [.v .Win, .v .int] [.v .bool] (fun x => bitO x.1 x.2) [(false, 1)] [] false
theorem c181 : Contract Tryz.prog 181 ci181 := evC 19 tn_mixed tn_ok phi_nil Tryz.func181 an0 (fun x => spec_l8Bit.raw x.1 x.2) (by kernel_rfl) (fun x => by kernel_rfl) fun x r hb h => spec_l8Bit.ok hb h

def an166 : An := ⟨[], [(0, ⟨[], [(2, 3), (15, 25)], []⟩), (2, ⟨[], [(2, 2), (4, 4), (39, 45)], []⟩)], [(4, ⟨[.slot 3 (.v .int)], [(2, 2), (15, 25)], []⟩), (11, ⟨[.slot 4 (.v .int)], [(2, 2), (39, 45)], []⟩)], [(1, ⟨[.slot 14 (.v .bool)], [(5, 13)], []⟩), (8, ⟨[.slot 35 (.v .bool)], [(26, 34)], []⟩)], []⟩
noncomputable def ci166 : CInfo := mkCI (plains 1) [.v .Win] [.v .bool] (fun x => some (winOk x)) [(false, 1)] [] false
theorem c166 : Contract Tryz.prog 166 ci166 := evC 46 (l := [(40, ci40), (181, ci181)]) tn_mixed tn_ok (phi_cons c40 (phi_cons c181 phi_nil)) Tryz.func166 an166 (fun x => spec_WinOk.raw x) (by kernel_rfl) (fun x => by kernel_rfl) fun x r hb h => (spec_WinOk.ok hb).trans h

def an130 : An := ⟨[], [], [], [(1, ⟨[.slot 2 (.v .bool)], [(3, 21)], []⟩)], []⟩
noncomputable def ci130 : CInfo := mkCI (plains 1) [.v .Ep] [.v .bool] (fun x => some (epOk x)) [(false, 1)] [] false
theorem c130 : Contract Tryz.prog 130 ci130 := evC 22 (l := [(40, ci40), (166, ci166)]) tn_mixed tn_ok (phi_cons c40 (phi_cons c166 phi_nil)) Tryz.func130 an130 (fun x => spec_EpOk.raw x) (by kernel_rfl) (fun x => by kernel_rfl) fun x r hb h => (spec_EpOk.ok hb).trans h

def an89 : An := ⟨[(1376261, ⟨[], [(2, 3), (22, 54)], []⟩), (1572871, ⟨[.slot 3 (.v .int)], [], []⟩)], [], [], [(1, ⟨[.slot 19 (.v .bool)], [(4, 18)], []⟩), (7, ⟨[.slot 45 (.v .bool)], [(25, 44)], []⟩), (9, ⟨[.slot 54 (.v .bool)], [(46, 53)], []⟩), (13, ⟨[.slot 2 (.v .bool)], [(59, 73)], []⟩)], []⟩
noncomputable def ci89 : CInfo := mkCI (plains 1) [.v .Chan] [.v .bool] (fun x => chanOkO x) [(false, 1)] [] false
theorem c89 : Contract Tryz.prog 89 ci89 := evC 74 (l := [(40, ci40), (129, ci129), (130, ci130)]) tn_mixed tn_ok (phi_cons c40 (phi_cons c129 (phi_cons c130 phi_nil))) Tryz.func89 an89 (fun x => spec_ChanOk.raw x) (by kernel_rfl) (fun x => by kernel_rfl) fun x r hb h => spec_ChanOk.ok hb h

noncomputable def ci44 : CInfo := mkCI (plains 2) [.sl .byte, .sl .byte] [.v .bool] (fun x => sameO x.1 x.2) [(false, 1)] [] false
theorem c44 : Contract Tryz.prog 44 ci44 := evC 10 tn_mixed tn_ok phi_nil Tryz.func44 an0 (fun x => spec_l1Same.raw x.1 x.2) (by kernel_rfl) (fun x => by kernel_rfl) fun x r hb h => spec_l1Same.ok hb h

def an77 : An := ⟨[], [], [], [(1, ⟨[.slot 2 (.v .bool)], [(3, 10)], []⟩)], []⟩
noncomputable def ci77 : CInfo := mkCI (plains 1) [.v .Addr] [.v .bool] (fun x => some (addrOk x)) [(false, 1)] [] false
theorem c77 : Contract Tryz.prog 77 ci77 := evC 11 (l := [(40, ci40)]) tn_mixed tn_ok (phi_cons c40 phi_nil) Tryz.func77 an77 (fun x => spec_AddrOk.raw x) (by kernel_rfl) (fun x => by kernel_rfl) fun x r hb h => (spec_AddrOk.ok hb).trans h

def an159 : An := ⟨[], [(0, ⟨[], [(2, 5), (16, 64)], []⟩), (2, ⟨[], [(2, 2), (5, 5), (51, 64)], []⟩)], [(4, ⟨[.slot 3 (.v .int)], [(2, 2), (4, 5), (16, 64)], []⟩), (10, ⟨[.slot 5 (.v .int)], [(2, 2), (51, 64)], []⟩)], [(1, ⟨[.slot 15 (.v .bool)], [(6, 14)], []⟩), (7, ⟨[.slot 50 (.v .bool)], [(28, 49)], []⟩)], []⟩
noncomputable def ci159 : CInfo := mkCI (plains 1) [.v .Paths] [.v .bool] (fun x => some (pathsOk x)) [(false, 1)] [] false
theorem c159 : Contract Tryz.prog 159 ci159 := evC 65 (l := [(40, ci40), (77, ci77)]) tn_mixed tn_ok (phi_cons c40 (phi_cons c77 phi_nil)) Tryz.func159 an159 (fun x => spec_PathsOk.raw x) (by kernel_rfl) (fun x => by kernel_rfl) fun x r hb h => (spec_PathsOk.ok hb).trans h

def an123 : An := ⟨[], [], [], [(1, ⟨[.slot 30 (.v .bool)], [(3, 29)], []⟩), (4, ⟨[.slot 2 (.v .bool)], [(33, 54)], []⟩), (5, ⟨[.slot 2 (.v .bool)], [(55, 76)], []⟩)], []⟩
noncomputable def ci123 : CInfo := mkCI (plains 1) [.v .Sess] [.v .bool] (fun x => sessOkO x) [(false, 1)] [] false
theorem c123 : Contract Tryz.prog 123 ci123 := evC 77 (l := [(32, ci32), (40, ci40), (44, ci44), (88, ci88), (89, ci89), (159, ci159)]) tn_mixed tn_ok (phi_cons c32 (phi_cons c40 (phi_cons c44 (phi_cons c88 (phi_cons c89 (phi_cons c159 phi_nil)))))) Tryz.func123 an123 (fun x => spec_SessOk.raw x) (by kernel_rfl) (fun x => by kernel_rfl) fun x r hb h => spec_SessOk.ok hb h

def an124 : An := ⟨[], [(0, ⟨[], [(4, 21)], []⟩)], [(2, ⟨[.slot 5 (.v .int)], [(4, 4), (6, 21)], []⟩)], [], []⟩
noncomputable def ci124 : CInfo := mkCI (plains 2) [.v .Tab, .sl .byte] [.v .int] (fun x => findSnO x.1 x.2) [(false, 1)] [] false
theorem c124 : Contract Tryz.prog 124 ci124 := evC 22 (l := [(44, ci44)]) tn_mixed tn_ok (phi_cons c44 phi_nil) Tryz.func124 an124 (fun x => spec_FindSn.raw x.1 x.2) (by kernel_rfl) (fun x => by kernel_rfl) fun x r hb h => spec_FindSn.ok hb h

def an74 : An := ⟨[], [(0, ⟨[], [(2, 3), (21, 46)], []⟩)], [(4, ⟨[.slot 3 (.v .int)], [(2, 2), (21, 46)], []⟩)], [(1, ⟨[.slot 20 (.v .bool)], [(4, 19)], []⟩), (6, ⟨[.slot 46 (.v .bool)], [(28, 45)], []⟩)], []⟩
noncomputable def ci74 : CInfo := mkCI (plains 1) [.v .Tab] [.v .bool] (fun x => tabOkO x) [(false, 1)] [] false
theorem c74 : Contract Tryz.prog 74 ci74 := evC 47 (l := [(40, ci40), (122, ci122), (123, ci123), (124, ci124)]) tn_mixed tn_ok (phi_cons c40 (phi_cons c122 (phi_cons c123 (phi_cons c124 phi_nil)))) Tryz.func74 an74 (fun x => spec_TabOk.raw x) (by kernel_rfl) (fun x => by kernel_rfl) fun x r hb h => spec_TabOk.ok hb h

def an75 : An := ⟨[], [(0, ⟨[], [(2, 4), (8, 60)], []⟩), (2, ⟨[], [(2, 2), (4, 4), (45, 60)], []⟩)], [(4, ⟨[.slot 3 (.v .int)], [(2, 2), (4, 4), (8, 60)], []⟩), (9, ⟨[.slot 4 (.v .int)], [(2, 2), (45, 60)], []⟩)], [(6, ⟨[.slot 44 (.v .bool)], [(14, 43)], []⟩)], []⟩
noncomputable def ci75 : CInfo := mkCI (plains 1) [.sl .Credit] [.v .bool] (fun x => some (creditsOk x)) [(false, 1)] [] false
theorem c75 : Contract Tryz.prog 75 ci75 := evC 61 (l := [(40, ci40), (77, ci77)]) tn_mixed tn_ok (phi_cons c40 (phi_cons c77 phi_nil)) Tryz.func75 an75 (fun x => spec_CreditsOk.raw x) (by kernel_rfl) (fun x => by kernel_rfl) fun x r hb h => (spec_CreditsOk.ok hb).trans h

noncomputable def ci76 : CInfo := mkCI (plains 1) [.sl .byte] [.v .bool] (fun x => some (pskOk x)) [(false, 1)] [] false
theorem c76 : Contract Tryz.prog 76 ci76 := evC 6 (l := [(40, ci40)]) tn_mixed tn_ok (phi_cons c40 phi_nil) Tryz.func76 an0 (fun x => spec_PskOk.raw x) (by kernel_rfl) (fun x => by kernel_rfl) fun x r hb h => (spec_PskOk.ok hb).trans h

def an29 : An := ⟨[], [(0, ⟨[], [(2, 3), (34, 47)], []⟩), (2, ⟨[], [(2, 2), (4, 4), (48, 66)], []⟩)], [(4, ⟨[.slot 3 (.v .int)], [(2, 2), (34, 47)], []⟩), (9, ⟨[.slot 4 (.v .int)], [(2, 2), (48, 66)], []⟩)], [(1, ⟨[.slot 33 (.v .bool)], [(5, 32)], []⟩)], []⟩
noncomputable def ci29 : CInfo := mkCI (plains 1) [.v .Server] [.v .bool] (fun x => serverOkO x) [(false, 1)] [] false
theorem c29 : Contract Tryz.prog 29 ci29 := evC 67 (l := [(40, ci40), (41, ci41), (73, ci73), (74, ci74), (75, ci75), (76, ci76)]) tn_mixed tn_ok (phi_cons c40 (phi_cons c41 (phi_cons c73 (phi_cons c74 (phi_cons c75 (phi_cons c76 phi_nil)))))) Tryz.func29 an29 (fun x => spec_ServerOk.raw x) (by kernel_rfl) (fun x => by kernel_rfl) fun x r hb h => spec_ServerOk.ok hb h

def an28 : An := ⟨[], [(0, ⟨[.box 9 .Server [0, 1, 2, 5, 6]], [(10, 10), (23, 39)], []⟩)], [(4, ⟨[.slot 10 (.v .int), .box 9 .Server [0, 1, 2, 5, 6]], [(23, 39)], []⟩)], [], []⟩
noncomputable def ci28 : CInfo := mkCI (plains 3) [.sl .bs, .sl .byte, .v .int] [.v .Server] (fun x => serverNewO x.1 x.2.1 x.2.2) [(true, 7)] [0, 1, 2, 5, 6] false
theorem c28 : Contract Tryz.prog 28 ci28 := evC 45 (l := [(29, ci29), (70, ci70), (71, ci71), (72, ci72)]) tn_mixed tn_ok (phi_cons c29 (phi_cons c70 (phi_cons c71 (phi_cons c72 phi_nil)))) Tryz.func28 an28 (fun x => spec_ServerNew.raw x.1 x.2.1 x.2.2) (by kernel_rfl) (fun x => by kernel_rfl) fun x r hb h => spec_ServerNew.ok hb h

def an30 : An := ⟨[(589828, ⟨[.own 3 .byte], [(10, 11)], []⟩)], [], [], [], []⟩
noncomputable def ci30 : CInfo := mkCI (plains 1) [.sl .byte] [.sl .byte] (fun x => seed25O x) [(false, 1)] [0] false
theorem c30 : Contract Tryz.prog 30 ci30 := evC 15 tn_mixed tn_ok phi_nil Tryz.func30 an30 (fun x => spec_l25Seed.raw x) (by kernel_rfl) (fun x => by kernel_rfl) fun x r hb h => spec_l25Seed.ok hb h

def an31 : An := ⟨[], [], [], [(1, ⟨[.slot 19 (.v .bool)], [(7, 18)], []⟩)], []⟩
noncomputable def ci31 : CInfo := mkCI (plains 3) [.v .int, .sl .byte, .v .Addr] [.v .Client] (fun x => clientNewO x.1 x.2.1 x.2.2) [(true, 41)] [1, 5, 8, 9, 11, 12, 15, 16, 18, 20, 23, 25, 28, 31] false
theorem c31 : Contract Tryz.prog 31 ci31 := evC 27 (l := [(40, ci40), (76, ci76), (77, ci77)]) tn_mixed tn_ok (phi_cons c40 (phi_cons c76 (phi_cons c77 phi_nil))) Tryz.func31 an31 (fun x => spec_ClientNew.raw x.1 x.2.1 x.2.2) (by kernel_rfl) (fun x => by kernel_rfl) fun x r hb h => spec_ClientNew.ok hb h

noncomputable def ci33 : CInfo := mkCI (plains 1) [.sl .byte] [.v .Note] (fun x => noteRolledO x) [(true, 12)] [3, 4, 7, 8] false
theorem c33 : Contract Tryz.prog 33 ci33 := evC 7 tn_mixed tn_ok phi_nil Tryz.func33 an0 (fun x => spec_l22Rolled.raw x) (by kernel_rfl) (fun x => by kernel_rfl) fun x r hb h => spec_l22Rolled.ok hb h

noncomputable def ci7 : CInfo := mkCI (plains 4) [.sl .byte, .sl .byte, .sl .byte, .v .int] [.v .World] (fun x => worldNewO x.1 x.2.1 x.2.2.1 x.2.2.2) [(true, 14)] [1, 2, 3, 4, 7, 8, 9, 11, 12, 13] false
theorem c7 : Contract Tryz.prog 7 ci7 := evC 46 (l := [(28, ci28), (29, ci29), (30, ci30), (31, ci31), (32, ci32), (33, ci33), (34, ci34)]) tn_mixed tn_ok (phi_cons c28 (phi_cons c29 (phi_cons c30 (phi_cons c31 (phi_cons c32 (phi_cons c33 (phi_cons c34 phi_nil))))))) Tryz.func7 an0 (fun x => spec_WorldNew.raw x.1 x.2.1 x.2.2.1 x.2.2.2) (by kernel_rfl) (fun x => by kernel_rfl) fun x r hb h => spec_WorldNew.ok hb h

noncomputable def ci36 : CInfo := mkCI (plains 2) [.sl .byte, .sl .byte] [.v .bool] (fun x => (fun (a0 : List UInt8) (a1 : List UInt8) => sqO a0 a1) x.1 x.2) [(false, 1)] [] false
theorem c36 : Contract Tryz.prog 36 ci36 := evC 10 tn_mixed tn_ok phi_nil Tryz.func36 an0 (fun x => laws_same.raw x.1 x.2) (by kernel_rfl) (fun x => by kernel_rfl) fun x r hb h => laws_same.ok hb h

def an180 : An := ⟨[], [(0, ⟨[], [(4, 5), (11, 25)], []⟩)], [(4, ⟨[.slot 5 (.v .int)], [(4, 4), (11, 25)], []⟩)], [], []⟩
noncomputable def ci180 : CInfo := mkCI (plains 2) [.sl .int, .sl .int] [.v .bool] (fun x => (fun (a0 : List Int) (a1 : List Int) => sqO a0 a1) x.1 x.2) [(false, 1)] [] false
theorem c180 : Contract Tryz.prog 180 ci180 := evC 26 tn_mixed tn_ok phi_nil Tryz.func180 an180 (fun x => laws_sameInts.raw x.1 x.2) (by kernel_rfl) (fun x => by kernel_rfl) fun x r hb h => laws_sameInts.ok hb h

def an165 : An := ⟨[], [], [], [(1, ⟨[.slot 4 (.v .bool)], [(5, 16)], []⟩)], []⟩
noncomputable def ci165 : CInfo := mkCI (plains 2) [.v .Win, .v .Win] [.v .bool] (fun x => (fun (a0 : G.Win) (a1 : G.Win) => sqO a0 a1) x.1 x.2) [(false, 1)] [] false
theorem c165 : Contract Tryz.prog 165 ci165 := evC 17 (l := [(180, ci180)]) tn_mixed tn_ok (phi_cons c180 phi_nil) Tryz.func165 an165 (fun x => laws_sameWin.raw x.1 x.2) (by kernel_rfl) (fun x => by kernel_rfl) fun x r hb h => laws_sameWin.ok hb h

def an128 : An := ⟨[], [], [], [(1, ⟨[.slot 4 (.v .bool)], [(5, 30)], []⟩)], []⟩
noncomputable def ci128 : CInfo := mkCI (plains 2) [.v .Ep, .v .Ep] [.v .bool] (fun x => (fun (a0 : G.Ep) (a1 : G.Ep) => sqO a0 a1) x.1 x.2) [(false, 1)] [] false
theorem c128 : Contract Tryz.prog 128 ci128 := evC 31 (l := [(36, ci36), (165, ci165)]) tn_mixed tn_ok (phi_cons c36 (phi_cons c165 phi_nil)) Tryz.func128 an128 (fun x => laws_sameEp.raw x.1 x.2) (by kernel_rfl) (fun x => by kernel_rfl) fun x r hb h => laws_sameEp.ok hb h

def an84 : An := ⟨[], [], [], [(1, ⟨[.slot 4 (.v .bool)], [(5, 51)], []⟩)], []⟩
noncomputable def ci84 : CInfo := mkCI (plains 2) [.v .Chan, .v .Chan] [.v .bool] (fun x => (fun (a0 : G.Chan) (a1 : G.Chan) => sqO a0 a1) x.1 x.2) [(false, 1)] [] false
theorem c84 : Contract Tryz.prog 84 ci84 := evC 52 (l := [(36, ci36), (128, ci128)]) tn_mixed tn_ok (phi_cons c36 (phi_cons c128 phi_nil)) Tryz.func84 an84 (fun x => laws_sameChan.raw x.1 x.2) (by kernel_rfl) (fun x => by kernel_rfl) fun x r hb h => laws_sameChan.ok hb h

def an164 : An := ⟨[], [(0, ⟨[], [(4, 5), (20, 70)], []⟩)], [(4, ⟨[.slot 5 (.v .int)], [(4, 4), (20, 70)], []⟩)], [(1, ⟨[.slot 19 (.v .bool)], [(6, 18)], []⟩), (6, ⟨[.slot 70 (.v .bool)], [(27, 69)], []⟩)], []⟩
noncomputable def ci164 : CInfo := mkCI (plains 2) [.v .Paths, .v .Paths] [.v .bool] (fun x => (fun (a0 : G.Paths) (a1 : G.Paths) => sqO a0 a1) x.1 x.2) [(false, 1)] [] false
theorem c164 : Contract Tryz.prog 164 ci164 := evC 71 (l := [(36, ci36)]) tn_mixed tn_ok (phi_cons c36 phi_nil) Tryz.func164 an164 (fun x => laws_samePaths.raw x.1 x.2) (by kernel_rfl) (fun x => by kernel_rfl) fun x r hb h => laws_samePaths.ok hb h

def an127 : An := ⟨[], [], [], [(1, ⟨[.slot 4 (.v .bool)], [(5, 58)], []⟩)], []⟩
noncomputable def ci127 : CInfo := mkCI (plains 2) [.v .Sess, .v .Sess] [.v .bool] (fun x => (fun (a0 : G.Sess) (a1 : G.Sess) => sqO a0 a1) x.1 x.2) [(false, 1)] [] false
theorem c127 : Contract Tryz.prog 127 ci127 := evC 59 (l := [(36, ci36), (84, ci84), (164, ci164)]) tn_mixed tn_ok (phi_cons c36 (phi_cons c84 (phi_cons c164 phi_nil))) Tryz.func127 an127 (fun x => laws_sameSess.raw x.1 x.2) (by kernel_rfl) (fun x => by kernel_rfl) fun x r hb h => laws_sameSess.ok hb h

def an80 : An := ⟨[], [(0, ⟨[], [(4, 5), (20, 38)], []⟩)], [(4, ⟨[.slot 5 (.v .int)], [(4, 4), (20, 38)], []⟩)], [(1, ⟨[.slot 19 (.v .bool)], [(6, 18)], []⟩)], []⟩
noncomputable def ci80 : CInfo := mkCI (plains 2) [.v .Tab, .v .Tab] [.v .bool] (fun x => (fun (a0 : G.Tab) (a1 : G.Tab) => sqO a0 a1) x.1 x.2) [(false, 1)] [] false
theorem c80 : Contract Tryz.prog 80 ci80 := evC 39 (l := [(127, ci127)]) tn_mixed tn_ok (phi_cons c127 phi_nil) Tryz.func80 an80 (fun x => laws_sameTab.raw x.1 x.2) (by kernel_rfl) (fun x => by kernel_rfl) fun x r hb h => laws_sameTab.ok hb h

def an81 : An := ⟨[], [(0, ⟨[], [(4, 5), (11, 25)], []⟩)], [(4, ⟨[.slot 5 (.v .int)], [(4, 4), (11, 25)], []⟩)], [], []⟩
noncomputable def ci81 : CInfo := mkCI (plains 2) [.sl .Credit, .sl .Credit] [.v .bool] (fun x => (fun (a0 : List G.Credit) (a1 : List G.Credit) => sqO a0 a1) x.1 x.2) [(false, 1)] [] false
theorem c81 : Contract Tryz.prog 81 ci81 := evC 26 tn_mixed tn_ok phi_nil Tryz.func81 an81 (fun x => laws_sameCredits.raw x.1 x.2) (by kernel_rfl) (fun x => by kernel_rfl) fun x r hb h => laws_sameCredits.ok hb h

def an35 : An := ⟨[], [(0, ⟨[], [(4, 5), (58, 76)], []⟩)], [(4, ⟨[.slot 5 (.v .int)], [(4, 4), (58, 76)], []⟩)], [(1, ⟨[.slot 57 (.v .bool)], [(6, 56)], []⟩)], []⟩
noncomputable def ci35 : CInfo := mkCI (plains 2) [.v .Server, .v .Server] [.v .bool] (fun x => (fun (a0 : G.Server) (a1 : G.Server) => sqO a0 a1) x.1 x.2) [(false, 1)] [] false
theorem c35 : Contract Tryz.prog 35 ci35 := evC 77 (l := [(36, ci36), (80, ci80), (81, ci81)]) tn_mixed tn_ok (phi_cons c36 (phi_cons c80 (phi_cons c81 phi_nil))) Tryz.func35 an35 (fun x => laws_sameServer.raw x.1 x.2) (by kernel_rfl) (fun x => by kernel_rfl) fun x r hb h => laws_sameServer.ok hb h

def an37 : An := ⟨[], [(0, ⟨[], [(4, 5), (11, 54)], []⟩)], [(4, ⟨[.slot 5 (.v .int)], [(4, 4), (11, 54)], []⟩)], [(6, ⟨[.slot 54 (.v .bool)], [(17, 53)], []⟩)], []⟩
noncomputable def ci37 : CInfo := mkCI (plains 2) [.sl .Wire, .sl .Wire] [.v .bool] (fun x => (fun (a0 : List G.Wire) (a1 : List G.Wire) => sqO a0 a1) x.1 x.2) [(false, 1)] [] false
theorem c37 : Contract Tryz.prog 37 ci37 := evC 55 (l := [(36, ci36)]) tn_mixed tn_ok (phi_cons c36 phi_nil) Tryz.func37 an37 (fun x => laws_sameWires.raw x.1 x.2) (by kernel_rfl) (fun x => by kernel_rfl) fun x r hb h => laws_sameWires.ok hb h

def an82 : An := ⟨[], [], [], [(1, ⟨[.slot 4 (.v .bool)], [(5, 79)], []⟩)], []⟩
noncomputable def ci82 : CInfo := mkCI (plains 2) [.v .Note, .v .Note] [.v .bool] (fun x => (fun (a0 : G.Note) (a1 : G.Note) => sqO a0 a1) x.1 x.2) [(false, 1)] [] false
theorem c82 : Contract Tryz.prog 82 ci82 := evC 80 (l := [(50, ci50)]) tn_mixed tn_ok (phi_cons c50 phi_nil) Tryz.func82 an82 (fun x => impl_SameNote.raw x.1 x.2) (by kernel_rfl) (fun x => by kernel_rfl) fun x r hb h => impl_SameNote.ok hb h

def an38 : An := ⟨[], [(0, ⟨[], [(4, 5), (11, 26)], []⟩)], [(4, ⟨[.slot 5 (.v .int)], [(4, 4), (11, 26)], []⟩)], [], []⟩
noncomputable def ci38 : CInfo := mkCI (plains 2) [.sl .Note, .sl .Note] [.v .bool] (fun x => (fun (a0 : List G.Note) (a1 : List G.Note) => sqO a0 a1) x.1 x.2) [(false, 1)] [] false
theorem c38 : Contract Tryz.prog 38 ci38 := evC 27 (l := [(82, ci82)]) tn_mixed tn_ok (phi_cons c82 phi_nil) Tryz.func38 an38 (fun x => laws_sameNotes.raw x.1 x.2) (by kernel_rfl) (fun x => by kernel_rfl) fun x r hb h => laws_sameNotes.ok hb h

def an83 : An := ⟨[], [], [], [(1, ⟨[.slot 4 (.v .bool)], [(5, 79)], []⟩)], []⟩
noncomputable def ci83 : CInfo := mkCI (plains 2) [.v .Frame, .v .Frame] [.v .bool] (fun x => (fun (a0 : G.Frame) (a1 : G.Frame) => sqO a0 a1) x.1 x.2) [(false, 1)] [] false
theorem c83 : Contract Tryz.prog 83 ci83 := evC 80 (l := [(36, ci36)]) tn_mixed tn_ok (phi_cons c36 phi_nil) Tryz.func83 an83 (fun x => laws_sameFrame.raw x.1 x.2) (by kernel_rfl) (fun x => by kernel_rfl) fun x r hb h => laws_sameFrame.ok hb h

def an39 : An := ⟨[], [], [], [(1, ⟨[.slot 4 (.v .bool)], [(5, 72)], []⟩)], []⟩
noncomputable def ci39 : CInfo := mkCI (plains 2) [.v .Client, .v .Client] [.v .bool] (fun x => (fun (a0 : G.Client) (a1 : G.Client) => sqO a0 a1) x.1 x.2) [(false, 1)] [] false
theorem c39 : Contract Tryz.prog 39 ci39 := evC 73 (l := [(36, ci36), (83, ci83), (84, ci84)]) tn_mixed tn_ok (phi_cons c36 (phi_cons c83 (phi_cons c84 phi_nil))) Tryz.func39 an39 (fun x => laws_sameClient.raw x.1 x.2) (by kernel_rfl) (fun x => by kernel_rfl) fun x r hb h => laws_sameClient.ok hb h

def an8 : An := ⟨[], [(0, ⟨[], [(4, 5), (73, 91)], []⟩), (2, ⟨[], [(4, 4), (6, 6), (92, 110)], []⟩)], [(4, ⟨[.slot 5 (.v .int)], [(4, 4), (73, 91)], []⟩), (9, ⟨[.slot 6 (.v .int)], [(4, 4), (92, 110)], []⟩)], [(1, ⟨[.slot 72 (.v .bool)], [(7, 71)], []⟩)], []⟩
noncomputable def ci8 : CInfo := mkCI (plains 2) [.v .World, .v .World] [.v .bool] (fun x => (fun (a0 : G.World) (a1 : G.World) => sqO a0 a1) x.1 x.2) [(false, 1)] [] false
theorem c8 : Contract Tryz.prog 8 ci8 := evC 111 (l := [(35, ci35), (36, ci36), (37, ci37), (38, ci38), (39, ci39)]) tn_mixed tn_ok (phi_cons c35 (phi_cons c36 (phi_cons c37 (phi_cons c38 (phi_cons c39 phi_nil))))) Tryz.func8 an8 (fun x => laws_sameWorld.raw x.1 x.2) (by kernel_rfl) (fun x => by kernel_rfl) fun x r hb h => laws_sameWorld.ok hb h

def an85 : An := ⟨[], [], [], [(1, ⟨[.slot 2 (.v .bool)], [(3, 16)], []⟩)], []⟩
noncomputable def ci85 : CInfo := mkCI (plains 1) [.v .Wire] [.v .bool] (fun x => some (wireOk x)) [(false, 1)] [] false
theorem c85 : Contract Tryz.prog 85 ci85 := evC 17 (l := [(77, ci77)]) tn_mixed tn_ok (phi_cons c77 phi_nil) Tryz.func85 an85 (fun x => spec_WireOk.raw x) (by kernel_rfl) (fun x => by kernel_rfl) fun x r hb h => (spec_WireOk.ok hb).trans h

def an42 : An := ⟨[], [(0, ⟨[], [(2, 15)], []⟩)], [(2, ⟨[.slot 3 (.v .int)], [(2, 2), (4, 15)], []⟩)], [], []⟩
noncomputable def ci42 : CInfo := mkCI (plains 1) [.sl .Wire] [.v .bool] (fun x => some (wiresOk x)) [(false, 1)] [] false
theorem c42 : Contract Tryz.prog 42 ci42 := evC 19 (l := [(85, ci85)]) tn_mixed tn_ok (phi_cons c85 phi_nil) Tryz.func42 an42 (fun x => spec_WiresOk.raw x) (by kernel_rfl) (fun x => by kernel_rfl) fun x r hb h => (spec_WiresOk.ok hb).trans h

def an86 : An := ⟨[], [], [], [(3, ⟨[.slot 2 (.v .bool)], [(9, 36)], []⟩)], []⟩
noncomputable def ci86 : CInfo := mkCI (plains 1) [.v .Timer] [.v .bool] (fun x => some (timerOk x)) [(false, 1)] [] false
theorem c86 : Contract Tryz.prog 86 ci86 := evC 37 (l := [(40, ci40)]) tn_mixed tn_ok (phi_cons c40 phi_nil) Tryz.func86 an86 (fun x => spec_TimerOk.raw x) (by kernel_rfl) (fun x => by kernel_rfl) fun x r hb h => (spec_TimerOk.ok hb).trans h

def an87 : An := ⟨[], [], [], [(1, ⟨[.slot 2 (.v .bool)], [(3, 61)], []⟩)], []⟩
noncomputable def ci87 : CInfo := mkCI (plains 1) [.v .Frame] [.v .bool] (fun x => some (noFrame x)) [(false, 1)] [] false
theorem c87 : Contract Tryz.prog 87 ci87 := evC 62 tn_mixed tn_ok phi_nil Tryz.func87 an87 (fun x => spec_l19NoFrame.raw x) (by kernel_rfl) (fun x => by kernel_rfl) fun x r hb h => (spec_l19NoFrame.ok hb).trans h

noncomputable def ci131 : CInfo := mkCI (plains 1) [.v .int] [.v .bool] (fun x => some (isSealed x)) [(false, 1)] [] false
theorem c131 : Contract Tryz.prog 131 ci131 := evC 5 (l := [(40, ci40)]) tn_mixed tn_ok (phi_cons c40 phi_nil) Tryz.func131 an0 (fun x => spec_Sealed.raw x) (by kernel_rfl) (fun x => by kernel_rfl) fun x r hb h => (spec_Sealed.ok hb).trans h

def an132 : An := ⟨[], [], [], [(3, ⟨[.slot 14 (.v .bool)], [(9, 13)], []⟩)], []⟩
noncomputable def ci132 : CInfo := mkCI (plains 2) [.v .int, .v .int] [.v .bool] (fun x => some (bodyOk x.1 x.2)) [(false, 1)] [] false
theorem c132 : Contract Tryz.prog 132 ci132 := evC 19 tn_mixed tn_ok phi_nil Tryz.func132 an132 (fun x => spec_l7Body.raw x.1 x.2) (by kernel_rfl) (fun x => by kernel_rfl) fun x r hb h => (spec_l7Body.ok hb).trans h

def an90 : An := ⟨[], [], [], [(2, ⟨[.slot 2 (.v .bool)], [(6, 61)], []⟩), (3, ⟨[.slot 87 (.v .bool)], [(62, 86)], []⟩), (7, ⟨[.slot 2 (.v .bool)], [(92, 117)], []⟩), (9, ⟨[.slot 2 (.v .bool)], [(120, 145)], []⟩), (11, ⟨[.slot 2 (.v .bool)], [(148, 173)], []⟩)], []⟩
noncomputable def ci90 : CInfo := mkCI (plains 1) [.v .Frame] [.v .bool] (fun x => some (frameOk x)) [(false, 1)] [] false
theorem c90 : Contract Tryz.prog 90 ci90 := evC 174 (l := [(40, ci40), (131, ci131), (132, ci132)]) tn_mixed tn_ok (phi_cons c40 (phi_cons c131 (phi_cons c132 phi_nil))) Tryz.func90 an90 (fun x => spec_FrameOk.raw x) (by kernel_rfl) (fun x => by kernel_rfl) fun x r hb h => (spec_FrameOk.ok hb).trans h

def an43 : An := ⟨[], [], [], [(1, ⟨[.slot 36 (.v .bool)], [(3, 35)], []⟩), (4, ⟨[.slot 2 (.v .bool)], [(40, 70)], []⟩), (8, ⟨[.slot 2 (.v .bool)], [(78, 108)], []⟩), (9, ⟨[.slot 122 (.v .bool)], [(109, 121)], []⟩), (12, ⟨[.slot 2 (.v .bool)], [(126, 133)], []⟩), (13, ⟨[.slot 2 (.v .bool)], [(134, 203)], []⟩)], []⟩
noncomputable def ci43 : CInfo := mkCI (plains 1) [.v .Client] [.v .bool] (fun x => clientOkO x) [(false, 1)] [] false
theorem c43 : Contract Tryz.prog 43 ci43 := evC 204 (l := [(40, ci40), (44, ci44), (76, ci76), (77, ci77), (86, ci86), (87, ci87), (88, ci88), (89, ci89), (90, ci90)]) tn_mixed tn_ok (phi_cons c40 (phi_cons c44 (phi_cons c76 (phi_cons c77 (phi_cons c86 (phi_cons c87 (phi_cons c88 (phi_cons c89 (phi_cons c90 phi_nil))))))))) Tryz.func43 an43 (fun x => spec_ClientOk.raw x) (by kernel_rfl) (fun x => by kernel_rfl) fun x r hb h => spec_ClientOk.ok hb h

def an91 : An := ⟨[], [], [], [(1, ⟨[.slot 4 (.v .bool)], [(5, 11)], []⟩)], []⟩
noncomputable def ci91 : CInfo := mkCI (plains 2) [.v .int, .v .int] [.v .bool] (fun x => some (isLen x.1 x.2)) [(false, 1)] [] false
theorem c91 : Contract Tryz.prog 91 ci91 := evC 12 tn_mixed tn_ok phi_nil Tryz.func91 an91 (fun x => spec_l18Len.raw x.1 x.2) (by kernel_rfl) (fun x => by kernel_rfl) fun x r hb h => (spec_l18Len.ok hb).trans h

def an45 : An := ⟨[], [], [], [(1, ⟨[.slot 2 (.v .bool)], [(3, 59)], []⟩)], []⟩
noncomputable def ci45 : CInfo := mkCI (plains 1) [.v .Note] [.v .bool] (fun x => some (noteOk x)) [(false, 1)] [] false
theorem c45 : Contract Tryz.prog 45 ci45 := evC 60 (l := [(40, ci40), (77, ci77), (91, ci91)]) tn_mixed tn_ok (phi_cons c40 (phi_cons c77 (phi_cons c91 phi_nil))) Tryz.func45 an45 (fun x => spec_NoteOk.raw x) (by kernel_rfl) (fun x => by kernel_rfl) fun x r hb h => (spec_NoteOk.ok hb).trans h

def an9 : An := ⟨[], [(0, ⟨[], [(2, 3), (47, 84)], []⟩), (2, ⟨[], [(2, 2), (4, 4), (85, 98)], []⟩), (4, ⟨[], [(2, 2), (5, 5), (99, 112)], []⟩)], [(4, ⟨[.slot 3 (.v .int)], [(2, 2), (47, 84)], []⟩), (9, ⟨[.slot 4 (.v .int)], [(2, 2), (85, 98)], []⟩), (14, ⟨[.slot 5 (.v .int)], [(2, 2), (99, 112)], []⟩)], [(1, ⟨[.slot 46 (.v .bool)], [(6, 45)], []⟩), (6, ⟨[.slot 84 (.v .bool)], [(51, 83)], []⟩)], []⟩
noncomputable def ci9 : CInfo := mkCI (plains 1) [.v .World] [.v .bool] (fun x => worldOkO x) [(false, 1)] [] false
theorem c9 : Contract Tryz.prog 9 ci9 := evC 113 (l := [(29, ci29), (40, ci40), (41, ci41), (42, ci42), (43, ci43), (44, ci44), (45, ci45)]) tn_mixed tn_ok (phi_cons c29 (phi_cons c40 (phi_cons c41 (phi_cons c42 (phi_cons c43 (phi_cons c44 (phi_cons c45 phi_nil))))))) Tryz.func9 an9 (fun x => spec_WorldOk.raw x) (by kernel_rfl) (fun x => by kernel_rfl) fun x r hb h => spec_WorldOk.ok hb h

def an92 : An := ⟨[], [], [], [(1, ⟨[.slot 2 (.v .bool)], [(3, 16)], []⟩)], []⟩
noncomputable def ci92 : CInfo := mkCI (plains 1) [.v .Wire] [.v .bool] (fun x => some (wireOk x)) [(false, 1)] [] false
theorem c92 : Contract Tryz.prog 92 ci92 := evC 17 (l := [(93, ci93)]) tn_mixed tn_ok (phi_cons c93 phi_nil) Tryz.func92 an92 (fun x => impl_WireOk.raw x) (by kernel_rfl) (fun x => by kernel_rfl) fun x r hb h => (impl_WireOk.ok hb).trans h

def an48 : An := ⟨[], [(0, ⟨[], [(2, 2), (4, 4), (7, 14)], []⟩)], [(2, ⟨[.slot 7 (.v .int)], [(2, 2), (4, 4), (8, 14)], []⟩)], [], []⟩
noncomputable def ci48 : CInfo := mkCI (plains 1) [.sl .Wire] [.v .bool] (fun x => some (wiresOk x)) [(false, 1)] [] false
theorem c48 : Contract Tryz.prog 48 ci48 := evC 18 (l := [(92, ci92)]) tn_mixed tn_ok (phi_cons c92 phi_nil) Tryz.func48 an48 (fun x => impl_WiresOk.raw x) (by kernel_rfl) (fun x => by kernel_rfl) fun x r hb h => (impl_WiresOk.ok hb).trans h

def an100 : An := ⟨[], [], [], [(1, ⟨[.slot 4 (.v .bool)], [(5, 13)], []⟩)], []⟩
noncomputable def ci100 : CInfo := mkCI (plains 2) [.sl .byte, .v .int] [.v .bool] (fun x => some (emptyOr x.1 x.2)) [(false, 1)] [] false
theorem c100 : Contract Tryz.prog 100 ci100 := evC 14 tn_mixed tn_ok phi_nil Tryz.func100 an100 (fun x => impl_emptyOr.raw x.1 x.2) (by kernel_rfl) (fun x => by kernel_rfl) fun x r hb h => (impl_emptyOr.ok hb).trans h

def an51 : An := ⟨[], [], [], [(1, ⟨[.slot 2 (.v .bool)], [(3, 56)], []⟩)], []⟩
noncomputable def ci51 : CInfo := mkCI (plains 1) [.v .Note] [.v .bool] (fun x => some (noteOk x)) [(false, 1)] [] false
theorem c51 : Contract Tryz.prog 51 ci51 := evC 57 (l := [(46, ci46), (93, ci93), (100, ci100)]) tn_mixed tn_ok (phi_cons c46 (phi_cons c93 (phi_cons c100 phi_nil))) Tryz.func51 an51 (fun x => impl_NoteOk.raw x) (by kernel_rfl) (fun x => by kernel_rfl) fun x r hb h => (impl_NoteOk.ok hb).trans h

def an10 : An := ⟨[], [(0, ⟨[], [(2, 4), (51, 78)], []⟩), (2, ⟨[], [(2, 2), (6, 6), (82, 89)], []⟩), (4, ⟨[], [(2, 2), (8, 8), (93, 100)], []⟩)], [(6, ⟨[.slot 51 (.v .int)], [(2, 4), (52, 78)], []⟩), (12, ⟨[.slot 82 (.v .int)], [(2, 2), (6, 6), (83, 89)], []⟩), (18, ⟨[.slot 93 (.v .int)], [(2, 2), (8, 8), (94, 100)], []⟩)], [(1, ⟨[.slot 31 (.v .bool)], [(9, 30)], []⟩), (3, ⟨[.slot 47 (.v .bool)], [(32, 46)], []⟩), (8, ⟨[.slot 77 (.v .bool)], [(56, 76)], []⟩)], []⟩
noncomputable def ci10 : CInfo := mkCI (plains 1) [.v .World] [.v .bool] (fun x => worldOkO x) [(false, 1)] [] false
theorem c10 : Contract Tryz.prog 10 ci10 := evC 101 (l := [(21, ci21), (46, ci46), (47, ci47), (48, ci48), (49, ci49), (50, ci50), (51, ci51)]) tn_mixed tn_ok (phi_cons c21 (phi_cons c46 (phi_cons c47 (phi_cons c48 (phi_cons c49 (phi_cons c50 (phi_cons c51 phi_nil))))))) Tryz.func10 an10 (fun x => impl_WorldOk.raw x) (by kernel_rfl) (fun x => by kernel_rfl) fun x r hb h => impl_WorldOk.ok hb h

def an101 : An := ⟨[], [(0, ⟨[], [(4, 4), (6, 6), (11, 36)], []⟩)], [(2, ⟨[.slot 11 (.v .int)], [(4, 4), (6, 6), (12, 36)], []⟩)], [(4, ⟨[.slot 35 (.v .bool)], [(15, 34)], []⟩)], []⟩
noncomputable def ci101 : CInfo := mkCI (plains 2) [.sl .Note, .v .int] [.v .bool] (fun x => rolledAtO x.1 x.2) [(false, 1)] [] false
theorem c101 : Contract Tryz.prog 101 ci101 := evC 37 (l := [(50, ci50)]) tn_mixed tn_ok (phi_cons c50 phi_nil) Tryz.func101 an101 (fun x => impl_rolledAt.raw x.1 x.2) (by kernel_rfl) (fun x => by kernel_rfl) fun x r hb h => impl_rolledAt.ok hb h

def an52 : An := ⟨[], [(0, ⟨[], [(2, 3), (6, 12)], []⟩)], [(2, ⟨[.slot 6 (.v .int)], [(2, 3), (7, 12)], []⟩)], [], []⟩
noncomputable def ci52 : CInfo := mkCI (plains 1) [.sl .Note] [.v .bool] (fun x => rolledO x) [(false, 1)] [] false
theorem c52 : Contract Tryz.prog 52 ci52 := evC 13 (l := [(101, ci101)]) tn_mixed tn_ok (phi_cons c101 phi_nil) Tryz.func52 an52 (fun x => impl_Rolled.raw x) (by kernel_rfl) (fun x => by kernel_rfl) fun x r hb h => impl_Rolled.ok hb h

def an104 : An := ⟨[], [(0, ⟨[], [(4, 4), (6, 6), (9, 22)], []⟩)], [(2, ⟨[.slot 9 (.v .int)], [(4, 4), (6, 6), (10, 22)], []⟩)], [(4, ⟨[.slot 21 (.v .bool)], [(13, 20)], []⟩)], []⟩
noncomputable def ci104 : CInfo := mkCI (plains 2) [.sl .Note, .sl .byte] [.v .bool] (fun x => shownO x.1 x.2) [(false, 1)] [] false
theorem c104 : Contract Tryz.prog 104 ci104 := evC 23 (l := [(50, ci50)]) tn_mixed tn_ok (phi_cons c50 phi_nil) Tryz.func104 an104 (fun x => impl_Shown.raw x.1 x.2) (by kernel_rfl) (fun x => by kernel_rfl) fun x r hb h => impl_Shown.ok hb h

def an102 : An := ⟨[], [(0, ⟨[], [(4, 4), (6, 6), (28, 55)], []⟩)], [(4, ⟨[.slot 28 (.v .int)], [(4, 4), (6, 6), (29, 55)], []⟩)], [(1, ⟨[.slot 23 (.v .bool)], [(7, 22)], []⟩), (6, ⟨[.slot 54 (.v .bool)], [(32, 53)], []⟩)], []⟩
noncomputable def ci102 : CInfo := mkCI (plains 2) [.sl .Note, .v .int] [.v .bool] (fun x => forgedAtO x.1 x.2) [(false, 1)] [] false
theorem c102 : Contract Tryz.prog 102 ci102 := evC 56 (l := [(50, ci50), (104, ci104)]) tn_mixed tn_ok (phi_cons c50 (phi_cons c104 phi_nil)) Tryz.func102 an102 (fun x => impl_forgedAt.raw x.1 x.2) (by kernel_rfl) (fun x => by kernel_rfl) fun x r hb h => impl_forgedAt.ok hb h

def an53 : An := ⟨[], [(0, ⟨[], [(2, 3), (6, 12)], []⟩)], [(2, ⟨[.slot 6 (.v .int)], [(2, 3), (7, 12)], []⟩)], [], []⟩
noncomputable def ci53 : CInfo := mkCI (plains 1) [.sl .Note] [.v .bool] (fun x => forgedO x) [(false, 1)] [] false
theorem c53 : Contract Tryz.prog 53 ci53 := evC 13 (l := [(102, ci102)]) tn_mixed tn_ok (phi_cons c102 phi_nil) Tryz.func53 an53 (fun x => impl_Forged.raw x) (by kernel_rfl) (fun x => by kernel_rfl) fun x r hb h => impl_Forged.ok hb h

def an138 : An := ⟨[], [], [], [(1, ⟨[.slot 5 (.v .bool), .slot 6 (.v .bool)], [(7, 22)], []⟩), (2, ⟨[.slot 34 (.v .bool)], [(23, 33)], []⟩), (4, ⟨[.slot 48 (.v .bool)], [(35, 47)], []⟩), (5, ⟨[.slot 4 (.v .bool)], [(49, 61)], []⟩), (6, ⟨[.slot 4 (.v .bool)], [(62, 69)], []⟩)], []⟩
noncomputable def ci138 : CInfo := mkCI (plains 2) [.v .Note, .v .Note] [.v .bool] (fun x => differO x.1 x.2) [(false, 1)] [] false
theorem c138 : Contract Tryz.prog 138 ci138 := evC 70 (l := [(50, ci50)]) tn_mixed tn_ok (phi_cons c50 phi_nil) Tryz.func138 an138 (fun x => impl_keysDiffer.raw x.1 x.2) (by kernel_rfl) (fun x => by kernel_rfl) fun x r hb h => impl_keysDiffer.ok hb h

def an103 : An := ⟨[], [(0, ⟨[], [(4, 4), (6, 6), (11, 31)], []⟩)], [(2, ⟨[.slot 11 (.v .int)], [(4, 4), (6, 6), (12, 31)], []⟩)], [(4, ⟨[.slot 30 (.v .bool)], [(15, 29)], []⟩)], []⟩
noncomputable def ci103 : CInfo := mkCI (plains 2) [.sl .Note, .v .int] [.v .bool] (fun x => twiceAtO x.1 x.2) [(false, 1)] [] false
theorem c103 : Contract Tryz.prog 103 ci103 := evC 32 (l := [(50, ci50), (138, ci138)]) tn_mixed tn_ok (phi_cons c50 (phi_cons c138 phi_nil)) Tryz.func103 an103 (fun x => impl_keyTwiceAt.raw x.1 x.2) (by kernel_rfl) (fun x => by kernel_rfl) fun x r hb h => impl_keyTwiceAt.ok hb h

def an54 : An := ⟨[], [(0, ⟨[], [(2, 3), (6, 12)], []⟩)], [(2, ⟨[.slot 6 (.v .int)], [(2, 3), (7, 12)], []⟩)], [], []⟩
noncomputable def ci54 : CInfo := mkCI (plains 1) [.sl .Note] [.v .bool] (fun x => twiceO x) [(false, 1)] [] false
theorem c54 : Contract Tryz.prog 54 ci54 := evC 13 (l := [(103, ci103)]) tn_mixed tn_ok (phi_cons c103 phi_nil) Tryz.func54 an54 (fun x => impl_KeyTwice.raw x) (by kernel_rfl) (fun x => by kernel_rfl) fun x r hb h => impl_KeyTwice.ok hb h

def an11 : An := ⟨[], [], [], [(1, ⟨[.slot 2 (.v .bool)], [(3, 12)], []⟩)], []⟩
noncomputable def ci11 : CInfo := mkCI (plains 1) [.sl .Note] [.v .bool] (fun x => luckyO x) [(false, 1)] [] false
theorem c11 : Contract Tryz.prog 11 ci11 := evC 13 (l := [(52, ci52), (53, ci53), (54, ci54)]) tn_mixed tn_ok (phi_cons c52 (phi_cons c53 (phi_cons c54 phi_nil))) Tryz.func11 an11 (fun x => impl_Lucky.raw x) (by kernel_rfl) (fun x => by kernel_rfl) fun x r hb h => impl_Lucky.ok hb h

def an139 : An := ⟨[], [], [], [(1, ⟨[.slot 3 (.v .bool)], [(4, 13)], []⟩)], []⟩
noncomputable def ci139 : CInfo := mkCI (plains 2) [.v .Note, .pt .Note] [.v .bool] (fun x => twoO pDial x.1 x.2) [(false, 1)] [] false
theorem c139 : Contract Tryz.prog 139 ci139 := evC 14 (l := [(50, ci50)]) tn_mixed tn_ok (phi_cons c50 phi_nil) Tryz.func139 an139 (fun x => impl_serveFits_1.raw x.1 x.2) (by kernel_rfl) (fun x => by kernel_rfl) fun x r hb h => impl_serveFits_1.ok hb h

def an140 : An := ⟨[], [], [], [(1, ⟨[.slot 3 (.v .bool)], [(4, 20)], []⟩)], []⟩
noncomputable def ci140 : CInfo := mkCI (plains 2) [.v .Note, .pt .Note] [.v .bool] (fun x => twoO pOwn x.1 x.2) [(false, 1)] [] false
theorem c140 : Contract Tryz.prog 140 ci140 := evC 21 (l := [(50, ci50)]) tn_mixed tn_ok (phi_cons c50 phi_nil) Tryz.func140 an140 (fun x => impl_serveFits_2.raw x.1 x.2) (by kernel_rfl) (fun x => by kernel_rfl) fun x r hb h => impl_serveFits_2.ok hb h

def an141 : An := ⟨[], [], [], [(1, ⟨[.slot 3 (.v .bool)], [(4, 27)], []⟩)], []⟩
noncomputable def ci141 : CInfo := mkCI (plains 2) [.v .Note, .pt .Note] [.v .bool] (fun x => twoO pCommit x.1 x.2) [(false, 1)] [] false
theorem c141 : Contract Tryz.prog 141 ci141 := evC 28 (l := [(50, ci50)]) tn_mixed tn_ok (phi_cons c50 phi_nil) Tryz.func141 an141 (fun x => impl_serveFits_3.raw x.1 x.2) (by kernel_rfl) (fun x => by kernel_rfl) fun x r hb h => impl_serveFits_3.ok hb h

def an142 : An := ⟨[], [], [], [(1, ⟨[.slot 3 (.v .bool)], [(4, 13)], []⟩)], []⟩
noncomputable def ci142 : CInfo := mkCI (plains 2) [.v .Note, .pt .Note] [.v .bool] (fun x => twoO pServed x.1 x.2) [(false, 1)] [] false
theorem c142 : Contract Tryz.prog 142 ci142 := evC 14 (l := [(50, ci50)]) tn_mixed tn_ok (phi_cons c50 phi_nil) Tryz.func142 an142 (fun x => impl_serveFits_4.raw x.1 x.2) (by kernel_rfl) (fun x => by kernel_rfl) fun x r hb h => impl_serveFits_4.ok hb h

def an106_139 : An := ⟨[(1310727, ⟨[.slot 5 (.v .int)], [(21, 22)], []⟩)], [(0, ⟨[.slot 5 (.v .int)], [(7, 7), (10, 23)], []⟩)], [(3, ⟨[.slot 5 (.v .int), .slot 10 (.v .int)], [(7, 7), (11, 23)], []⟩)], [(5, ⟨[.slot 20 (.v .bool)], [(14, 19)], []⟩)], []⟩
noncomputable def ci106_139 : CInfo := mkCI (plains 2) [.sl .Note, .c1 139 .Note] [.v .int] (fun x => cntO pDial x.1 x.2) [(false, 1)] [] false
theorem c106_139 : Contract Tryz.prog 106 ci106_139 := evC 25 (l := [(51, ci51), (139, ci139)]) tn_mixed tn_ok (phi_cons c51 (phi_cons c139 phi_nil)) Tryz.func106 an106_139 (fun x => impl_count_impl_serveFits_1.raw x.1 x.2) (by kernel_rfl) (fun x => by kernel_rfl) fun x r hb h => impl_count_impl_serveFits_1.ok hb h

def an106_140 : An := ⟨[(1310727, ⟨[.slot 5 (.v .int)], [(21, 22)], []⟩)], [(0, ⟨[.slot 5 (.v .int)], [(7, 7), (10, 23)], []⟩)], [(3, ⟨[.slot 5 (.v .int), .slot 10 (.v .int)], [(7, 7), (11, 23)], []⟩)], [(5, ⟨[.slot 20 (.v .bool)], [(14, 19)], []⟩)], []⟩
noncomputable def ci106_140 : CInfo := mkCI (plains 2) [.sl .Note, .c1 140 .Note] [.v .int] (fun x => cntO pOwn x.1 x.2) [(false, 1)] [] false
theorem c106_140 : Contract Tryz.prog 106 ci106_140 := evC 25 (l := [(51, ci51), (140, ci140)]) tn_mixed tn_ok (phi_cons c51 (phi_cons c140 phi_nil)) Tryz.func106 an106_140 (fun x => impl_count_impl_serveFits_2.raw x.1 x.2) (by kernel_rfl) (fun x => by kernel_rfl) fun x r hb h => impl_count_impl_serveFits_2.ok hb h

def an106_141 : An := ⟨[(1310727, ⟨[.slot 5 (.v .int)], [(21, 22)], []⟩)], [(0, ⟨[.slot 5 (.v .int)], [(7, 7), (10, 23)], []⟩)], [(3, ⟨[.slot 5 (.v .int), .slot 10 (.v .int)], [(7, 7), (11, 23)], []⟩)], [(5, ⟨[.slot 20 (.v .bool)], [(14, 19)], []⟩)], []⟩
noncomputable def ci106_141 : CInfo := mkCI (plains 2) [.sl .Note, .c1 141 .Note] [.v .int] (fun x => cntO pCommit x.1 x.2) [(false, 1)] [] false
theorem c106_141 : Contract Tryz.prog 106 ci106_141 := evC 25 (l := [(51, ci51), (141, ci141)]) tn_mixed tn_ok (phi_cons c51 (phi_cons c141 phi_nil)) Tryz.func106 an106_141 (fun x => impl_count_impl_serveFits_3.raw x.1 x.2) (by kernel_rfl) (fun x => by kernel_rfl) fun x r hb h => impl_count_impl_serveFits_3.ok hb h

def an106_142 : An := ⟨[(1310727, ⟨[.slot 5 (.v .int)], [(21, 22)], []⟩)], [(0, ⟨[.slot 5 (.v .int)], [(7, 7), (10, 23)], []⟩)], [(3, ⟨[.slot 5 (.v .int), .slot 10 (.v .int)], [(7, 7), (11, 23)], []⟩)], [(5, ⟨[.slot 20 (.v .bool)], [(14, 19)], []⟩)], []⟩
noncomputable def ci106_142 : CInfo := mkCI (plains 2) [.sl .Note, .c1 142 .Note] [.v .int] (fun x => cntO pServed x.1 x.2) [(false, 1)] [] false
theorem c106_142 : Contract Tryz.prog 106 ci106_142 := evC 25 (l := [(51, ci51), (142, ci142)]) tn_mixed tn_ok (phi_cons c51 (phi_cons c142 phi_nil)) Tryz.func106 an106_142 (fun x => impl_count_impl_serveFits_4.raw x.1 x.2) (by kernel_rfl) (fun x => by kernel_rfl) fun x r hb h => impl_count_impl_serveFits_4.ok hb h

def an105 : An := ⟨[], [], [], [(5, ⟨[.slot 4 (.v .bool)], [(21, 34)], []⟩)], []⟩
noncomputable def ci105 : CInfo := mkCI (plains 2) [.sl .Note, .v .Note] [.v .bool] (fun x => fitO serveFits x.1 x.2) [(false, 1)] [] false
theorem c105 : Contract Tryz.prog 105 ci105 := evC 35 (l := [(146800746, ci106_139), (147849322, ci106_140), (148897898, ci106_141), (149946474, ci106_142)]) tn_mixed tn_ok (phi_cons c106_139 (phi_cons c106_140 (phi_cons c106_141 (phi_cons c106_142 phi_nil)))) Tryz.func105 an105 (fun x => impl_serveFits.raw x.1 x.2) (by kernel_rfl) (fun x => by kernel_rfl) fun x r hb h => impl_serveFits.ok hb h

def an107 : An := ⟨[], [], [], [(1, ⟨[.slot 3 (.v .bool)], [(4, 34)], []⟩)], []⟩
noncomputable def ci107 : CInfo := mkCI (plains 2) [.v .Note, .pt .Note] [.v .bool] (fun x => twoO pServe x.1 x.2) [(false, 1)] [] false
theorem c107 : Contract Tryz.prog 107 ci107 := evC 35 (l := [(50, ci50)]) tn_mixed tn_ok (phi_cons c50 phi_nil) Tryz.func107 an107 (fun x => impl_Fits_1.raw x.1 x.2) (by kernel_rfl) (fun x => by kernel_rfl) fun x r hb h => impl_Fits_1.ok hb h

def an108 : An := ⟨[], [], [], [(1, ⟨[.slot 3 (.v .bool)], [(4, 13)], []⟩)], []⟩
noncomputable def ci108 : CInfo := mkCI (plains 2) [.v .Note, .pt .Note] [.v .bool] (fun x => twoO pUp x.1 x.2) [(false, 1)] [] false
theorem c108 : Contract Tryz.prog 108 ci108 := evC 14 (l := [(50, ci50)]) tn_mixed tn_ok (phi_cons c50 phi_nil) Tryz.func108 an108 (fun x => impl_Fits_2.raw x.1 x.2) (by kernel_rfl) (fun x => by kernel_rfl) fun x r hb h => impl_Fits_2.ok hb h

def an143 : An := ⟨[], [], [], [(1, ⟨[.slot 3 (.v .bool)], [(4, 15)], []⟩)], []⟩
noncomputable def ci143 : CInfo := mkCI (plains 2) [.v .Note, .pt .Note] [.v .bool] (fun x => twoO pSame x.1 x.2) [(false, 1)] [] false
theorem c143 : Contract Tryz.prog 143 ci143 := evC 16 (l := [(50, ci50)]) tn_mixed tn_ok (phi_cons c50 phi_nil) Tryz.func143 an143 (fun x => impl_gotFits_1.raw x.1 x.2) (by kernel_rfl) (fun x => by kernel_rfl) fun x r hb h => impl_gotFits_1.ok hb h

def an144 : An := ⟨[], [], [], [(1, ⟨[.slot 4 (.v .bool)], [(5, 33)], []⟩)], []⟩
noncomputable def ci144 : CInfo := mkCI (plains 3) [.v .Note, .p1 143 .Note, .pt .Note] [.v .bool] (fun x => threeO pSent x.1 x.2.1 x.2.2) [(false, 1)] [] false
theorem c144 : Contract Tryz.prog 144 ci144 := evC 34 (l := [(50, ci50), (143, ci143)]) tn_mixed tn_ok (phi_cons c50 (phi_cons c143 phi_nil)) Tryz.func144 an144 (fun x => impl_gotFits_2.raw x.1 x.2.1 x.2.2) (by kernel_rfl) (fun x => by kernel_rfl) fun x r hb h => impl_gotFits_2.ok hb h

def an145 : An := ⟨[], [], [], [(1, ⟨[.slot 4 (.v .bool)], [(5, 26)], []⟩)], []⟩
noncomputable def ci145 : CInfo := mkCI (plains 3) [.v .Note, .p1 143 .Note, .pt .Note] [.v .bool] (fun x => threeO pGot x.1 x.2.1 x.2.2) [(false, 1)] [] false
theorem c145 : Contract Tryz.prog 145 ci145 := evC 27 (l := [(143, ci143)]) tn_mixed tn_ok (phi_cons c143 phi_nil) Tryz.func145 an145 (fun x => impl_gotFits_3.raw x.1 x.2.1 x.2.2) (by kernel_rfl) (fun x => by kernel_rfl) fun x r hb h => impl_gotFits_3.ok hb h

def an146 : An := ⟨[], [], [], [(1, ⟨[.slot 4 (.v .bool)], [(5, 27)], []⟩)], []⟩
noncomputable def ci146 : CInfo := mkCI (plains 3) [.v .Note, .p1 143 .Note, .pt .Note] [.v .bool] (fun x => threeO pLate x.1 x.2.1 x.2.2) [(false, 1)] [] false
theorem c146 : Contract Tryz.prog 146 ci146 := evC 28 (l := [(143, ci143)]) tn_mixed tn_ok (phi_cons c143 phi_nil) Tryz.func146 an146 (fun x => impl_gotFits_4.raw x.1 x.2.1 x.2.2) (by kernel_rfl) (fun x => by kernel_rfl) fun x r hb h => impl_gotFits_4.ok hb h

def an106_144 : An := ⟨[(1310727, ⟨[.slot 5 (.v .int)], [(21, 22)], []⟩)], [(0, ⟨[.slot 5 (.v .int)], [(7, 7), (10, 23)], []⟩)], [(3, ⟨[.slot 5 (.v .int), .slot 10 (.v .int)], [(7, 7), (11, 23)], []⟩)], [(5, ⟨[.slot 20 (.v .bool)], [(14, 19)], []⟩)], []⟩
noncomputable def ci106_144 : CInfo := mkCI (plains 2) [.sl .Note, .c2 144 143 .Note] [.v .int] (fun x => cnt2O pSent x.1 x.2) [(false, 1)] [] false
theorem c106_144 : Contract Tryz.prog 106 ci106_144 := evC 25 (l := [(51, ci51), (144, ci144)]) tn_mixed tn_ok (phi_cons c51 (phi_cons c144 phi_nil)) Tryz.func106 an106_144 (fun x => impl_count_impl_gotFits_2.raw x.1 x.2) (by kernel_rfl) (fun x => by kernel_rfl) fun x r hb h => impl_count_impl_gotFits_2.ok hb h

def an106_145 : An := ⟨[(1310727, ⟨[.slot 5 (.v .int)], [(21, 22)], []⟩)], [(0, ⟨[.slot 5 (.v .int)], [(7, 7), (10, 23)], []⟩)], [(3, ⟨[.slot 5 (.v .int), .slot 10 (.v .int)], [(7, 7), (11, 23)], []⟩)], [(5, ⟨[.slot 20 (.v .bool)], [(14, 19)], []⟩)], []⟩
noncomputable def ci106_145 : CInfo := mkCI (plains 2) [.sl .Note, .c2 145 143 .Note] [.v .int] (fun x => cnt2O pGot x.1 x.2) [(false, 1)] [] false
theorem c106_145 : Contract Tryz.prog 106 ci106_145 := evC 25 (l := [(51, ci51), (145, ci145)]) tn_mixed tn_ok (phi_cons c51 (phi_cons c145 phi_nil)) Tryz.func106 an106_145 (fun x => impl_count_impl_gotFits_3.raw x.1 x.2) (by kernel_rfl) (fun x => by kernel_rfl) fun x r hb h => impl_count_impl_gotFits_3.ok hb h

def an106_146 : An := ⟨[(1310727, ⟨[.slot 5 (.v .int)], [(21, 22)], []⟩)], [(0, ⟨[.slot 5 (.v .int)], [(7, 7), (10, 23)], []⟩)], [(3, ⟨[.slot 5 (.v .int), .slot 10 (.v .int)], [(7, 7), (11, 23)], []⟩)], [(5, ⟨[.slot 20 (.v .bool)], [(14, 19)], []⟩)], []⟩
noncomputable def ci106_146 : CInfo := mkCI (plains 2) [.sl .Note, .c2 146 143 .Note] [.v .int] (fun x => cnt2O pLate x.1 x.2) [(false, 1)] [] false
theorem c106_146 : Contract Tryz.prog 106 ci106_146 := evC 25 (l := [(51, ci51), (146, ci146)]) tn_mixed tn_ok (phi_cons c51 (phi_cons c146 phi_nil)) Tryz.func106 an106_146 (fun x => impl_count_impl_gotFits_4.raw x.1 x.2) (by kernel_rfl) (fun x => by kernel_rfl) fun x r hb h => impl_count_impl_gotFits_4.ok hb h

def an109 : An := ⟨[], [], [], [(5, ⟨[.slot 4 (.v .bool)], [(19, 28)], []⟩)], []⟩
noncomputable def ci109 : CInfo := mkCI (plains 2) [.sl .Note, .v .Note] [.v .bool] (fun x => fitO gotFits x.1 x.2) [(false, 1)] [] false
theorem c109 : Contract Tryz.prog 109 ci109 := evC 29 (l := [(152043626, ci106_144), (153092202, ci106_145), (154140778, ci106_146)]) tn_mixed tn_ok (phi_cons c106_144 (phi_cons c106_145 (phi_cons c106_146 phi_nil))) Tryz.func109 an109 (fun x => impl_gotFits.raw x.1 x.2) (by kernel_rfl) (fun x => by kernel_rfl) fun x r hb h => impl_gotFits.ok hb h

def an147 : An := ⟨[], [], [], [(1, ⟨[.slot 7 (.v .bool)], [(8, 29)], []⟩)], []⟩
noncomputable def ci147 : CInfo := mkCI (plains 4) [.v .Note, .v .int, .v .int, .pt .Note] [.v .bool] (fun x => turnO x.1 x.2.1 x.2.2.1 x.2.2.2) [(false, 1)] [] false
theorem c147 : Contract Tryz.prog 147 ci147 := evC 30 (l := [(50, ci50)]) tn_mixed tn_ok (phi_cons c50 phi_nil) Tryz.func147 an147 (fun x => impl_turnFits_1.raw x.1 x.2.1 x.2.2.1 x.2.2.2) (by kernel_rfl) (fun x => by kernel_rfl) fun x r hb h => impl_turnFits_1.ok hb h

noncomputable def ci148 : CInfo := mkCI (plains 3) [.v .Note, .p1 147 .Note, .pt .Note] [.v .bool] (fun x => threeO pT2 x.1 x.2.1 x.2.2) [(false, 1)] [] false
theorem c148 : Contract Tryz.prog 148 ci148 := evC 12 (l := [(147, ci147)]) tn_mixed tn_ok (phi_cons c147 phi_nil) Tryz.func148 an0 (fun x => impl_turnFits_2.raw x.1 x.2.1 x.2.2) (by kernel_rfl) (fun x => by kernel_rfl) fun x r hb h => impl_turnFits_2.ok hb h

noncomputable def ci149 : CInfo := mkCI (plains 3) [.v .Note, .p1 147 .Note, .pt .Note] [.v .bool] (fun x => threeO pT3 x.1 x.2.1 x.2.2) [(false, 1)] [] false
theorem c149 : Contract Tryz.prog 149 ci149 := evC 11 (l := [(147, ci147)]) tn_mixed tn_ok (phi_cons c147 phi_nil) Tryz.func149 an0 (fun x => impl_turnFits_3.raw x.1 x.2.1 x.2.2) (by kernel_rfl) (fun x => by kernel_rfl) fun x r hb h => impl_turnFits_3.ok hb h

def an150 : An := ⟨[], [], [], [(1, ⟨[.slot 4 (.v .bool)], [(5, 16)], []⟩)], []⟩
noncomputable def ci150 : CInfo := mkCI (plains 3) [.v .Note, .p1 147 .Note, .pt .Note] [.v .bool] (fun x => threeO pT4 x.1 x.2.1 x.2.2) [(false, 1)] [] false
theorem c150 : Contract Tryz.prog 150 ci150 := evC 17 (l := [(50, ci50), (147, ci147)]) tn_mixed tn_ok (phi_cons c50 (phi_cons c147 phi_nil)) Tryz.func150 an150 (fun x => impl_turnFits_4.raw x.1 x.2.1 x.2.2) (by kernel_rfl) (fun x => by kernel_rfl) fun x r hb h => impl_turnFits_4.ok hb h

def an106_148 : An := ⟨[(1310727, ⟨[.slot 5 (.v .int)], [(21, 22)], []⟩)], [(0, ⟨[.slot 5 (.v .int)], [(7, 7), (10, 23)], []⟩)], [(3, ⟨[.slot 5 (.v .int), .slot 10 (.v .int)], [(7, 7), (11, 23)], []⟩)], [(5, ⟨[.slot 20 (.v .bool)], [(14, 19)], []⟩)], []⟩
noncomputable def ci106_148 : CInfo := mkCI (plains 2) [.sl .Note, .c2 148 147 .Note] [.v .int] (fun x => cnt2O pT2 x.1 x.2) [(false, 1)] [] false
theorem c106_148 : Contract Tryz.prog 106 ci106_148 := evC 25 (l := [(51, ci51), (148, ci148)]) tn_mixed tn_ok (phi_cons c51 (phi_cons c148 phi_nil)) Tryz.func106 an106_148 (fun x => impl_count_impl_turnFits_2.raw x.1 x.2) (by kernel_rfl) (fun x => by kernel_rfl) fun x r hb h => impl_count_impl_turnFits_2.ok hb h

def an106_149 : An := ⟨[(1310727, ⟨[.slot 5 (.v .int)], [(21, 22)], []⟩)], [(0, ⟨[.slot 5 (.v .int)], [(7, 7), (10, 23)], []⟩)], [(3, ⟨[.slot 5 (.v .int), .slot 10 (.v .int)], [(7, 7), (11, 23)], []⟩)], [(5, ⟨[.slot 20 (.v .bool)], [(14, 19)], []⟩)], []⟩
noncomputable def ci106_149 : CInfo := mkCI (plains 2) [.sl .Note, .c2 149 147 .Note] [.v .int] (fun x => cnt2O pT3 x.1 x.2) [(false, 1)] [] false
theorem c106_149 : Contract Tryz.prog 106 ci106_149 := evC 25 (l := [(51, ci51), (149, ci149)]) tn_mixed tn_ok (phi_cons c51 (phi_cons c149 phi_nil)) Tryz.func106 an106_149 (fun x => impl_count_impl_turnFits_3.raw x.1 x.2) (by kernel_rfl) (fun x => by kernel_rfl) fun x r hb h => impl_count_impl_turnFits_3.ok hb h

def an106_150 : An := ⟨[(1310727, ⟨[.slot 5 (.v .int)], [(21, 22)], []⟩)], [(0, ⟨[.slot 5 (.v .int)], [(7, 7), (10, 23)], []⟩)], [(3, ⟨[.slot 5 (.v .int), .slot 10 (.v .int)], [(7, 7), (11, 23)], []⟩)], [(5, ⟨[.slot 20 (.v .bool)], [(14, 19)], []⟩)], []⟩
noncomputable def ci106_150 : CInfo := mkCI (plains 2) [.sl .Note, .c2 150 147 .Note] [.v .int] (fun x => cnt2O pT4 x.1 x.2) [(false, 1)] [] false
theorem c106_150 : Contract Tryz.prog 106 ci106_150 := evC 25 (l := [(51, ci51), (150, ci150)]) tn_mixed tn_ok (phi_cons c51 (phi_cons c150 phi_nil)) Tryz.func106 an106_150 (fun x => impl_count_impl_turnFits_4.raw x.1 x.2) (by kernel_rfl) (fun x => by kernel_rfl) fun x r hb h => impl_count_impl_turnFits_4.ok hb h

def an110 : An := ⟨[], [], [], [(5, ⟨[.slot 4 (.v .bool)], [(19, 29)], []⟩), (7, ⟨[.slot 4 (.v .bool)], [(33, 38)], []⟩)], []⟩
noncomputable def ci110 : CInfo := mkCI (plains 2) [.sl .Note, .v .Note] [.v .bool] (fun x => fitO turnFits x.1 x.2) [(false, 1)] [] false
theorem c110 : Contract Tryz.prog 110 ci110 := evC 39 (l := [(156237930, ci106_148), (157286506, ci106_149), (158335082, ci106_150)]) tn_mixed tn_ok (phi_cons c106_148 (phi_cons c106_149 (phi_cons c106_150 phi_nil))) Tryz.func110 an110 (fun x => impl_turnFits.raw x.1 x.2) (by kernel_rfl) (fun x => by kernel_rfl) fun x r hb h => impl_turnFits.ok hb h

def an111 : An := ⟨[], [], [], [(1, ⟨[.slot 3 (.v .bool)], [(4, 20)], []⟩)], []⟩
noncomputable def ci111 : CInfo := mkCI (plains 2) [.v .Note, .pt .Note] [.v .bool] (fun x => twoO pAsk x.1 x.2) [(false, 1)] [] false
theorem c111 : Contract Tryz.prog 111 ci111 := evC 21 (l := [(50, ci50)]) tn_mixed tn_ok (phi_cons c50 phi_nil) Tryz.func111 an111 (fun x => impl_Fits_3.raw x.1 x.2) (by kernel_rfl) (fun x => by kernel_rfl) fun x r hb h => impl_Fits_3.ok hb h

def an151 : An := ⟨[], [], [], [(1, ⟨[.slot 3 (.v .bool)], [(4, 20)], []⟩)], []⟩
noncomputable def ci151 : CInfo := mkCI (plains 2) [.v .Note, .pt .Note] [.v .bool] (fun x => twoO pSay x.1 x.2) [(false, 1)] [] false
theorem c151 : Contract Tryz.prog 151 ci151 := evC 21 (l := [(50, ci50)]) tn_mixed tn_ok (phi_cons c50 phi_nil) Tryz.func151 an151 (fun x => impl_moveFits_1.raw x.1 x.2) (by kernel_rfl) (fun x => by kernel_rfl) fun x r hb h => impl_moveFits_1.ok hb h

def an152 : An := ⟨[], [], [], [(1, ⟨[.slot 3 (.v .bool)], [(4, 13)], []⟩)], []⟩
noncomputable def ci152 : CInfo := mkCI (plains 2) [.v .Note, .pt .Note] [.v .bool] (fun x => twoO pMove x.1 x.2) [(false, 1)] [] false
theorem c152 : Contract Tryz.prog 152 ci152 := evC 14 (l := [(50, ci50)]) tn_mixed tn_ok (phi_cons c50 phi_nil) Tryz.func152 an152 (fun x => impl_moveFits_2.raw x.1 x.2) (by kernel_rfl) (fun x => by kernel_rfl) fun x r hb h => impl_moveFits_2.ok hb h

def an106_151 : An := ⟨[(1310727, ⟨[.slot 5 (.v .int)], [(21, 22)], []⟩)], [(0, ⟨[.slot 5 (.v .int)], [(7, 7), (10, 23)], []⟩)], [(3, ⟨[.slot 5 (.v .int), .slot 10 (.v .int)], [(7, 7), (11, 23)], []⟩)], [(5, ⟨[.slot 20 (.v .bool)], [(14, 19)], []⟩)], []⟩
noncomputable def ci106_151 : CInfo := mkCI (plains 2) [.sl .Note, .c1 151 .Note] [.v .int] (fun x => cntO pSay x.1 x.2) [(false, 1)] [] false
theorem c106_151 : Contract Tryz.prog 106 ci106_151 := evC 25 (l := [(51, ci51), (151, ci151)]) tn_mixed tn_ok (phi_cons c51 (phi_cons c151 phi_nil)) Tryz.func106 an106_151 (fun x => impl_count_impl_moveFits_1.raw x.1 x.2) (by kernel_rfl) (fun x => by kernel_rfl) fun x r hb h => impl_count_impl_moveFits_1.ok hb h

def an106_152 : An := ⟨[(1310727, ⟨[.slot 5 (.v .int)], [(21, 22)], []⟩)], [(0, ⟨[.slot 5 (.v .int)], [(7, 7), (10, 23)], []⟩)], [(3, ⟨[.slot 5 (.v .int), .slot 10 (.v .int)], [(7, 7), (11, 23)], []⟩)], [(5, ⟨[.slot 20 (.v .bool)], [(14, 19)], []⟩)], []⟩
noncomputable def ci106_152 : CInfo := mkCI (plains 2) [.sl .Note, .c1 152 .Note] [.v .int] (fun x => cntO pMove x.1 x.2) [(false, 1)] [] false
theorem c106_152 : Contract Tryz.prog 106 ci106_152 := evC 25 (l := [(51, ci51), (152, ci152)]) tn_mixed tn_ok (phi_cons c51 (phi_cons c152 phi_nil)) Tryz.func106 an106_152 (fun x => impl_count_impl_moveFits_2.raw x.1 x.2) (by kernel_rfl) (fun x => by kernel_rfl) fun x r hb h => impl_count_impl_moveFits_2.ok hb h

def an112 : An := ⟨[(2097160, ⟨[.slot 5 (.v .int), .slot 6 (.v .int)], [(33, 35)], []⟩)], [(0, ⟨[.slot 5 (.v .int), .slot 6 (.v .int)], [(7, 8), (14, 36)], []⟩)], [(4, ⟨[.slot 5 (.v .int), .slot 6 (.v .int), .slot 14 (.v .int)], [(7, 8), (15, 36)], []⟩)], [(6, ⟨[.slot 32 (.v .bool)], [(19, 31)], []⟩), (15, ⟨[.slot 4 (.v .bool)], [(52, 79)], []⟩)], []⟩
noncomputable def ci112 : CInfo := mkCI (plains 2) [.sl .Note, .v .Note] [.v .bool] (fun x => fitO moveFits x.1 x.2) [(false, 1)] [] false
theorem c112 : Contract Tryz.prog 112 ci112 := evC 80 (l := [(46, ci46), (50, ci50), (51, ci51), (159383658, ci106_151), (160432234, ci106_152)]) tn_mixed tn_ok (phi_cons c46 (phi_cons c50 (phi_cons c51 (phi_cons c106_151 (phi_cons c106_152 phi_nil))))) Tryz.func112 an112 (fun x => impl_moveFits.raw x.1 x.2) (by kernel_rfl) (fun x => by kernel_rfl) fun x r hb h => impl_moveFits.ok hb h

def an106_107 : An := ⟨[(1310727, ⟨[.slot 5 (.v .int)], [(21, 22)], []⟩)], [(0, ⟨[.slot 5 (.v .int)], [(7, 7), (10, 23)], []⟩)], [(3, ⟨[.slot 5 (.v .int), .slot 10 (.v .int)], [(7, 7), (11, 23)], []⟩)], [(5, ⟨[.slot 20 (.v .bool)], [(14, 19)], []⟩)], []⟩
noncomputable def ci106_107 : CInfo := mkCI (plains 2) [.sl .Note, .c1 107 .Note] [.v .int] (fun x => cntO pServe x.1 x.2) [(false, 1)] [] false
theorem c106_107 : Contract Tryz.prog 106 ci106_107 := evC 25 (l := [(51, ci51), (107, ci107)]) tn_mixed tn_ok (phi_cons c51 (phi_cons c107 phi_nil)) Tryz.func106 an106_107 (fun x => impl_count_impl_Fits_1.raw x.1 x.2) (by kernel_rfl) (fun x => by kernel_rfl) fun x r hb h => impl_count_impl_Fits_1.ok hb h

def an106_108 : An := ⟨[(1310727, ⟨[.slot 5 (.v .int)], [(21, 22)], []⟩)], [(0, ⟨[.slot 5 (.v .int)], [(7, 7), (10, 23)], []⟩)], [(3, ⟨[.slot 5 (.v .int), .slot 10 (.v .int)], [(7, 7), (11, 23)], []⟩)], [(5, ⟨[.slot 20 (.v .bool)], [(14, 19)], []⟩)], []⟩
noncomputable def ci106_108 : CInfo := mkCI (plains 2) [.sl .Note, .c1 108 .Note] [.v .int] (fun x => cntO pUp x.1 x.2) [(false, 1)] [] false
theorem c106_108 : Contract Tryz.prog 106 ci106_108 := evC 25 (l := [(51, ci51), (108, ci108)]) tn_mixed tn_ok (phi_cons c51 (phi_cons c108 phi_nil)) Tryz.func106 an106_108 (fun x => impl_count_impl_Fits_2.raw x.1 x.2) (by kernel_rfl) (fun x => by kernel_rfl) fun x r hb h => impl_count_impl_Fits_2.ok hb h

def an106_111 : An := ⟨[(1310727, ⟨[.slot 5 (.v .int)], [(21, 22)], []⟩)], [(0, ⟨[.slot 5 (.v .int)], [(7, 7), (10, 23)], []⟩)], [(3, ⟨[.slot 5 (.v .int), .slot 10 (.v .int)], [(7, 7), (11, 23)], []⟩)], [(5, ⟨[.slot 20 (.v .bool)], [(14, 19)], []⟩)], []⟩
noncomputable def ci106_111 : CInfo := mkCI (plains 2) [.sl .Note, .c1 111 .Note] [.v .int] (fun x => cntO pAsk x.1 x.2) [(false, 1)] [] false
theorem c106_111 : Contract Tryz.prog 106 ci106_111 := evC 25 (l := [(51, ci51), (111, ci111)]) tn_mixed tn_ok (phi_cons c51 (phi_cons c111 phi_nil)) Tryz.func106 an106_111 (fun x => impl_count_impl_Fits_3.raw x.1 x.2) (by kernel_rfl) (fun x => by kernel_rfl) fun x r hb h => impl_count_impl_Fits_3.ok hb h

def an55 : An := ⟨[], [], [], [(1, ⟨[.slot 24 (.v .bool)], [(9, 23)], []⟩), (12, ⟨[.slot 4 (.v .bool)], [(51, 56)], []⟩)], []⟩
noncomputable def ci55 : CInfo := mkCI (plains 2) [.sl .Note, .v .int] [.v .bool] (fun x => fitsO x.1 x.2) [(false, 1)] [] false
theorem c55 : Contract Tryz.prog 55 ci55 := evC 78 (l := [(51, ci51), (104, ci104), (105, ci105), (109, ci109), (110, ci110), (112, ci112), (113246314, ci106_107), (114294890, ci106_108), (117440618, ci106_111)]) tn_mixed tn_ok (phi_cons c51 (phi_cons c104 (phi_cons c105 (phi_cons c109 (phi_cons c110 (phi_cons c112 (phi_cons c106_107 (phi_cons c106_108 (phi_cons c106_111 phi_nil))))))))) Tryz.func55 an55 (fun x => impl_Fits.raw x.1 x.2) (by kernel_rfl) (fun x => by kernel_rfl) fun x r hb h => impl_Fits.ok hb h

def an12 : An := ⟨[], [(0, ⟨[], [(2, 3), (6, 13)], []⟩)], [(2, ⟨[.slot 6 (.v .int)], [(2, 3), (7, 13)], []⟩)], [], []⟩
noncomputable def ci12 : CInfo := mkCI (plains 1) [.sl .Note] [.v .bool] (fun x => idealO x) [(false, 1)] [] false
theorem c12 : Contract Tryz.prog 12 ci12 := evC 14 (l := [(55, ci55)]) tn_mixed tn_ok (phi_cons c55 phi_nil) Tryz.func12 an12 (fun x => impl_Ideal.raw x) (by kernel_rfl) (fun x => by kernel_rfl) fun x r hb h => impl_Ideal.ok hb h

def an13 : An := ⟨[], [(0, ⟨[], [(2, 2), (4, 4), (11, 18)], []⟩)], [(4, ⟨[.slot 11 (.v .int)], [(2, 2), (4, 4), (12, 18)], []⟩)], [], []⟩
noncomputable def ci13 : CInfo := mkCI (plains 1) [.v .World] [.v .bool] (fun x => sleepsO x) [(false, 1)] [] false
theorem c13 : Contract Tryz.prog 13 ci13 := evC 24 (l := [(10, ci10), (56, ci56)]) tn_mixed tn_ok (phi_cons c10 (phi_cons c56 phi_nil)) Tryz.func13 an13 (fun x => impl_Sleeps.raw x) (by kernel_rfl) (fun x => by kernel_rfl) fun x r hb h => impl_Sleeps.ok hb h

def an14 : An := ⟨[], [(0, ⟨[], [(2, 2), (4, 4), (11, 23)], []⟩)], [(4, ⟨[.slot 11 (.v .int)], [(2, 2), (4, 4), (12, 23)], []⟩)], [(6, ⟨[.slot 22 (.v .bool)], [(15, 21)], []⟩)], []⟩
noncomputable def ci14 : CInfo := mkCI (plains 1) [.v .World] [.v .bool] (fun x => settledO x) [(false, 1)] [] false
theorem c14 : Contract Tryz.prog 14 ci14 := evC 24 (l := [(10, ci10)]) tn_mixed tn_ok (phi_cons c10 phi_nil) Tryz.func14 an14 (fun x => impl_Settled.raw x) (by kernel_rfl) (fun x => by kernel_rfl) fun x r hb h => impl_Settled.ok hb h

def an57 : An := ⟨[], [], [], [(3, ⟨[.slot 38 (.v .bool)], [(22, 37)], []⟩)], []⟩
noncomputable def ci57 : CInfo := mkCI (plains 2) [.v .World, .v .int] [.v .Client, .v .Sess, .v .bool] (fun x => sessionOfO x.1 x.2) [(true, 41), (true, 24), (false, 1)] [] false
theorem c57 : Contract Tryz.prog 57 ci57 := evC 49 (l := [(113, ci113)]) tn_mixed tn_ok (phi_cons c113 phi_nil) Tryz.func57 an57 (fun x => impl_sessionOf.raw x.1 x.2) (by kernel_rfl) (fun x => by kernel_rfl) fun x r hb h => impl_sessionOf.ok hb h

def an15 : An := ⟨[], [], [], [(1, ⟨[.slot 18 (.v .bool)], [(11, 17)], []⟩), (9, ⟨[.slot 51 (.v .bool)], [(40, 50)], []⟩), (10, ⟨[.slot 4 (.v .bool)], [(52, 65)], []⟩), (12, ⟨[.slot 4 (.v .bool)], [(69, 116)], []⟩)], []⟩
noncomputable def ci15 : CInfo := mkCI (plains 2) [.v .World, .v .int] [.v .bool] (fun x => epochsFitO x.1 x.2) [(false, 1)] [] false
theorem c15 : Contract Tryz.prog 15 ci15 := evC 117 (l := [(10, ci10), (46, ci46), (50, ci50), (57, ci57)]) tn_mixed tn_ok (phi_cons c10 (phi_cons c46 (phi_cons c50 (phi_cons c57 phi_nil)))) Tryz.func15 an15 (fun x => impl_EpochsFit.raw x.1 x.2) (by kernel_rfl) (fun x => by kernel_rfl) fun x r hb h => impl_EpochsFit.ok hb h

def an3 : An := ⟨[], [], [], [(9, ⟨[.slot 2 (.v .bool)], [(35, 43)], [1000007]⟩), (10, ⟨[.slot 2 (.v .bool)], [(44, 72)], [1000007]⟩)], []⟩
noncomputable def ci3 : CInfo := mkCI (plains 1) [.sl .byte] [.v .bool] (fun x => some ((fun (a0 : List UInt8) => always a0) x)) [(false, 1)] [] false
theorem c3 : Contract Tryz.prog 3 ci3 := evC 73 (l := [(4, ci4), (5, ci5), (6, ci6), (7, ci7), (8, ci8), (9, ci9), (10, ci10), (11, ci11), (12, ci12), (13, ci13), (14, ci14), (15, ci15)]) tn_mixed tn_ok (phi_cons c4 (phi_cons c5 (phi_cons c6 (phi_cons c7 (phi_cons c8 (phi_cons c9 (phi_cons c10 (phi_cons c11 (phi_cons c12 (phi_cons c13 (phi_cons c14 (phi_cons c15 phi_nil)))))))))))) Tryz.func3 an3 (fun x => laws_FnBegins.raw x) (by kernel_rfl) (fun x => by kernel_rfl) fun x r hb h => (laws_FnBegins.ok hb).trans h

end Go.D

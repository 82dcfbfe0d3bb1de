/-
  The functions of the program: each computes what is said of it.
-/
import Derived.Test.YtnmnifbcflablaaDoorX
import Derived.Test.YtnmnifbcflablaaDoorProg
import Derived.KernelRfl
namespace Go.D
open Go.Proofs

def tnT : TypeId → Option TN := fun t => look t [(3, .int), (5, .byte), (9, .str)]
def an0 : An := ⟨[], [], [], [], []⟩
theorem tn_mixed : Tryd.prog.follows .mixedOrders = true := by kernel_rfl
theorem tn_ok : tnAll Tryd.prog [(3, .int), (5, .byte), (9, .str)] = true := by kernel_rfl

noncomputable def ci10 : CInfo := mkCI (plains 1) [.sl .byte] [.v .bool] (fun x => some (big x)) [(false, 1)] [] false
theorem c10 : Contract Tryd.prog 10 ci10 glP := evC 6 tn_mixed tn_ok phi_nil Tryd.func10 an0 (fun x => laws_big.raw x) (by kernel_rfl) (fun x => by kernel_rfl) fun x r hb h => (laws_big.ok hb).trans h

def an20 : An := ⟨[], [(0, ⟨[.slot 3 (.v .int)], [(4, 4), (8, 27)], []⟩)], [(3, ⟨[.slot 3 (.v .int), .slot 4 (.v .int)], [(8, 27)], []⟩)], [(3, ⟨[.slot 15 (.v .bool)], [(8, 14)], []⟩)], []⟩
noncomputable def ci20 : CInfo := mkCI (plains 1) [.sl .byte] [.cells .Cur] (fun x => spec_l1New.raw x) [(false, 1)] [] true
theorem c20 : Contract Tryd.prog 20 ci20 glP := evP 32 tn_mixed tn_ok phi_nil Tryd.func20 an20 (fun x => spec_l1New.raw x) (by kernel_rfl) (fun x => by kernel_rfl) fun x r hb h => h

def an29 : An := ⟨[(2228229, ⟨[.slot 3 (.v .int), .box 0 .Cur []], [(35, 56)], []⟩)], [], [], [], []⟩
noncomputable def ci29 : CInfo := mkCI [.ptr []] [.cells .Cur] [.v .int, .cells .Cur] (fun x => spec_l1Byte.raw x) [(false, 1)] [] false
theorem c29 : Contract Tryd.prog 29 ci29 glP := evC 58 tn_mixed tn_ok phi_nil Tryd.func29 an29 (fun x => spec_l1Byte.raw x) (by kernel_rfl) (fun x => by kernel_rfl) fun x r hb h => h

noncomputable def ci23 : CInfo := mkCI [.ptr [], .plain] [.cells .Cur, .v .int] [.v .int, .cells .Cur] (fun x => spec_l1Below.raw x.1 x.2) [(false, 1)] [] false
theorem c23 : Contract Tryd.prog 23 ci23 glP := evC 31 (l := [(29, ci29)]) tn_mixed tn_ok (phi_cons c29 phi_nil) Tryd.func23 an0 (fun x => spec_l1Below.raw x.1 x.2) (by kernel_rfl) (fun x => by kernel_rfl) fun x r hb h => h

noncomputable def ci21 : CInfo := mkCI [.ptr [], .plain] [.cells .Cur, .v .int] [.v .bool, .cells .Cur] (fun x => spec_l1Once.raw x.1 x.2) [(false, 1)] [] false
theorem c21 : Contract Tryd.prog 21 ci21 glP := evC 9 (l := [(23, ci23)]) tn_mixed tn_ok (phi_cons c23 phi_nil) Tryd.func21 an0 (fun x => spec_l1Once.raw x.1 x.2) (by kernel_rfl) (fun x => by kernel_rfl) fun x r hb h => h

noncomputable def ci28 : CInfo := mkCI [.ptr [], .plain] [.cells .Cur, .sl .int] [.v .int, .cells .Cur] (fun x => spec_l1Int.raw x.1 x.2) [(false, 1)] [] false
theorem c28 : Contract Tryd.prog 28 ci28 glP := evC 12 (l := [(23, ci23)]) tn_mixed tn_ok (phi_cons c23 phi_nil) Tryd.func28 an0 (fun x => spec_l1Int.raw x.1 x.2) (by kernel_rfl) (fun x => by kernel_rfl) fun x r hb h => h

noncomputable def ci22 : CInfo := mkCI [.ptr []] [.cells .Cur] [.v .int, .cells .Cur] (fun x => spec_l1Odd.raw x) [(false, 1)] [] false
theorem c22 : Contract Tryd.prog 22 ci22 glP := evC 6 (l := [(28, ci28)]) tn_mixed tn_ok (phi_cons c28 phi_nil) Tryd.func22 an0 (fun x => spec_l1Odd.raw x) (by kernel_rfl) (fun x => by kernel_rfl) fun x r hb h => h

noncomputable def ci11 : CInfo := mkCI (plains 1) [.sl .byte] [.v .int] (fun x => spec_DrawNumText.raw x) [(false, 1)] [] false
theorem c11 : Contract Tryd.prog 11 ci11 glP := evC 13 (l := [(20, ci20), (21, ci21), (22, ci22), (23, ci23)]) tn_mixed tn_ok (phi_cons c20 (phi_cons c21 (phi_cons c22 (phi_cons c23 phi_nil)))) Tryd.func11 an0 (fun x => spec_DrawNumText.raw x) (by kernel_rfl) (fun x => by kernel_rfl) fun x r hb h => h

noncomputable def ci7 : CInfo := mkCI (plains 1) [.v .int] [.v .str] (fun x => some (itoaT x)) [(false, 1)] [] false
theorem c7 : Contract Tryd.prog 7 ci7 glP := evC 5 (l := [(16, ci16)]) tn_mixed tn_ok (phi_cons c16 phi_nil) Tryd.func7 an0 (fun x => impl_NumText.raw x) (by kernel_rfl) (fun x => by kernel_rfl) fun x r hb h => (impl_NumText.ok hb).trans h

def an19 : An := ⟨[], [], [], [(1, ⟨[.slot 6 (.v .bool)], [(7, 14)], []⟩)], []⟩
noncomputable def ci19 : CInfo := mkCI (plains 3) [.v .int, .v .int, .v .int] [.v .bool] (fun x => some (inR x.1 x.2.1 x.2.2)) [(false, 1)] [] false
theorem c19 : Contract Tryd.prog 19 ci19 glP := evC 15 tn_mixed tn_ok phi_nil Tryd.func19 an19 (fun x => impl_within.raw x.1 x.2.1 x.2.2) (by kernel_rfl) (fun x => by kernel_rfl) fun x r hb h => (impl_within.ok hb).trans h

def an9 : An := ⟨[], [], [], [(2, ⟨[.slot 23 (.v .bool)], [(11, 22)], []⟩)], []⟩
noncomputable def ci9 : CInfo := mkCI (plains 1) [.v .str] [.v .int, .v .bool] (fun x => parseO x) [(false, 1), (false, 1)] [] false
theorem c9 : Contract Tryd.prog 9 ci9 glP := evC 25 (l := [(7, ci7), (18, ci18), (19, ci19)]) tn_mixed tn_ok (phi_cons c7 (phi_cons c18 (phi_cons c19 phi_nil))) Tryd.func9 an9 (fun x => impl_ParseNum.raw x) (by kernel_rfl) (fun x => by kernel_rfl) fun x r hb h => impl_ParseNum.ok hb h

noncomputable def ci24 : CInfo := mkCI [.ptr [], .plain] [.cells .Cur, .sl .str] [.v .str, .cells .Cur] (fun x => spec_l1Str.raw x.1 x.2) [(false, 1)] [] false
theorem c24 : Contract Tryd.prog 24 ci24 glP := evC 12 (l := [(23, ci23)]) tn_mixed tn_ok (phi_cons c23 phi_nil) Tryd.func24 an0 (fun x => spec_l1Str.raw x.1 x.2) (by kernel_rfl) (fun x => by kernel_rfl) fun x r hb h => h

def an6 : An := ⟨[(1048586, ⟨[.slot 5 (.v .int)], [(17, 18)], []⟩)], [(0, ⟨[.slot 3 (.v .str)], [(4, 5), (9, 25)], []⟩)], [(5, ⟨[.slot 3 (.v .str), .slot 4 (.v .int)], [(5, 5), (9, 25)], []⟩)], [], []⟩
noncomputable def ci6 : CInfo := mkCI (plains 1) [.v .int] [.v .str] (fun x => some (itoaT x)) [(false, 1)] [] false
theorem c6 : Contract Tryd.prog 6 ci6 glP := evC 31 tn_mixed tn_ok phi_nil Tryd.func6 an6 (fun x => spec_NumText.raw x) (by kernel_rfl) (fun x => by kernel_rfl) fun x r hb h => (spec_NumText.ok hb).trans h

noncomputable def ci12 : CInfo := mkCI (plains 1) [.sl .byte] [.v .str] (fun x => spec_DrawParseNum.raw x) [(false, 1)] [] false
theorem c12 : Contract Tryd.prog 12 ci12 glP := evC 14 (l := [(6, ci6), (20, ci20), (21, ci21), (23, ci23), (24, ci24)]) tn_mixed tn_ok (phi_cons c6 (phi_cons c20 (phi_cons c21 (phi_cons c23 (phi_cons c24 phi_nil))))) Tryd.func12 an0 (fun x => spec_DrawParseNum.raw x) (by kernel_rfl) (fun x => by kernel_rfl) fun x r hb h => h

def an17 : An := ⟨[], [], [], [(1, ⟨[.slot 6 (.v .bool)], [(7, 14)], []⟩)], []⟩
noncomputable def ci17 : CInfo := mkCI (plains 3) [.v .int, .v .int, .v .int] [.v .bool] (fun x => some (inR x.1 x.2.1 x.2.2)) [(false, 1)] [] false
theorem c17 : Contract Tryd.prog 17 ci17 glP := evC 15 tn_mixed tn_ok phi_nil Tryd.func17 an17 (fun x => spec_l1In.raw x.1 x.2.1 x.2.2) (by kernel_rfl) (fun x => by kernel_rfl) fun x r hb h => (spec_l1In.ok hb).trans h

def an8 : An := ⟨[], [(0, ⟨[.slot 4 (.v .int)], [(2, 3), (5, 5), (24, 43)], []⟩)], [(5, ⟨[.slot 4 (.v .int), .slot 5 (.v .int)], [(2, 3), (24, 43)], []⟩)], [(1, ⟨[.slot 23 (.v .bool)], [(6, 22)], []⟩)], []⟩
noncomputable def ci8 : CInfo := mkCI (plains 1) [.v .str] [.v .int, .v .bool] (fun x => some (parseN x)) [(false, 1), (false, 1)] [] false
theorem c8 : Contract Tryd.prog 8 ci8 glP := evC 47 (l := [(17, ci17)]) tn_mixed tn_ok (phi_cons c17 phi_nil) Tryd.func8 an8 (fun x => spec_ParseNum.raw x) (by kernel_rfl) (fun x => by kernel_rfl) fun x r hb h => (spec_ParseNum.ok hb).trans h

noncomputable def ci13 : CInfo := mkCI (plains 1) [.sl .byte] [.v .int] (fun x => spec_DrawStName.raw x) [(false, 1)] [] false
theorem c13 : Contract Tryd.prog 13 ci13 glP := evC 9 (l := [(20, ci20), (23, ci23)]) tn_mixed tn_ok (phi_cons c20 (phi_cons c23 phi_nil)) Tryd.func13 an0 (fun x => spec_DrawStName.raw x) (by kernel_rfl) (fun x => by kernel_rfl) fun x r hb h => h

noncomputable def ci14 : CInfo := mkCI (plains 1) [.v .int] [.v .str] (fun x => some (stName x)) [(false, 1)] [] false
theorem c14 : Contract Tryd.prog 14 ci14 glP := evC 10 (l := [(19, ci19)]) tn_mixed tn_ok (phi_cons c19 phi_nil) Tryd.func14 an0 (fun x => impl_StName.raw x) (by kernel_rfl) (fun x => by kernel_rfl) fun x r hb h => (impl_StName.ok hb).trans h

noncomputable def ci15 : CInfo := mkCI (plains 1) [.v .int] [.v .str] (fun x => some (stName x)) [(false, 1)] [] false
theorem c15 : Contract Tryd.prog 15 ci15 glP := evC 12 tn_mixed tn_ok phi_nil Tryd.func15 an0 (fun x => spec_StName.raw x) (by kernel_rfl) (fun x => by kernel_rfl) fun x r hb h => (spec_StName.ok hb).trans h

def an5 : An := ⟨[], [], [], [(10, ⟨[.slot 2 (.v .bool)], [(38, 94)], []⟩)], []⟩
noncomputable def ci5 : CInfo := mkCI (plains 1) [.sl .byte] [.v .bool] (fun x => some ((fun (a0 : List UInt8) => always a0) x)) [(false, 1)] [] false
theorem c5 : Contract Tryd.prog 5 ci5 glP := evC 95 (l := [(6, ci6), (7, ci7), (8, ci8), (9, ci9), (10, ci10), (11, ci11), (12, ci12), (13, ci13), (14, ci14), (15, ci15)]) tn_mixed tn_ok (phi_cons c6 (phi_cons c7 (phi_cons c8 (phi_cons c9 (phi_cons c10 (phi_cons c11 (phi_cons c12 (phi_cons c13 (phi_cons c14 (phi_cons c15 phi_nil)))))))))) Tryd.func5 an5 (fun x => laws_FnNums.raw x) (by kernel_rfl) (fun x => by kernel_rfl) fun x r hb h => (laws_FnNums.ok hb).trans h

end Go.D

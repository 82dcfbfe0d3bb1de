/-
  The functions of the program: each computes what is said of it.
-/
import Derived.Test.YtnmnifbcflablaaDoorX
import Derived.Test.YtnmnifbcflablaaDoorProg
import Derived.KernelRfl
namespace Go.D
open Go.Proofs

def tnT : TypeId → Option TN := fun t => look t [(3, .int), (5, .byte), (9, .str)]
def an0 : An := ⟨[], [], [], [], []⟩
theorem tn_mixed : Tryd.prog.follows .mixedOrders = true := by kernel_rfl
theorem tn_ok : tnAll Tryd.prog [(3, .int), (5, .byte), (9, .str)] = true := by kernel_rfl

def an17 : An := ⟨[], [], [], [(1, ⟨[.slot 6 (.v .bool)], [(7, 14)], []⟩)], []⟩
noncomputable def ci17 : CInfo := mkCI (plains 3) [.v .int, .v .int, .v .int] [.v .bool] (fun x => some (inR x.1 x.2.1 x.2.2)) [(false, 1)] [] false
theorem c17 : Contract Tryd.prog 17 ci17 glP := evC 15 tn_mixed tn_ok phi_nil Tryd.func17 an17 (fun x => spec_l1In.raw x.1 x.2.1 x.2.2) (by kernel_rfl) (fun x => by kernel_rfl) fun x r hb h => (spec_l1In.ok hb).trans h

def an8 : An := ⟨[], [(0, ⟨[.slot 4 (.v .int)], [(2, 3), (5, 5), (24, 43)], []⟩)], [(5, ⟨[.slot 4 (.v .int), .slot 5 (.v .int)], [(2, 3), (24, 43)], []⟩)], [(1, ⟨[.slot 23 (.v .bool)], [(6, 22)], []⟩)], []⟩
noncomputable def ci8 : CInfo := mkCI (plains 1) [.v .str] [.v .int, .v .bool] (fun x => some (parseN x)) [(false, 1), (false, 1)] [] false
theorem c8 : Contract Tryd.prog 8 ci8 glP := evC 47 (l := [(17, ci17)]) tn_mixed tn_ok (phi_cons c17 phi_nil) Tryd.func8 an8 (fun x => spec_ParseNum.raw x) (by kernel_rfl) (fun x => by kernel_rfl) fun x r hb h => (spec_ParseNum.ok hb).trans h

def an19 : An := ⟨[], [], [], [(1, ⟨[.slot 6 (.v .bool)], [(7, 14)], []⟩)], []⟩
noncomputable def ci19 : CInfo := mkCI (plains 3) [.v .int, .v .int, .v .int] [.v .bool] (fun x => some (inR x.1 x.2.1 x.2.2)) [(false, 1)] [] false
theorem c19 : Contract Tryd.prog 19 ci19 glP := evC 15 tn_mixed tn_ok phi_nil Tryd.func19 an19 (fun x => impl_within.raw x.1 x.2.1 x.2.2) (by kernel_rfl) (fun x => by kernel_rfl) fun x r hb h => (impl_within.ok hb).trans h

noncomputable def ci7 : CInfo := mkCI (plains 1) [.v .int] [.v .str] (fun x => some (itoaT x)) [(false, 1)] [] false
theorem c7 : Contract Tryd.prog 7 ci7 glP := evC 5 (l := [(16, ci16)]) tn_mixed tn_ok (phi_cons c16 phi_nil) Tryd.func7 an0 (fun x => impl_NumText.raw x) (by kernel_rfl) (fun x => by kernel_rfl) fun x r hb h => (impl_NumText.ok hb).trans h

def an9 : An := ⟨[], [], [], [(2, ⟨[.slot 23 (.v .bool)], [(11, 22)], []⟩)], []⟩
noncomputable def ci9 : CInfo := mkCI (plains 1) [.v .str] [.v .int, .v .bool] (fun x => parseO x) [(false, 1), (false, 1)] [] false
theorem c9 : Contract Tryd.prog 9 ci9 glP := evC 25 (l := [(7, ci7), (18, ci18), (19, ci19)]) tn_mixed tn_ok (phi_cons c7 (phi_cons c18 (phi_cons c19 phi_nil))) Tryd.func9 an9 (fun x => impl_ParseNum.raw x) (by kernel_rfl) (fun x => by kernel_rfl) fun x r hb h => impl_ParseNum.ok hb h

def an4 : An := ⟨[], [], [], [(5, ⟨[.slot 27 (.v .bool)], [(20, 26)], []⟩)], []⟩
noncomputable def ci4 : CInfo := mkCI (plains 1) [.v .str] [.v .bool] (fun x => some ((fun (a0 : List UInt8) => always a0) x)) [(false, 1)] [] false
theorem c4 : Contract Tryd.prog 4 ci4 glP := evC 28 (l := [(8, ci8), (9, ci9)]) tn_mixed tn_ok (phi_cons c8 (phi_cons c9 phi_nil)) Tryd.func4 an4 (fun x => laws_FnExactParseNum.raw x) (by kernel_rfl) (fun x => by kernel_rfl) fun x r hb h => (laws_FnExactParseNum.ok hb).trans h

end Go.D

/-
  The functions of the program: each computes what is said of it.
-/
import Derived.Test.YtnmnifbcflablaaDoorX
import Derived.Test.YtnmnifbcflablaaDoorProg
import Derived.KernelRfl
namespace Go.D
open Go.Proofs

def tnT : TypeId → Option TN := fun t => look t [(3, .int), (5, .byte), (9, .str)]
def an0 : An := ⟨[], [], [], [], []⟩
theorem tn_mixed : Tryd.prog.follows .mixedOrders = true := by kernel_rfl
theorem tn_ok : tnAll Tryd.prog [(3, .int), (5, .byte), (9, .str)] = true := by kernel_rfl

def an6 : An := ⟨[(1048586, ⟨[.slot 5 (.v .int)], [(17, 18)], []⟩)], [(0, ⟨[.slot 3 (.v .str)], [(4, 5), (9, 25)], []⟩)], [(5, ⟨[.slot 3 (.v .str), .slot 4 (.v .int)], [(5, 5), (9, 25)], []⟩)], [], []⟩
noncomputable def ci6 : CInfo := mkCI (plains 1) [.v .int] [.v .str] (fun x => some (itoaT x)) [(false, 1)] [] false
theorem c6 : Contract Tryd.prog 6 ci6 glN := evC 31 tn_mixed tn_ok phi_nil Tryd.func6 an6 (fun x => spec_NumText.raw x) (by kernel_rfl) (fun x => by kernel_rfl) fun x r hb h => (spec_NumText.ok hb).trans h

noncomputable def ci7 : CInfo := mkCI (plains 1) [.v .int] [.v .str] (fun x => some (itoaT x)) [(false, 1)] [] false
theorem c7 : Contract Tryd.prog 7 ci7 glN := evC 5 (l := [(16, ci16)]) tn_mixed tn_ok (phi_cons c16 phi_nil) Tryd.func7 an0 (fun x => impl_NumText.raw x) (by kernel_rfl) (fun x => by kernel_rfl) fun x r hb h => (impl_NumText.ok hb).trans h

noncomputable def ci3 : CInfo := mkCI (plains 1) [.v .int] [.v .bool] (fun x => some ((fun (a0 : Int) => always a0) x)) [(false, 1)] [] false
theorem c3 : Contract Tryd.prog 3 ci3 glN := evC 12 (l := [(6, ci6), (7, ci7)]) tn_mixed tn_ok (phi_cons c6 (phi_cons c7 phi_nil)) Tryd.func3 an0 (fun x => laws_FnExactNumText.raw x) (by kernel_rfl) (fun x => by kernel_rfl) fun x r hb h => (laws_FnExactNumText.ok hb).trans h

end Go.D

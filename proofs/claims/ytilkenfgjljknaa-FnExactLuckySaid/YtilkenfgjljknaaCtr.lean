/-
  The functions of the program: each computes what is said of it.
-/
import Derived.Test.YtilkenfgjljknaaOks
import Derived.Test.YtilkenfgjljknaaProg
import Derived.KernelRfl
namespace Go.D
open Go.Proofs

def tnT : TypeId → Option TN := fun t => look t [(3, .int), (5, .byte), (9, .str), (87, .Credit), (90, .Credit), (98, .Note), (100, .Note), (113, .Op), (114, .Op)]
theorem tn_mixed : Try.prog.follows .mixedOrders = true := by kernel_rfl
theorem tn_ok : tnAll Try.prog [(3, .int), (5, .byte), (9, .str), (87, .Credit), (90, .Credit), (98, .Note), (100, .Note), (113, .Op), (114, .Op)] = true := by kernel_rfl

def an67 : An := ⟨[], [], [], [], []⟩
noncomputable def C67 : Cx := ⟨Try.prog, tnT, fun f => lookC f [], 12⟩
noncomputable def ci67 : CInfo := ⟨(plains 2), TyTup [.sl .byte, .v .int], TyTup [.v .int], decTup [.sl .byte, .v .int], fun x => (fun (a0 : List UInt8) (a1 : Int) => szO a0 a1) x.1 x.2, flatTup [.v .int], [(false, 1)], []⟩
theorem e67 (x : TyTup [.sl .byte, .v .int]) : evalF C67 Try.f67 (Try.f67.body.getD .skip) an67 (plains 2) [] [(false, 1)] [.v .int] (encTup [.sl .byte, .v .int] x) = laws_szByteS.raw x.1 x.2 := by kernel_rfl
theorem c67 : Contract Try.prog 67 ci67 :=
  evalF_ok (C := C67) (tnOk_of tn_mixed tn_ok _ _) phi_nil Try.func67 (by kernel_rfl : Try.f67.body = some (Try.f67.body.getD .skip)) (by kernel_rfl) (by kernel_rfl) an67 (plains 2) [] [(false, 1)] [.sl .byte, .v .int] [.v .int] (fun x => (fun (a0 : List UInt8) (a1 : Int) => szO a0 a1) x.1 x.2) rfl (by kernel_rfl)
    fun x r hb h => (e67 x).trans (laws_szByteS.ok hb h)

def an99 : An := ⟨[], [], [], [], []⟩
noncomputable def C99 : Cx := ⟨Try.prog, tnT, fun f => lookC f [(67, ci67)], 12⟩
noncomputable def ci99 : CInfo := ⟨(plains 2), TyTup [.v .Op, .v .int], TyTup [.v .int], decTup [.v .Op, .v .int], fun x => (fun (a0 : G.Op) (a1 : Int) => szO a0 a1) x.1 x.2, flatTup [.v .int], [(false, 1)], []⟩
theorem e99 (x : TyTup [.v .Op, .v .int]) : evalF C99 Try.f99 (Try.f99.body.getD .skip) an99 (plains 2) [] [(false, 1)] [.v .int] (encTup [.v .Op, .v .int] x) = laws_szOp.raw x.1 x.2 := by kernel_rfl
theorem c99 : Contract Try.prog 99 ci99 :=
  evalF_ok (C := C99) (tnOk_of tn_mixed tn_ok _ _) (phi_cons c67 phi_nil) Try.func99 (by kernel_rfl : Try.f99.body = some (Try.f99.body.getD .skip)) (by kernel_rfl) (by kernel_rfl) an99 (plains 2) [] [(false, 1)] [.v .Op, .v .int] [.v .int] (fun x => (fun (a0 : G.Op) (a1 : Int) => szO a0 a1) x.1 x.2) rfl (by kernel_rfl)
    fun x r hb h => (e99 x).trans (laws_szOp.ok hb h)

def an68 : An := ⟨[], [(0, ⟨[.slot 1 (.v .int)], [(4, 5), (12, 25)], []⟩)], [(5, ⟨[.slot 1 (.v .int), .slot 5 (.v .int)], [(4, 4), (12, 25)], []⟩)], [], []⟩
noncomputable def C68 : Cx := ⟨Try.prog, tnT, fun f => lookC f [(99, ci99)], 27⟩
noncomputable def ci68 : CInfo := ⟨(plains 2), TyTup [.sl .Op, .v .int], TyTup [.v .int], decTup [.sl .Op, .v .int], fun x => (fun (a0 : List G.Op) (a1 : Int) => szO a0 a1) x.1 x.2, flatTup [.v .int], [(false, 1)], []⟩
theorem e68 (x : TyTup [.sl .Op, .v .int]) : evalF C68 Try.f68 (Try.f68.body.getD .skip) an68 (plains 2) [] [(false, 1)] [.v .int] (encTup [.sl .Op, .v .int] x) = laws_szOpS.raw x.1 x.2 := by kernel_rfl
theorem c68 : Contract Try.prog 68 ci68 :=
  evalF_ok (C := C68) (tnOk_of tn_mixed tn_ok _ _) (phi_cons c99 phi_nil) Try.func68 (by kernel_rfl : Try.f68.body = some (Try.f68.body.getD .skip)) (by kernel_rfl) (by kernel_rfl) an68 (plains 2) [] [(false, 1)] [.sl .Op, .v .int] [.v .int] (fun x => (fun (a0 : List G.Op) (a1 : Int) => szO a0 a1) x.1 x.2) rfl (by kernel_rfl)
    fun x r hb h => (e68 x).trans (laws_szOpS.ok hb h)

def an27 : An := ⟨[], [], [], [], []⟩
noncomputable def C27 : Cx := ⟨Try.prog, tnT, fun f => lookC f [(67, ci67), (68, ci68)], 18⟩
noncomputable def ci27 : CInfo := ⟨(plains 2), TyTup [.v .Event, .v .int], TyTup [.v .int], decTup [.v .Event, .v .int], fun x => (fun (a0 : G.Event) (a1 : Int) => szO a0 a1) x.1 x.2, flatTup [.v .int], [(false, 1)], []⟩
theorem e27 (x : TyTup [.v .Event, .v .int]) : evalF C27 Try.f27 (Try.f27.body.getD .skip) an27 (plains 2) [] [(false, 1)] [.v .int] (encTup [.v .Event, .v .int] x) = laws_szEvent.raw x.1 x.2 := by kernel_rfl
theorem c27 : Contract Try.prog 27 ci27 :=
  evalF_ok (C := C27) (tnOk_of tn_mixed tn_ok _ _) (phi_cons c67 (phi_cons c68 phi_nil)) Try.func27 (by kernel_rfl : Try.f27.body = some (Try.f27.body.getD .skip)) (by kernel_rfl) (by kernel_rfl) an27 (plains 2) [] [(false, 1)] [.v .Event, .v .int] [.v .int] (fun x => (fun (a0 : G.Event) (a1 : Int) => szO a0 a1) x.1 x.2) rfl (by kernel_rfl)
    fun x r hb h => (e27 x).trans (laws_szEvent.ok hb h)

def an35 : An := ⟨[], [(0, ⟨[.own 3 .byte], [(4, 4), (8, 20)], []⟩)], [(3, ⟨[.slot 4 (.v .int), .own 3 .byte], [(8, 20)], []⟩)], [], []⟩
noncomputable def C35 : Cx := ⟨Try.prog, tnT, fun f => lookC f [], 22⟩
noncomputable def ci35 : CInfo := ⟨(plains 1), TyTup [.sl .byte], TyTup [.sl .byte], decTup [.sl .byte], fun x => (fun (a0 : List UInt8) => cpy a0) x, flatTup [.sl .byte], [(false, 1)], [0]⟩
theorem e35 (x : TyTup [.sl .byte]) : evalF C35 Try.f35 (Try.f35.body.getD .skip) an35 (plains 1) [0] [(false, 1)] [.sl .byte] (encTup [.sl .byte] x) = laws_toByteS.raw x := by kernel_rfl
theorem c35 : Contract Try.prog 35 ci35 :=
  evalF_ok (C := C35) (tnOk_of tn_mixed tn_ok _ _) phi_nil Try.func35 (by kernel_rfl : Try.f35.body = some (Try.f35.body.getD .skip)) (by kernel_rfl) (by kernel_rfl) an35 (plains 1) [0] [(false, 1)] [.sl .byte] [.sl .byte] (fun x => (fun (a0 : List UInt8) => cpy a0) x) rfl (by kernel_rfl)
    fun x r hb h => (e35 x).trans (laws_toByteS.ok hb h)

def an100 : An := ⟨[], [], [], [], []⟩
noncomputable def C100 : Cx := ⟨Try.prog, tnT, fun f => lookC f [(35, ci35)], 18⟩
noncomputable def ci100 : CInfo := ⟨(plains 1), TyTup [.v .Op], TyTup [.v .Op], decTup [.v .Op], fun x => (fun (a0 : G.Op) => cpy a0) x, flatTup [.v .Op], [(true, 4)], [3]⟩
theorem e100 (x : TyTup [.v .Op]) : evalF C100 Try.f100 (Try.f100.body.getD .skip) an100 (plains 1) [3] [(true, 4)] [.v .Op] (encTup [.v .Op] x) = laws_toOp.raw x := by kernel_rfl
theorem c100 : Contract Try.prog 100 ci100 :=
  evalF_ok (C := C100) (tnOk_of tn_mixed tn_ok _ _) (phi_cons c35 phi_nil) Try.func100 (by kernel_rfl : Try.f100.body = some (Try.f100.body.getD .skip)) (by kernel_rfl) (by kernel_rfl) an100 (plains 1) [3] [(true, 4)] [.v .Op] [.v .Op] (fun x => (fun (a0 : G.Op) => cpy a0) x) rfl (by kernel_rfl)
    fun x r hb h => (e100 x).trans (laws_toOp.ok hb h)

def an70 : An := ⟨[], [(0, ⟨[.own 3 .Op], [(4, 4), (8, 21)], []⟩)], [(3, ⟨[.slot 4 (.v .int), .own 3 .Op], [(8, 21)], []⟩)], [], []⟩
noncomputable def C70 : Cx := ⟨Try.prog, tnT, fun f => lookC f [(100, ci100)], 23⟩
noncomputable def ci70 : CInfo := ⟨(plains 1), TyTup [.sl .Op], TyTup [.sl .Op], decTup [.sl .Op], fun x => (fun (a0 : List G.Op) => cpy a0) x, flatTup [.sl .Op], [(false, 1)], [0]⟩
theorem e70 (x : TyTup [.sl .Op]) : evalF C70 Try.f70 (Try.f70.body.getD .skip) an70 (plains 1) [0] [(false, 1)] [.sl .Op] (encTup [.sl .Op] x) = laws_toOpS.raw x := by kernel_rfl
theorem c70 : Contract Try.prog 70 ci70 :=
  evalF_ok (C := C70) (tnOk_of tn_mixed tn_ok _ _) (phi_cons c100 phi_nil) Try.func70 (by kernel_rfl : Try.f70.body = some (Try.f70.body.getD .skip)) (by kernel_rfl) (by kernel_rfl) an70 (plains 1) [0] [(false, 1)] [.sl .Op] [.sl .Op] (fun x => (fun (a0 : List G.Op) => cpy a0) x) rfl (by kernel_rfl)
    fun x r hb h => (e70 x).trans (laws_toOpS.ok hb h)

def an29 : An := ⟨[], [], [], [], []⟩
noncomputable def C29 : Cx := ⟨Try.prog, tnT, fun f => lookC f [(35, ci35), (70, ci70)], 25⟩
noncomputable def ci29 : CInfo := ⟨(plains 1), TyTup [.v .Event], TyTup [.v .Event], decTup [.v .Event], fun x => (fun (a0 : G.Event) => cpy a0) x, flatTup [.v .Event], [(true, 6)], [4, 5]⟩
theorem e29 (x : TyTup [.v .Event]) : evalF C29 Try.f29 (Try.f29.body.getD .skip) an29 (plains 1) [4, 5] [(true, 6)] [.v .Event] (encTup [.v .Event] x) = laws_toEvent.raw x := by kernel_rfl
theorem c29 : Contract Try.prog 29 ci29 :=
  evalF_ok (C := C29) (tnOk_of tn_mixed tn_ok _ _) (phi_cons c35 (phi_cons c70 phi_nil)) Try.func29 (by kernel_rfl : Try.f29.body = some (Try.f29.body.getD .skip)) (by kernel_rfl) (by kernel_rfl) an29 (plains 1) [4, 5] [(true, 6)] [.v .Event] [.v .Event] (fun x => (fun (a0 : G.Event) => cpy a0) x) rfl (by kernel_rfl)
    fun x r hb h => (e29 x).trans (laws_toEvent.ok hb h)

def an69 : An := ⟨[], [], [], [(1, ⟨[.slot 6 (.v .bool)], [(7, 14)], []⟩)], []⟩
noncomputable def C69 : Cx := ⟨Try.prog, tnT, fun f => lookC f [], 15⟩
noncomputable def ci69 : CInfo := ⟨(plains 3), TyTup [.v .int, .v .int, .v .int], TyTup [.v .bool], decTup [.v .int, .v .int, .v .int], fun x => some ((fun (a0 : Int) (a1 : Int) (a2 : Int) => inR a0 a1 a2) x.1 x.2.1 x.2.2), flatTup [.v .bool], [(false, 1)], []⟩
theorem e69 (x : TyTup [.v .int, .v .int, .v .int]) : evalF C69 Try.f69 (Try.f69.body.getD .skip) an69 (plains 3) [] [(false, 1)] [.v .bool] (encTup [.v .int, .v .int, .v .int] x) = spec_l1In.raw x.1 x.2.1 x.2.2 := by kernel_rfl
theorem c69 : Contract Try.prog 69 ci69 :=
  evalF_ok (C := C69) (tnOk_of tn_mixed tn_ok _ _) phi_nil Try.func69 (by kernel_rfl : Try.f69.body = some (Try.f69.body.getD .skip)) (by kernel_rfl) (by kernel_rfl) an69 (plains 3) [] [(false, 1)] [.v .int, .v .int, .v .int] [.v .bool] (fun x => some ((fun (a0 : Int) (a1 : Int) (a2 : Int) => inR a0 a1 a2) x.1 x.2.1 x.2.2)) rfl (by kernel_rfl)
    fun x r hb h => (e69 x).trans ((spec_l1In.ok hb).trans h)

def an28 : An := ⟨[], [], [], [(1, ⟨[.slot 2 (.v .bool)], [(3, 32)], []⟩)], []⟩
noncomputable def C28 : Cx := ⟨Try.prog, tnT, fun f => lookC f [(69, ci69)], 33⟩
noncomputable def ci28 : CInfo := ⟨(plains 1), TyTup [.v .Event], TyTup [.v .bool], decTup [.v .Event], fun x => some ((fun (a0 : G.Event) => eventOk a0) x), flatTup [.v .bool], [(false, 1)], []⟩
theorem e28 (x : TyTup [.v .Event]) : evalF C28 Try.f28 (Try.f28.body.getD .skip) an28 (plains 1) [] [(false, 1)] [.v .bool] (encTup [.v .Event] x) = spec_EventOk.raw x := by kernel_rfl
theorem c28 : Contract Try.prog 28 ci28 :=
  evalF_ok (C := C28) (tnOk_of tn_mixed tn_ok _ _) (phi_cons c69 phi_nil) Try.func28 (by kernel_rfl : Try.f28.body = some (Try.f28.body.getD .skip)) (by kernel_rfl) (by kernel_rfl) an28 (plains 1) [] [(false, 1)] [.v .Event] [.v .bool] (fun x => some ((fun (a0 : G.Event) => eventOk a0) x)) rfl (by kernel_rfl)
    fun x r hb h => (e28 x).trans ((spec_EventOk.ok hb).trans h)

def an58 : An := ⟨[], [], [], [(1, ⟨[.slot 6 (.v .bool)], [(7, 14)], []⟩)], []⟩
noncomputable def C58 : Cx := ⟨Try.prog, tnT, fun f => lookC f [], 15⟩
noncomputable def ci58 : CInfo := ⟨(plains 3), TyTup [.v .int, .v .int, .v .int], TyTup [.v .bool], decTup [.v .int, .v .int, .v .int], fun x => some ((fun (a0 : Int) (a1 : Int) (a2 : Int) => inR a0 a1 a2) x.1 x.2.1 x.2.2), flatTup [.v .bool], [(false, 1)], []⟩
theorem e58 (x : TyTup [.v .int, .v .int, .v .int]) : evalF C58 Try.f58 (Try.f58.body.getD .skip) an58 (plains 3) [] [(false, 1)] [.v .bool] (encTup [.v .int, .v .int, .v .int] x) = impl_within.raw x.1 x.2.1 x.2.2 := by kernel_rfl
theorem c58 : Contract Try.prog 58 ci58 :=
  evalF_ok (C := C58) (tnOk_of tn_mixed tn_ok _ _) phi_nil Try.func58 (by kernel_rfl : Try.f58.body = some (Try.f58.body.getD .skip)) (by kernel_rfl) (by kernel_rfl) an58 (plains 3) [] [(false, 1)] [.v .int, .v .int, .v .int] [.v .bool] (fun x => some ((fun (a0 : Int) (a1 : Int) (a2 : Int) => inR a0 a1 a2) x.1 x.2.1 x.2.2)) rfl (by kernel_rfl)
    fun x r hb h => (e58 x).trans ((impl_within.ok hb).trans h)

def an30 : An := ⟨[], [], [], [(1, ⟨[.slot 2 (.v .bool)], [(3, 32)], []⟩)], []⟩
noncomputable def C30 : Cx := ⟨Try.prog, tnT, fun f => lookC f [(58, ci58)], 33⟩
noncomputable def ci30 : CInfo := ⟨(plains 1), TyTup [.v .Event], TyTup [.v .bool], decTup [.v .Event], fun x => some ((fun (a0 : G.Event) => eventOk a0) x), flatTup [.v .bool], [(false, 1)], []⟩
theorem e30 (x : TyTup [.v .Event]) : evalF C30 Try.f30 (Try.f30.body.getD .skip) an30 (plains 1) [] [(false, 1)] [.v .bool] (encTup [.v .Event] x) = impl_EventOk.raw x := by kernel_rfl
theorem c30 : Contract Try.prog 30 ci30 :=
  evalF_ok (C := C30) (tnOk_of tn_mixed tn_ok _ _) (phi_cons c58 phi_nil) Try.func30 (by kernel_rfl : Try.f30.body = some (Try.f30.body.getD .skip)) (by kernel_rfl) (by kernel_rfl) an30 (plains 1) [] [(false, 1)] [.v .Event] [.v .bool] (fun x => some ((fun (a0 : G.Event) => eventOk a0) x)) rfl (by kernel_rfl)
    fun x r hb h => (e30 x).trans ((impl_EventOk.ok hb).trans h)

def an38 : An := ⟨[], [(0, ⟨[], [(4, 5), (11, 25)], []⟩)], [(4, ⟨[.slot 5 (.v .int)], [(4, 4), (11, 25)], []⟩)], [], []⟩
noncomputable def C38 : Cx := ⟨Try.prog, tnT, fun f => lookC f [], 26⟩
noncomputable def ci38 : CInfo := ⟨(plains 2), TyTup [.sl .byte, .sl .byte], TyTup [.v .bool], decTup [.sl .byte, .sl .byte], fun x => some ((fun (a0 : List UInt8) (a1 : List UInt8) => eqq a0 a1) x.1 x.2), flatTup [.v .bool], [(false, 1)], []⟩
theorem e38 (x : TyTup [.sl .byte, .sl .byte]) : evalF C38 Try.f38 (Try.f38.body.getD .skip) an38 (plains 2) [] [(false, 1)] [.v .bool] (encTup [.sl .byte, .sl .byte] x) = laws_eqByteS.raw x.1 x.2 := by kernel_rfl
theorem c38 : Contract Try.prog 38 ci38 :=
  evalF_ok (C := C38) (tnOk_of tn_mixed tn_ok _ _) phi_nil Try.func38 (by kernel_rfl : Try.f38.body = some (Try.f38.body.getD .skip)) (by kernel_rfl) (by kernel_rfl) an38 (plains 2) [] [(false, 1)] [.sl .byte, .sl .byte] [.v .bool] (fun x => some ((fun (a0 : List UInt8) (a1 : List UInt8) => eqq a0 a1) x.1 x.2)) rfl (by kernel_rfl)
    fun x r hb h => (e38 x).trans ((laws_eqByteS.ok hb).trans h)

def an101 : An := ⟨[], [], [], [], []⟩
noncomputable def C101 : Cx := ⟨Try.prog, tnT, fun f => lookC f [(38, ci38)], 26⟩
noncomputable def ci101 : CInfo := ⟨(plains 2), TyTup [.v .Op, .v .Op], TyTup [.v .bool], decTup [.v .Op, .v .Op], fun x => some ((fun (a0 : G.Op) (a1 : G.Op) => eqq a0 a1) x.1 x.2), flatTup [.v .bool], [(false, 1)], []⟩
theorem e101 (x : TyTup [.v .Op, .v .Op]) : evalF C101 Try.f101 (Try.f101.body.getD .skip) an101 (plains 2) [] [(false, 1)] [.v .bool] (encTup [.v .Op, .v .Op] x) = laws_eqOp.raw x.1 x.2 := by kernel_rfl
theorem c101 : Contract Try.prog 101 ci101 :=
  evalF_ok (C := C101) (tnOk_of tn_mixed tn_ok _ _) (phi_cons c38 phi_nil) Try.func101 (by kernel_rfl : Try.f101.body = some (Try.f101.body.getD .skip)) (by kernel_rfl) (by kernel_rfl) an101 (plains 2) [] [(false, 1)] [.v .Op, .v .Op] [.v .bool] (fun x => some ((fun (a0 : G.Op) (a1 : G.Op) => eqq a0 a1) x.1 x.2)) rfl (by kernel_rfl)
    fun x r hb h => (e101 x).trans ((laws_eqOp.ok hb).trans h)

def an71 : An := ⟨[], [(0, ⟨[], [(4, 5), (11, 26)], []⟩)], [(4, ⟨[.slot 5 (.v .int)], [(4, 4), (11, 26)], []⟩)], [], []⟩
noncomputable def C71 : Cx := ⟨Try.prog, tnT, fun f => lookC f [(101, ci101)], 27⟩
noncomputable def ci71 : CInfo := ⟨(plains 2), TyTup [.sl .Op, .sl .Op], TyTup [.v .bool], decTup [.sl .Op, .sl .Op], fun x => some ((fun (a0 : List G.Op) (a1 : List G.Op) => eqq a0 a1) x.1 x.2), flatTup [.v .bool], [(false, 1)], []⟩
theorem e71 (x : TyTup [.sl .Op, .sl .Op]) : evalF C71 Try.f71 (Try.f71.body.getD .skip) an71 (plains 2) [] [(false, 1)] [.v .bool] (encTup [.sl .Op, .sl .Op] x) = laws_eqOpS.raw x.1 x.2 := by kernel_rfl
theorem c71 : Contract Try.prog 71 ci71 :=
  evalF_ok (C := C71) (tnOk_of tn_mixed tn_ok _ _) (phi_cons c101 phi_nil) Try.func71 (by kernel_rfl : Try.f71.body = some (Try.f71.body.getD .skip)) (by kernel_rfl) (by kernel_rfl) an71 (plains 2) [] [(false, 1)] [.sl .Op, .sl .Op] [.v .bool] (fun x => some ((fun (a0 : List G.Op) (a1 : List G.Op) => eqq a0 a1) x.1 x.2)) rfl (by kernel_rfl)
    fun x r hb h => (e71 x).trans ((laws_eqOpS.ok hb).trans h)

def an31 : An := ⟨[], [], [], [], []⟩
noncomputable def C31 : Cx := ⟨Try.prog, tnT, fun f => lookC f [(38, ci38), (71, ci71)], 37⟩
noncomputable def ci31 : CInfo := ⟨(plains 2), TyTup [.v .Event, .v .Event], TyTup [.v .bool], decTup [.v .Event, .v .Event], fun x => some ((fun (a0 : G.Event) (a1 : G.Event) => eqq a0 a1) x.1 x.2), flatTup [.v .bool], [(false, 1)], []⟩
theorem e31 (x : TyTup [.v .Event, .v .Event]) : evalF C31 Try.f31 (Try.f31.body.getD .skip) an31 (plains 2) [] [(false, 1)] [.v .bool] (encTup [.v .Event, .v .Event] x) = laws_eqEvent.raw x.1 x.2 := by kernel_rfl
theorem c31 : Contract Try.prog 31 ci31 :=
  evalF_ok (C := C31) (tnOk_of tn_mixed tn_ok _ _) (phi_cons c38 (phi_cons c71 phi_nil)) Try.func31 (by kernel_rfl : Try.f31.body = some (Try.f31.body.getD .skip)) (by kernel_rfl) (by kernel_rfl) an31 (plains 2) [] [(false, 1)] [.v .Event, .v .Event] [.v .bool] (fun x => some ((fun (a0 : G.Event) (a1 : G.Event) => eqq a0 a1) x.1 x.2)) rfl (by kernel_rfl)
    fun x r hb h => (e31 x).trans ((laws_eqEvent.ok hb).trans h)

def an6 : An := ⟨[], [], [], [], []⟩
noncomputable def C6 : Cx := ⟨Try.prog, tnT, fun f => lookC f [(27, ci27), (28, ci28), (29, ci29), (30, ci30), (31, ci31)], 27⟩
noncomputable def ci6 : CInfo := ⟨(plains 1), TyTup [.v .Event], TyTup [.v .bool], decTup [.v .Event], fun x => some ((fun (a0 : G.Event) => always a0) x), flatTup [.v .bool], [(false, 1)], []⟩
theorem e6 (x : TyTup [.v .Event]) : evalF C6 Try.f6 (Try.f6.body.getD .skip) an6 (plains 1) [] [(false, 1)] [.v .bool] (encTup [.v .Event] x) = laws_FnExactEventOk.raw x := by kernel_rfl
theorem c6 : Contract Try.prog 6 ci6 :=
  evalF_ok (C := C6) (tnOk_of tn_mixed tn_ok _ _) (phi_cons c27 (phi_cons c28 (phi_cons c29 (phi_cons c30 (phi_cons c31 phi_nil))))) Try.func6 (by kernel_rfl : Try.f6.body = some (Try.f6.body.getD .skip)) (by kernel_rfl) (by kernel_rfl) an6 (plains 1) [] [(false, 1)] [.v .Event] [.v .bool] (fun x => some ((fun (a0 : G.Event) => always a0) x)) rfl (by kernel_rfl)
    fun x r hb h => (e6 x).trans ((laws_FnExactEventOk.ok hb).trans h)

def an72 : An := ⟨[], [], [], [], []⟩
noncomputable def C72 : Cx := ⟨Try.prog, tnT, fun f => lookC f [(67, ci67)], 30⟩
noncomputable def ci72 : CInfo := ⟨(plains 2), TyTup [.v .Note, .v .int], TyTup [.v .int], decTup [.v .Note, .v .int], fun x => (fun (a0 : G.Note) (a1 : Int) => szO a0 a1) x.1 x.2, flatTup [.v .int], [(false, 1)], []⟩
theorem e72 (x : TyTup [.v .Note, .v .int]) : evalF C72 Try.f72 (Try.f72.body.getD .skip) an72 (plains 2) [] [(false, 1)] [.v .int] (encTup [.v .Note, .v .int] x) = laws_szNote.raw x.1 x.2 := by kernel_rfl
theorem c72 : Contract Try.prog 72 ci72 :=
  evalF_ok (C := C72) (tnOk_of tn_mixed tn_ok _ _) (phi_cons c67 phi_nil) Try.func72 (by kernel_rfl : Try.f72.body = some (Try.f72.body.getD .skip)) (by kernel_rfl) (by kernel_rfl) an72 (plains 2) [] [(false, 1)] [.v .Note, .v .int] [.v .int] (fun x => (fun (a0 : G.Note) (a1 : Int) => szO a0 a1) x.1 x.2) rfl (by kernel_rfl)
    fun x r hb h => (e72 x).trans (laws_szNote.ok hb h)

def an32 : An := ⟨[], [(0, ⟨[.slot 1 (.v .int)], [(4, 5), (12, 25)], []⟩)], [(5, ⟨[.slot 1 (.v .int), .slot 5 (.v .int)], [(4, 4), (12, 25)], []⟩)], [], []⟩
noncomputable def C32 : Cx := ⟨Try.prog, tnT, fun f => lookC f [(72, ci72)], 27⟩
noncomputable def ci32 : CInfo := ⟨(plains 2), TyTup [.sl .Note, .v .int], TyTup [.v .int], decTup [.sl .Note, .v .int], fun x => (fun (a0 : List G.Note) (a1 : Int) => szO a0 a1) x.1 x.2, flatTup [.v .int], [(false, 1)], []⟩
theorem e32 (x : TyTup [.sl .Note, .v .int]) : evalF C32 Try.f32 (Try.f32.body.getD .skip) an32 (plains 2) [] [(false, 1)] [.v .int] (encTup [.sl .Note, .v .int] x) = laws_szNoteS.raw x.1 x.2 := by kernel_rfl
theorem c32 : Contract Try.prog 32 ci32 :=
  evalF_ok (C := C32) (tnOk_of tn_mixed tn_ok _ _) (phi_cons c72 phi_nil) Try.func32 (by kernel_rfl : Try.f32.body = some (Try.f32.body.getD .skip)) (by kernel_rfl) (by kernel_rfl) an32 (plains 2) [] [(false, 1)] [.sl .Note, .v .int] [.v .int] (fun x => (fun (a0 : List G.Note) (a1 : Int) => szO a0 a1) x.1 x.2) rfl (by kernel_rfl)
    fun x r hb h => (e32 x).trans (laws_szNoteS.ok hb h)

def an24 : An := ⟨[], [], [], [], []⟩
noncomputable def C24 : Cx := ⟨Try.prog, tnT, fun f => lookC f [], 11⟩
noncomputable def ci24 : CInfo := ⟨(plains 1), TyTup [.v .Addr], TyTup [.v .Addr], decTup [.v .Addr], fun x => (fun (a0 : G.Addr) => cpy a0) x, flatTup [.v .Addr], [(true, 2)], []⟩
theorem e24 (x : TyTup [.v .Addr]) : evalF C24 Try.f24 (Try.f24.body.getD .skip) an24 (plains 1) [] [(true, 2)] [.v .Addr] (encTup [.v .Addr] x) = laws_toAddr.raw x := by kernel_rfl
theorem c24 : Contract Try.prog 24 ci24 :=
  evalF_ok (C := C24) (tnOk_of tn_mixed tn_ok _ _) phi_nil Try.func24 (by kernel_rfl : Try.f24.body = some (Try.f24.body.getD .skip)) (by kernel_rfl) (by kernel_rfl) an24 (plains 1) [] [(true, 2)] [.v .Addr] [.v .Addr] (fun x => (fun (a0 : G.Addr) => cpy a0) x) rfl (by kernel_rfl)
    fun x r hb h => (e24 x).trans (laws_toAddr.ok hb h)

def an74 : An := ⟨[], [], [], [], []⟩
noncomputable def C74 : Cx := ⟨Try.prog, tnT, fun f => lookC f [(24, ci24), (35, ci35)], 43⟩
noncomputable def ci74 : CInfo := ⟨(plains 1), TyTup [.v .Note], TyTup [.v .Note], decTup [.v .Note], fun x => (fun (a0 : G.Note) => cpy a0) x, flatTup [.v .Note], [(true, 12)], [3, 4, 7, 8]⟩
theorem e74 (x : TyTup [.v .Note]) : evalF C74 Try.f74 (Try.f74.body.getD .skip) an74 (plains 1) [3, 4, 7, 8] [(true, 12)] [.v .Note] (encTup [.v .Note] x) = laws_toNote.raw x := by kernel_rfl
theorem c74 : Contract Try.prog 74 ci74 :=
  evalF_ok (C := C74) (tnOk_of tn_mixed tn_ok _ _) (phi_cons c24 (phi_cons c35 phi_nil)) Try.func74 (by kernel_rfl : Try.f74.body = some (Try.f74.body.getD .skip)) (by kernel_rfl) (by kernel_rfl) an74 (plains 1) [3, 4, 7, 8] [(true, 12)] [.v .Note] [.v .Note] (fun x => (fun (a0 : G.Note) => cpy a0) x) rfl (by kernel_rfl)
    fun x r hb h => (e74 x).trans (laws_toNote.ok hb h)

def an34 : An := ⟨[], [(0, ⟨[.own 3 .Note], [(4, 4), (8, 21)], []⟩)], [(3, ⟨[.slot 4 (.v .int), .own 3 .Note], [(8, 21)], []⟩)], [], []⟩
noncomputable def C34 : Cx := ⟨Try.prog, tnT, fun f => lookC f [(74, ci74)], 23⟩
noncomputable def ci34 : CInfo := ⟨(plains 1), TyTup [.sl .Note], TyTup [.sl .Note], decTup [.sl .Note], fun x => (fun (a0 : List G.Note) => cpy a0) x, flatTup [.sl .Note], [(false, 1)], [0]⟩
theorem e34 (x : TyTup [.sl .Note]) : evalF C34 Try.f34 (Try.f34.body.getD .skip) an34 (plains 1) [0] [(false, 1)] [.sl .Note] (encTup [.sl .Note] x) = laws_toNoteS.raw x := by kernel_rfl
theorem c34 : Contract Try.prog 34 ci34 :=
  evalF_ok (C := C34) (tnOk_of tn_mixed tn_ok _ _) (phi_cons c74 phi_nil) Try.func34 (by kernel_rfl : Try.f34.body = some (Try.f34.body.getD .skip)) (by kernel_rfl) (by kernel_rfl) an34 (plains 1) [0] [(false, 1)] [.sl .Note] [.sl .Note] (fun x => (fun (a0 : List G.Note) => cpy a0) x) rfl (by kernel_rfl)
    fun x r hb h => (e34 x).trans (laws_toNoteS.ok hb h)

def an73 : An := ⟨[], [], [], [], []⟩
noncomputable def C73 : Cx := ⟨Try.prog, tnT, fun f => lookC f [], 10⟩
noncomputable def ci73 : CInfo := ⟨(plains 2), TyTup [.sl .byte, .sl .byte], TyTup [.v .bool], decTup [.sl .byte, .sl .byte], fun x => (fun (a0 : List UInt8) (a1 : List UInt8) => sameO a0 a1) x.1 x.2, flatTup [.v .bool], [(false, 1)], []⟩
theorem e73 (x : TyTup [.sl .byte, .sl .byte]) : evalF C73 Try.f73 (Try.f73.body.getD .skip) an73 (plains 2) [] [(false, 1)] [.v .bool] (encTup [.sl .byte, .sl .byte] x) = spec_l1Same.raw x.1 x.2 := by kernel_rfl
theorem c73 : Contract Try.prog 73 ci73 :=
  evalF_ok (C := C73) (tnOk_of tn_mixed tn_ok _ _) phi_nil Try.func73 (by kernel_rfl : Try.f73.body = some (Try.f73.body.getD .skip)) (by kernel_rfl) (by kernel_rfl) an73 (plains 2) [] [(false, 1)] [.sl .byte, .sl .byte] [.v .bool] (fun x => (fun (a0 : List UInt8) (a1 : List UInt8) => sameO a0 a1) x.1 x.2) rfl (by kernel_rfl)
    fun x r hb h => (e73 x).trans (spec_l1Same.ok hb h)

def an33 : An := ⟨[], [(0, ⟨[], [(4, 26)], []⟩)], [(2, ⟨[.slot 5 (.v .int)], [(4, 4), (6, 26)], []⟩)], [(4, ⟨[.slot 26 (.v .bool)], [(12, 25)], []⟩)], []⟩
noncomputable def C33 : Cx := ⟨Try.prog, tnT, fun f => lookC f [(73, ci73)], 27⟩
noncomputable def ci33 : CInfo := ⟨(plains 2), TyTup [.sl .Note, .sl .byte], TyTup [.v .bool], decTup [.sl .Note, .sl .byte], fun x => (fun (a0 : List G.Note) (a1 : List UInt8) => shownO a0 a1) x.1 x.2, flatTup [.v .bool], [(false, 1)], []⟩
theorem e33 (x : TyTup [.sl .Note, .sl .byte]) : evalF C33 Try.f33 (Try.f33.body.getD .skip) an33 (plains 2) [] [(false, 1)] [.v .bool] (encTup [.sl .Note, .sl .byte] x) = spec_Shown.raw x.1 x.2 := by kernel_rfl
theorem c33 : Contract Try.prog 33 ci33 :=
  evalF_ok (C := C33) (tnOk_of tn_mixed tn_ok _ _) (phi_cons c73 phi_nil) Try.func33 (by kernel_rfl : Try.f33.body = some (Try.f33.body.getD .skip)) (by kernel_rfl) (by kernel_rfl) an33 (plains 2) [] [(false, 1)] [.sl .Note, .sl .byte] [.v .bool] (fun x => (fun (a0 : List G.Note) (a1 : List UInt8) => shownO a0 a1) x.1 x.2) rfl (by kernel_rfl)
    fun x r hb h => (e33 x).trans (spec_Shown.ok hb h)

def an75 : An := ⟨[], [], [], [], []⟩
noncomputable def C75 : Cx := ⟨Try.prog, tnT, fun f => lookC f [], 10⟩
noncomputable def ci75 : CInfo := ⟨(plains 2), TyTup [.sl .byte, .sl .byte], TyTup [.v .bool], decTup [.sl .byte, .sl .byte], fun x => (fun (a0 : List UInt8) (a1 : List UInt8) => sameO a0 a1) x.1 x.2, flatTup [.v .bool], [(false, 1)], []⟩
theorem e75 (x : TyTup [.sl .byte, .sl .byte]) : evalF C75 Try.f75 (Try.f75.body.getD .skip) an75 (plains 2) [] [(false, 1)] [.v .bool] (encTup [.sl .byte, .sl .byte] x) = bytes_Equal.raw x.1 x.2 := by kernel_rfl
theorem c75 : Contract Try.prog 75 ci75 :=
  evalF_ok (C := C75) (tnOk_of tn_mixed tn_ok _ _) phi_nil Try.func75 (by kernel_rfl : Try.f75.body = some (Try.f75.body.getD .skip)) (by kernel_rfl) (by kernel_rfl) an75 (plains 2) [] [(false, 1)] [.sl .byte, .sl .byte] [.v .bool] (fun x => (fun (a0 : List UInt8) (a1 : List UInt8) => sameO a0 a1) x.1 x.2) rfl (by kernel_rfl)
    fun x r hb h => (e75 x).trans (bytes_Equal.ok hb h)

def an36 : An := ⟨[], [(0, ⟨[], [(4, 4), (6, 6), (9, 22)], []⟩)], [(2, ⟨[.slot 9 (.v .int)], [(4, 4), (6, 6), (10, 22)], []⟩)], [(4, ⟨[.slot 21 (.v .bool)], [(13, 20)], []⟩)], []⟩
noncomputable def C36 : Cx := ⟨Try.prog, tnT, fun f => lookC f [(75, ci75)], 23⟩
noncomputable def ci36 : CInfo := ⟨(plains 2), TyTup [.sl .Note, .sl .byte], TyTup [.v .bool], decTup [.sl .Note, .sl .byte], fun x => (fun (a0 : List G.Note) (a1 : List UInt8) => shownO a0 a1) x.1 x.2, flatTup [.v .bool], [(false, 1)], []⟩
theorem e36 (x : TyTup [.sl .Note, .sl .byte]) : evalF C36 Try.f36 (Try.f36.body.getD .skip) an36 (plains 2) [] [(false, 1)] [.v .bool] (encTup [.sl .Note, .sl .byte] x) = impl_Shown.raw x.1 x.2 := by kernel_rfl
theorem c36 : Contract Try.prog 36 ci36 :=
  evalF_ok (C := C36) (tnOk_of tn_mixed tn_ok _ _) (phi_cons c75 phi_nil) Try.func36 (by kernel_rfl : Try.f36.body = some (Try.f36.body.getD .skip)) (by kernel_rfl) (by kernel_rfl) an36 (plains 2) [] [(false, 1)] [.sl .Note, .sl .byte] [.v .bool] (fun x => (fun (a0 : List G.Note) (a1 : List UInt8) => shownO a0 a1) x.1 x.2) rfl (by kernel_rfl)
    fun x r hb h => (e36 x).trans (impl_Shown.ok hb h)

def an20 : An := ⟨[], [], [], [], []⟩
noncomputable def C20 : Cx := ⟨Try.prog, tnT, fun f => lookC f [], 15⟩
noncomputable def ci20 : CInfo := ⟨(plains 2), TyTup [.v .Addr, .v .Addr], TyTup [.v .bool], decTup [.v .Addr, .v .Addr], fun x => some ((fun (a0 : G.Addr) (a1 : G.Addr) => eqq a0 a1) x.1 x.2), flatTup [.v .bool], [(false, 1)], []⟩
theorem e20 (x : TyTup [.v .Addr, .v .Addr]) : evalF C20 Try.f20 (Try.f20.body.getD .skip) an20 (plains 2) [] [(false, 1)] [.v .bool] (encTup [.v .Addr, .v .Addr] x) = laws_eqAddr.raw x.1 x.2 := by kernel_rfl
theorem c20 : Contract Try.prog 20 ci20 :=
  evalF_ok (C := C20) (tnOk_of tn_mixed tn_ok _ _) phi_nil Try.func20 (by kernel_rfl : Try.f20.body = some (Try.f20.body.getD .skip)) (by kernel_rfl) (by kernel_rfl) an20 (plains 2) [] [(false, 1)] [.v .Addr, .v .Addr] [.v .bool] (fun x => some ((fun (a0 : G.Addr) (a1 : G.Addr) => eqq a0 a1) x.1 x.2)) rfl (by kernel_rfl)
    fun x r hb h => (e20 x).trans ((laws_eqAddr.ok hb).trans h)

def an76 : An := ⟨[], [], [], [], []⟩
noncomputable def C76 : Cx := ⟨Try.prog, tnT, fun f => lookC f [(20, ci20), (38, ci38)], 65⟩
noncomputable def ci76 : CInfo := ⟨(plains 2), TyTup [.v .Note, .v .Note], TyTup [.v .bool], decTup [.v .Note, .v .Note], fun x => some ((fun (a0 : G.Note) (a1 : G.Note) => eqq a0 a1) x.1 x.2), flatTup [.v .bool], [(false, 1)], []⟩
theorem e76 (x : TyTup [.v .Note, .v .Note]) : evalF C76 Try.f76 (Try.f76.body.getD .skip) an76 (plains 2) [] [(false, 1)] [.v .bool] (encTup [.v .Note, .v .Note] x) = laws_eqNote.raw x.1 x.2 := by kernel_rfl
theorem c76 : Contract Try.prog 76 ci76 :=
  evalF_ok (C := C76) (tnOk_of tn_mixed tn_ok _ _) (phi_cons c20 (phi_cons c38 phi_nil)) Try.func76 (by kernel_rfl : Try.f76.body = some (Try.f76.body.getD .skip)) (by kernel_rfl) (by kernel_rfl) an76 (plains 2) [] [(false, 1)] [.v .Note, .v .Note] [.v .bool] (fun x => some ((fun (a0 : G.Note) (a1 : G.Note) => eqq a0 a1) x.1 x.2)) rfl (by kernel_rfl)
    fun x r hb h => (e76 x).trans ((laws_eqNote.ok hb).trans h)

def an37 : An := ⟨[], [(0, ⟨[], [(4, 5), (11, 26)], []⟩)], [(4, ⟨[.slot 5 (.v .int)], [(4, 4), (11, 26)], []⟩)], [], []⟩
noncomputable def C37 : Cx := ⟨Try.prog, tnT, fun f => lookC f [(76, ci76)], 27⟩
noncomputable def ci37 : CInfo := ⟨(plains 2), TyTup [.sl .Note, .sl .Note], TyTup [.v .bool], decTup [.sl .Note, .sl .Note], fun x => some ((fun (a0 : List G.Note) (a1 : List G.Note) => eqq a0 a1) x.1 x.2), flatTup [.v .bool], [(false, 1)], []⟩
theorem e37 (x : TyTup [.sl .Note, .sl .Note]) : evalF C37 Try.f37 (Try.f37.body.getD .skip) an37 (plains 2) [] [(false, 1)] [.v .bool] (encTup [.sl .Note, .sl .Note] x) = laws_eqNoteS.raw x.1 x.2 := by kernel_rfl
theorem c37 : Contract Try.prog 37 ci37 :=
  evalF_ok (C := C37) (tnOk_of tn_mixed tn_ok _ _) (phi_cons c76 phi_nil) Try.func37 (by kernel_rfl : Try.f37.body = some (Try.f37.body.getD .skip)) (by kernel_rfl) (by kernel_rfl) an37 (plains 2) [] [(false, 1)] [.sl .Note, .sl .Note] [.v .bool] (fun x => some ((fun (a0 : List G.Note) (a1 : List G.Note) => eqq a0 a1) x.1 x.2)) rfl (by kernel_rfl)
    fun x r hb h => (e37 x).trans ((laws_eqNoteS.ok hb).trans h)

def an7 : An := ⟨[], [], [], [], []⟩
noncomputable def C7 : Cx := ⟨Try.prog, tnT, fun f => lookC f [(32, ci32), (33, ci33), (34, ci34), (35, ci35), (36, ci36), (37, ci37), (38, ci38)], 43⟩
noncomputable def ci7 : CInfo := ⟨(plains 2), TyTup [.sl .Note, .sl .byte], TyTup [.v .bool], decTup [.sl .Note, .sl .byte], fun x => some ((fun (a0 : List G.Note) (a1 : List UInt8) => always2 a0 a1) x.1 x.2), flatTup [.v .bool], [(false, 1)], []⟩
theorem e7 (x : TyTup [.sl .Note, .sl .byte]) : evalF C7 Try.f7 (Try.f7.body.getD .skip) an7 (plains 2) [] [(false, 1)] [.v .bool] (encTup [.sl .Note, .sl .byte] x) = laws_FnExactShown.raw x.1 x.2 := by kernel_rfl
theorem c7 : Contract Try.prog 7 ci7 :=
  evalF_ok (C := C7) (tnOk_of tn_mixed tn_ok _ _) (phi_cons c32 (phi_cons c33 (phi_cons c34 (phi_cons c35 (phi_cons c36 (phi_cons c37 (phi_cons c38 phi_nil))))))) Try.func7 (by kernel_rfl : Try.f7.body = some (Try.f7.body.getD .skip)) (by kernel_rfl) (by kernel_rfl) an7 (plains 2) [] [(false, 1)] [.sl .Note, .sl .byte] [.v .bool] (fun x => some ((fun (a0 : List G.Note) (a1 : List UInt8) => always2 a0 a1) x.1 x.2)) rfl (by kernel_rfl)
    fun x r hb h => (e7 x).trans ((laws_FnExactShown.ok hb).trans h)

def an39 : An := ⟨[], [(0, ⟨[], [(2, 42)], []⟩), (2, ⟨[], [(2, 2), (4, 4), (11, 42)], []⟩)], [(2, ⟨[.slot 3 (.v .int)], [(2, 2), (4, 42)], []⟩), (5, ⟨[.slot 4 (.v .int)], [(2, 2), (11, 42)], []⟩)], [(5, ⟨[.slot 21 (.v .bool)], [(11, 20)], []⟩), (7, ⟨[.slot 42 (.v .bool)], [(24, 41)], []⟩)], []⟩
noncomputable def C39 : Cx := ⟨Try.prog, tnT, fun f => lookC f [(73, ci73)], 43⟩
noncomputable def ci39 : CInfo := ⟨(plains 1), TyTup [.sl .Note], TyTup [.v .bool], decTup [.sl .Note], fun x => (fun (a0 : List G.Note) => rolledO a0) x, flatTup [.v .bool], [(false, 1)], []⟩
theorem e39 (x : TyTup [.sl .Note]) : evalF C39 Try.f39 (Try.f39.body.getD .skip) an39 (plains 1) [] [(false, 1)] [.v .bool] (encTup [.sl .Note] x) = spec_Rolled.raw x := by kernel_rfl
theorem c39 : Contract Try.prog 39 ci39 :=
  evalF_ok (C := C39) (tnOk_of tn_mixed tn_ok _ _) (phi_cons c73 phi_nil) Try.func39 (by kernel_rfl : Try.f39.body = some (Try.f39.body.getD .skip)) (by kernel_rfl) (by kernel_rfl) an39 (plains 1) [] [(false, 1)] [.sl .Note] [.v .bool] (fun x => (fun (a0 : List G.Note) => rolledO a0) x) rfl (by kernel_rfl)
    fun x r hb h => (e39 x).trans (spec_Rolled.ok hb h)

def an77 : An := ⟨[], [(0, ⟨[], [(4, 4), (6, 6), (11, 36)], []⟩)], [(2, ⟨[.slot 11 (.v .int)], [(4, 4), (6, 6), (12, 36)], []⟩)], [(4, ⟨[.slot 35 (.v .bool)], [(15, 34)], []⟩)], []⟩
noncomputable def C77 : Cx := ⟨Try.prog, tnT, fun f => lookC f [(75, ci75)], 37⟩
noncomputable def ci77 : CInfo := ⟨(plains 2), TyTup [.sl .Note, .v .int], TyTup [.v .bool], decTup [.sl .Note, .v .int], fun x => (fun (a0 : List G.Note) (a1 : Int) => rolledAtO a0 a1) x.1 x.2, flatTup [.v .bool], [(false, 1)], []⟩
theorem e77 (x : TyTup [.sl .Note, .v .int]) : evalF C77 Try.f77 (Try.f77.body.getD .skip) an77 (plains 2) [] [(false, 1)] [.v .bool] (encTup [.sl .Note, .v .int] x) = impl_rolledAt.raw x.1 x.2 := by kernel_rfl
theorem c77 : Contract Try.prog 77 ci77 :=
  evalF_ok (C := C77) (tnOk_of tn_mixed tn_ok _ _) (phi_cons c75 phi_nil) Try.func77 (by kernel_rfl : Try.f77.body = some (Try.f77.body.getD .skip)) (by kernel_rfl) (by kernel_rfl) an77 (plains 2) [] [(false, 1)] [.sl .Note, .v .int] [.v .bool] (fun x => (fun (a0 : List G.Note) (a1 : Int) => rolledAtO a0 a1) x.1 x.2) rfl (by kernel_rfl)
    fun x r hb h => (e77 x).trans (impl_rolledAt.ok hb h)

def an40 : An := ⟨[], [(0, ⟨[], [(2, 3), (6, 12)], []⟩)], [(2, ⟨[.slot 6 (.v .int)], [(2, 3), (7, 12)], []⟩)], [], []⟩
noncomputable def C40 : Cx := ⟨Try.prog, tnT, fun f => lookC f [(77, ci77)], 13⟩
noncomputable def ci40 : CInfo := ⟨(plains 1), TyTup [.sl .Note], TyTup [.v .bool], decTup [.sl .Note], fun x => (fun (a0 : List G.Note) => rolledO a0) x, flatTup [.v .bool], [(false, 1)], []⟩
theorem e40 (x : TyTup [.sl .Note]) : evalF C40 Try.f40 (Try.f40.body.getD .skip) an40 (plains 1) [] [(false, 1)] [.v .bool] (encTup [.sl .Note] x) = impl_Rolled.raw x := by kernel_rfl
theorem c40 : Contract Try.prog 40 ci40 :=
  evalF_ok (C := C40) (tnOk_of tn_mixed tn_ok _ _) (phi_cons c77 phi_nil) Try.func40 (by kernel_rfl : Try.f40.body = some (Try.f40.body.getD .skip)) (by kernel_rfl) (by kernel_rfl) an40 (plains 1) [] [(false, 1)] [.sl .Note] [.v .bool] (fun x => (fun (a0 : List G.Note) => rolledO a0) x) rfl (by kernel_rfl)
    fun x r hb h => (e40 x).trans (impl_Rolled.ok hb h)

def an8 : An := ⟨[], [], [], [], []⟩
noncomputable def C8 : Cx := ⟨Try.prog, tnT, fun f => lookC f [(32, ci32), (34, ci34), (37, ci37), (39, ci39), (40, ci40)], 27⟩
noncomputable def ci8 : CInfo := ⟨(plains 1), TyTup [.sl .Note], TyTup [.v .bool], decTup [.sl .Note], fun x => some ((fun (a0 : List G.Note) => always a0) x), flatTup [.v .bool], [(false, 1)], []⟩
theorem e8 (x : TyTup [.sl .Note]) : evalF C8 Try.f8 (Try.f8.body.getD .skip) an8 (plains 1) [] [(false, 1)] [.v .bool] (encTup [.sl .Note] x) = laws_FnExactRolled.raw x := by kernel_rfl
theorem c8 : Contract Try.prog 8 ci8 :=
  evalF_ok (C := C8) (tnOk_of tn_mixed tn_ok _ _) (phi_cons c32 (phi_cons c34 (phi_cons c37 (phi_cons c39 (phi_cons c40 phi_nil))))) Try.func8 (by kernel_rfl : Try.f8.body = some (Try.f8.body.getD .skip)) (by kernel_rfl) (by kernel_rfl) an8 (plains 1) [] [(false, 1)] [.sl .Note] [.v .bool] (fun x => some ((fun (a0 : List G.Note) => always a0) x)) rfl (by kernel_rfl)
    fun x r hb h => (e8 x).trans ((laws_FnExactRolled.ok hb).trans h)

def an79 : An := ⟨[], [], [], [(1, ⟨[.slot 2 (.v .bool)], [(3, 10)], []⟩)], []⟩
noncomputable def C79 : Cx := ⟨Try.prog, tnT, fun f => lookC f [], 11⟩
noncomputable def ci79 : CInfo := ⟨(plains 1), TyTup [.v .Note], TyTup [.v .bool], decTup [.v .Note], fun x => some ((fun (a0 : G.Note) => isUp a0) x), flatTup [.v .bool], [(false, 1)], []⟩
theorem e79 (x : TyTup [.v .Note]) : evalF C79 Try.f79 (Try.f79.body.getD .skip) an79 (plains 1) [] [(false, 1)] [.v .bool] (encTup [.v .Note] x) = spec_l27Up.raw x := by kernel_rfl
theorem c79 : Contract Try.prog 79 ci79 :=
  evalF_ok (C := C79) (tnOk_of tn_mixed tn_ok _ _) phi_nil Try.func79 (by kernel_rfl : Try.f79.body = some (Try.f79.body.getD .skip)) (by kernel_rfl) (by kernel_rfl) an79 (plains 1) [] [(false, 1)] [.v .Note] [.v .bool] (fun x => some ((fun (a0 : G.Note) => isUp a0) x)) rfl (by kernel_rfl)
    fun x r hb h => (e79 x).trans ((spec_l27Up.ok hb).trans h)

def an78 : An := ⟨[], [], [], [(1, ⟨[.slot 2 (.v .bool)], [(3, 9)], []⟩)], []⟩
noncomputable def C78 : Cx := ⟨Try.prog, tnT, fun f => lookC f [(79, ci79)], 10⟩
noncomputable def ci78 : CInfo := ⟨(plains 1), TyTup [.v .Note], TyTup [.v .bool], decTup [.v .Note], fun x => some ((fun (a0 : G.Note) => isKey a0) x), flatTup [.v .bool], [(false, 1)], []⟩
theorem e78 (x : TyTup [.v .Note]) : evalF C78 Try.f78 (Try.f78.body.getD .skip) an78 (plains 1) [] [(false, 1)] [.v .bool] (encTup [.v .Note] x) = spec_l27Key.raw x := by kernel_rfl
theorem c78 : Contract Try.prog 78 ci78 :=
  evalF_ok (C := C78) (tnOk_of tn_mixed tn_ok _ _) (phi_cons c79 phi_nil) Try.func78 (by kernel_rfl : Try.f78.body = some (Try.f78.body.getD .skip)) (by kernel_rfl) (by kernel_rfl) an78 (plains 1) [] [(false, 1)] [.v .Note] [.v .bool] (fun x => some ((fun (a0 : G.Note) => isKey a0) x)) rfl (by kernel_rfl)
    fun x r hb h => (e78 x).trans ((spec_l27Key.ok hb).trans h)

def an41 : An := ⟨[], [(0, ⟨[], [(2, 106)], []⟩), (2, ⟨[], [(2, 2), (4, 4), (11, 106)], []⟩), (3, ⟨[], [(2, 2), (16, 106)], []⟩)], [(2, ⟨[.slot 3 (.v .int)], [(2, 2), (4, 106)], []⟩), (5, ⟨[.slot 4 (.v .int)], [(2, 2), (11, 106)], []⟩)], [(8, ⟨[.slot 66 (.v .bool)], [(28, 65)], []⟩), (10, ⟨[.slot 92 (.v .bool)], [(67, 91)], []⟩), (12, ⟨[.slot 106 (.v .bool)], [(93, 105)], []⟩)], []⟩
noncomputable def C41 : Cx := ⟨Try.prog, tnT, fun f => lookC f [(73, ci73), (78, ci78), (79, ci79)], 107⟩
noncomputable def ci41 : CInfo := ⟨(plains 1), TyTup [.sl .Note], TyTup [.v .bool], decTup [.sl .Note], fun x => (fun (a0 : List G.Note) => twiceO a0) x, flatTup [.v .bool], [(false, 1)], []⟩
theorem e41 (x : TyTup [.sl .Note]) : evalF C41 Try.f41 (Try.f41.body.getD .skip) an41 (plains 1) [] [(false, 1)] [.v .bool] (encTup [.sl .Note] x) = spec_KeyTwice.raw x := by kernel_rfl
theorem c41 : Contract Try.prog 41 ci41 :=
  evalF_ok (C := C41) (tnOk_of tn_mixed tn_ok _ _) (phi_cons c73 (phi_cons c78 (phi_cons c79 phi_nil))) Try.func41 (by kernel_rfl : Try.f41.body = some (Try.f41.body.getD .skip)) (by kernel_rfl) (by kernel_rfl) an41 (plains 1) [] [(false, 1)] [.sl .Note] [.v .bool] (fun x => (fun (a0 : List G.Note) => twiceO a0) x) rfl (by kernel_rfl)
    fun x r hb h => (e41 x).trans (spec_KeyTwice.ok hb h)

def an102 : An := ⟨[], [], [], [(1, ⟨[.slot 5 (.v .bool), .slot 6 (.v .bool)], [(7, 22)], []⟩), (2, ⟨[.slot 34 (.v .bool)], [(23, 33)], []⟩), (4, ⟨[.slot 48 (.v .bool)], [(35, 47)], []⟩), (5, ⟨[.slot 4 (.v .bool)], [(49, 61)], []⟩), (6, ⟨[.slot 4 (.v .bool)], [(62, 69)], []⟩)], []⟩
noncomputable def C102 : Cx := ⟨Try.prog, tnT, fun f => lookC f [(75, ci75)], 70⟩
noncomputable def ci102 : CInfo := ⟨(plains 2), TyTup [.v .Note, .v .Note], TyTup [.v .bool], decTup [.v .Note, .v .Note], fun x => (fun (a0 : G.Note) (a1 : G.Note) => differO a0 a1) x.1 x.2, flatTup [.v .bool], [(false, 1)], []⟩
theorem e102 (x : TyTup [.v .Note, .v .Note]) : evalF C102 Try.f102 (Try.f102.body.getD .skip) an102 (plains 2) [] [(false, 1)] [.v .bool] (encTup [.v .Note, .v .Note] x) = impl_keysDiffer.raw x.1 x.2 := by kernel_rfl
theorem c102 : Contract Try.prog 102 ci102 :=
  evalF_ok (C := C102) (tnOk_of tn_mixed tn_ok _ _) (phi_cons c75 phi_nil) Try.func102 (by kernel_rfl : Try.f102.body = some (Try.f102.body.getD .skip)) (by kernel_rfl) (by kernel_rfl) an102 (plains 2) [] [(false, 1)] [.v .Note, .v .Note] [.v .bool] (fun x => (fun (a0 : G.Note) (a1 : G.Note) => differO a0 a1) x.1 x.2) rfl (by kernel_rfl)
    fun x r hb h => (e102 x).trans (impl_keysDiffer.ok hb h)

def an80 : An := ⟨[], [(0, ⟨[], [(4, 4), (6, 6), (11, 31)], []⟩)], [(2, ⟨[.slot 11 (.v .int)], [(4, 4), (6, 6), (12, 31)], []⟩)], [(4, ⟨[.slot 30 (.v .bool)], [(15, 29)], []⟩)], []⟩
noncomputable def C80 : Cx := ⟨Try.prog, tnT, fun f => lookC f [(75, ci75), (102, ci102)], 32⟩
noncomputable def ci80 : CInfo := ⟨(plains 2), TyTup [.sl .Note, .v .int], TyTup [.v .bool], decTup [.sl .Note, .v .int], fun x => (fun (a0 : List G.Note) (a1 : Int) => twiceAtO a0 a1) x.1 x.2, flatTup [.v .bool], [(false, 1)], []⟩
theorem e80 (x : TyTup [.sl .Note, .v .int]) : evalF C80 Try.f80 (Try.f80.body.getD .skip) an80 (plains 2) [] [(false, 1)] [.v .bool] (encTup [.sl .Note, .v .int] x) = impl_keyTwiceAt.raw x.1 x.2 := by kernel_rfl
theorem c80 : Contract Try.prog 80 ci80 :=
  evalF_ok (C := C80) (tnOk_of tn_mixed tn_ok _ _) (phi_cons c75 (phi_cons c102 phi_nil)) Try.func80 (by kernel_rfl : Try.f80.body = some (Try.f80.body.getD .skip)) (by kernel_rfl) (by kernel_rfl) an80 (plains 2) [] [(false, 1)] [.sl .Note, .v .int] [.v .bool] (fun x => (fun (a0 : List G.Note) (a1 : Int) => twiceAtO a0 a1) x.1 x.2) rfl (by kernel_rfl)
    fun x r hb h => (e80 x).trans (impl_keyTwiceAt.ok hb h)

def an42 : An := ⟨[], [(0, ⟨[], [(2, 3), (6, 12)], []⟩)], [(2, ⟨[.slot 6 (.v .int)], [(2, 3), (7, 12)], []⟩)], [], []⟩
noncomputable def C42 : Cx := ⟨Try.prog, tnT, fun f => lookC f [(80, ci80)], 13⟩
noncomputable def ci42 : CInfo := ⟨(plains 1), TyTup [.sl .Note], TyTup [.v .bool], decTup [.sl .Note], fun x => (fun (a0 : List G.Note) => twiceO a0) x, flatTup [.v .bool], [(false, 1)], []⟩
theorem e42 (x : TyTup [.sl .Note]) : evalF C42 Try.f42 (Try.f42.body.getD .skip) an42 (plains 1) [] [(false, 1)] [.v .bool] (encTup [.sl .Note] x) = impl_KeyTwice.raw x := by kernel_rfl
theorem c42 : Contract Try.prog 42 ci42 :=
  evalF_ok (C := C42) (tnOk_of tn_mixed tn_ok _ _) (phi_cons c80 phi_nil) Try.func42 (by kernel_rfl : Try.f42.body = some (Try.f42.body.getD .skip)) (by kernel_rfl) (by kernel_rfl) an42 (plains 1) [] [(false, 1)] [.sl .Note] [.v .bool] (fun x => (fun (a0 : List G.Note) => twiceO a0) x) rfl (by kernel_rfl)
    fun x r hb h => (e42 x).trans (impl_KeyTwice.ok hb h)

def an9 : An := ⟨[], [], [], [], []⟩
noncomputable def C9 : Cx := ⟨Try.prog, tnT, fun f => lookC f [(32, ci32), (34, ci34), (37, ci37), (41, ci41), (42, ci42)], 27⟩
noncomputable def ci9 : CInfo := ⟨(plains 1), TyTup [.sl .Note], TyTup [.v .bool], decTup [.sl .Note], fun x => some ((fun (a0 : List G.Note) => always a0) x), flatTup [.v .bool], [(false, 1)], []⟩
theorem e9 (x : TyTup [.sl .Note]) : evalF C9 Try.f9 (Try.f9.body.getD .skip) an9 (plains 1) [] [(false, 1)] [.v .bool] (encTup [.sl .Note] x) = laws_FnExactKeyTwice.raw x := by kernel_rfl
theorem c9 : Contract Try.prog 9 ci9 :=
  evalF_ok (C := C9) (tnOk_of tn_mixed tn_ok _ _) (phi_cons c32 (phi_cons c34 (phi_cons c37 (phi_cons c41 (phi_cons c42 phi_nil))))) Try.func9 (by kernel_rfl : Try.f9.body = some (Try.f9.body.getD .skip)) (by kernel_rfl) (by kernel_rfl) an9 (plains 1) [] [(false, 1)] [.sl .Note] [.v .bool] (fun x => some ((fun (a0 : List G.Note) => always a0) x)) rfl (by kernel_rfl)
    fun x r hb h => (e9 x).trans ((laws_FnExactKeyTwice.ok hb).trans h)

def an43 : An := ⟨[], [(0, ⟨[], [(2, 71)], []⟩), (1, ⟨[], [(2, 2), (4, 5), (12, 71)], []⟩), (2, ⟨[.slot 4 (.v .bool)], [(5, 5), (29, 69)], []⟩)], [(2, ⟨[.slot 3 (.v .int)], [(2, 2), (4, 71)], []⟩), (7, ⟨[.slot 4 (.v .bool), .slot 5 (.v .int)], [(29, 69)], []⟩)], [(4, ⟨[.slot 28 (.v .bool)], [(12, 27)], []⟩), (7, ⟨[.slot 35 (.v .bool)], [(29, 34)], []⟩), (9, ⟨[.slot 4 (.v .bool)], [(38, 69)], []⟩)], []⟩
noncomputable def C43 : Cx := ⟨Try.prog, tnT, fun f => lookC f [(33, ci33), (73, ci73)], 72⟩
noncomputable def ci43 : CInfo := ⟨(plains 1), TyTup [.sl .Note], TyTup [.v .bool], decTup [.sl .Note], fun x => (fun (a0 : List G.Note) => forgedO a0) x, flatTup [.v .bool], [(false, 1)], []⟩
theorem e43 (x : TyTup [.sl .Note]) : evalF C43 Try.f43 (Try.f43.body.getD .skip) an43 (plains 1) [] [(false, 1)] [.v .bool] (encTup [.sl .Note] x) = spec_Forged.raw x := by kernel_rfl
theorem c43 : Contract Try.prog 43 ci43 :=
  evalF_ok (C := C43) (tnOk_of tn_mixed tn_ok _ _) (phi_cons c33 (phi_cons c73 phi_nil)) Try.func43 (by kernel_rfl : Try.f43.body = some (Try.f43.body.getD .skip)) (by kernel_rfl) (by kernel_rfl) an43 (plains 1) [] [(false, 1)] [.sl .Note] [.v .bool] (fun x => (fun (a0 : List G.Note) => forgedO a0) x) rfl (by kernel_rfl)
    fun x r hb h => (e43 x).trans (spec_Forged.ok hb h)

def an81 : An := ⟨[], [(0, ⟨[], [(4, 4), (6, 6), (28, 55)], []⟩)], [(4, ⟨[.slot 28 (.v .int)], [(4, 4), (6, 6), (29, 55)], []⟩)], [(1, ⟨[.slot 23 (.v .bool)], [(7, 22)], []⟩), (6, ⟨[.slot 54 (.v .bool)], [(32, 53)], []⟩)], []⟩
noncomputable def C81 : Cx := ⟨Try.prog, tnT, fun f => lookC f [(36, ci36), (75, ci75)], 56⟩
noncomputable def ci81 : CInfo := ⟨(plains 2), TyTup [.sl .Note, .v .int], TyTup [.v .bool], decTup [.sl .Note, .v .int], fun x => (fun (a0 : List G.Note) (a1 : Int) => forgedAtO a0 a1) x.1 x.2, flatTup [.v .bool], [(false, 1)], []⟩
theorem e81 (x : TyTup [.sl .Note, .v .int]) : evalF C81 Try.f81 (Try.f81.body.getD .skip) an81 (plains 2) [] [(false, 1)] [.v .bool] (encTup [.sl .Note, .v .int] x) = impl_forgedAt.raw x.1 x.2 := by kernel_rfl
theorem c81 : Contract Try.prog 81 ci81 :=
  evalF_ok (C := C81) (tnOk_of tn_mixed tn_ok _ _) (phi_cons c36 (phi_cons c75 phi_nil)) Try.func81 (by kernel_rfl : Try.f81.body = some (Try.f81.body.getD .skip)) (by kernel_rfl) (by kernel_rfl) an81 (plains 2) [] [(false, 1)] [.sl .Note, .v .int] [.v .bool] (fun x => (fun (a0 : List G.Note) (a1 : Int) => forgedAtO a0 a1) x.1 x.2) rfl (by kernel_rfl)
    fun x r hb h => (e81 x).trans (impl_forgedAt.ok hb h)

def an44 : An := ⟨[], [(0, ⟨[], [(2, 3), (6, 12)], []⟩)], [(2, ⟨[.slot 6 (.v .int)], [(2, 3), (7, 12)], []⟩)], [], []⟩
noncomputable def C44 : Cx := ⟨Try.prog, tnT, fun f => lookC f [(81, ci81)], 13⟩
noncomputable def ci44 : CInfo := ⟨(plains 1), TyTup [.sl .Note], TyTup [.v .bool], decTup [.sl .Note], fun x => (fun (a0 : List G.Note) => forgedO a0) x, flatTup [.v .bool], [(false, 1)], []⟩
theorem e44 (x : TyTup [.sl .Note]) : evalF C44 Try.f44 (Try.f44.body.getD .skip) an44 (plains 1) [] [(false, 1)] [.v .bool] (encTup [.sl .Note] x) = impl_Forged.raw x := by kernel_rfl
theorem c44 : Contract Try.prog 44 ci44 :=
  evalF_ok (C := C44) (tnOk_of tn_mixed tn_ok _ _) (phi_cons c81 phi_nil) Try.func44 (by kernel_rfl : Try.f44.body = some (Try.f44.body.getD .skip)) (by kernel_rfl) (by kernel_rfl) an44 (plains 1) [] [(false, 1)] [.sl .Note] [.v .bool] (fun x => (fun (a0 : List G.Note) => forgedO a0) x) rfl (by kernel_rfl)
    fun x r hb h => (e44 x).trans (impl_Forged.ok hb h)

def an10 : An := ⟨[], [], [], [], []⟩
noncomputable def C10 : Cx := ⟨Try.prog, tnT, fun f => lookC f [(32, ci32), (34, ci34), (37, ci37), (43, ci43), (44, ci44)], 27⟩
noncomputable def ci10 : CInfo := ⟨(plains 1), TyTup [.sl .Note], TyTup [.v .bool], decTup [.sl .Note], fun x => some ((fun (a0 : List G.Note) => always a0) x), flatTup [.v .bool], [(false, 1)], []⟩
theorem e10 (x : TyTup [.sl .Note]) : evalF C10 Try.f10 (Try.f10.body.getD .skip) an10 (plains 1) [] [(false, 1)] [.v .bool] (encTup [.sl .Note] x) = laws_FnExactForged.raw x := by kernel_rfl
theorem c10 : Contract Try.prog 10 ci10 :=
  evalF_ok (C := C10) (tnOk_of tn_mixed tn_ok _ _) (phi_cons c32 (phi_cons c34 (phi_cons c37 (phi_cons c43 (phi_cons c44 phi_nil))))) Try.func10 (by kernel_rfl : Try.f10.body = some (Try.f10.body.getD .skip)) (by kernel_rfl) (by kernel_rfl) an10 (plains 1) [] [(false, 1)] [.sl .Note] [.v .bool] (fun x => some ((fun (a0 : List G.Note) => always a0) x)) rfl (by kernel_rfl)
    fun x r hb h => (e10 x).trans ((laws_FnExactForged.ok hb).trans h)

def an47 : An := ⟨[], [], [], [(1, ⟨[.slot 2 (.v .bool)], [(3, 12)], []⟩)], []⟩
noncomputable def C47 : Cx := ⟨Try.prog, tnT, fun f => lookC f [(39, ci39), (41, ci41), (43, ci43)], 13⟩
noncomputable def ci47 : CInfo := ⟨(plains 1), TyTup [.sl .Note], TyTup [.v .bool], decTup [.sl .Note], fun x => (fun (a0 : List G.Note) => luckyO a0) x, flatTup [.v .bool], [(false, 1)], []⟩
theorem e47 (x : TyTup [.sl .Note]) : evalF C47 Try.f47 (Try.f47.body.getD .skip) an47 (plains 1) [] [(false, 1)] [.v .bool] (encTup [.sl .Note] x) = spec_Lucky.raw x := by kernel_rfl
theorem c47 : Contract Try.prog 47 ci47 :=
  evalF_ok (C := C47) (tnOk_of tn_mixed tn_ok _ _) (phi_cons c39 (phi_cons c41 (phi_cons c43 phi_nil))) Try.func47 (by kernel_rfl : Try.f47.body = some (Try.f47.body.getD .skip)) (by kernel_rfl) (by kernel_rfl) an47 (plains 1) [] [(false, 1)] [.sl .Note] [.v .bool] (fun x => (fun (a0 : List G.Note) => luckyO a0) x) rfl (by kernel_rfl)
    fun x r hb h => (e47 x).trans (spec_Lucky.ok hb h)

def an45 : An := ⟨[], [(0, ⟨[], [(2, 3), (7, 17)], []⟩)], [(4, ⟨[.slot 3 (.v .int)], [(2, 2), (7, 17)], []⟩)], [], []⟩
noncomputable def C45 : Cx := ⟨Try.prog, tnT, fun f => lookC f [(47, ci47)], 20⟩
noncomputable def ci45 : CInfo := ⟨(plains 1), TyTup [.sl .Note], TyTup [.v .int], decTup [.sl .Note], fun x => (fun (a0 : List G.Note) => luckyAtO a0) x, flatTup [.v .int], [(false, 1)], []⟩
theorem e45 (x : TyTup [.sl .Note]) : evalF C45 Try.f45 (Try.f45.body.getD .skip) an45 (plains 1) [] [(false, 1)] [.v .int] (encTup [.sl .Note] x) = spec_LuckyAt.raw x := by kernel_rfl
theorem c45 : Contract Try.prog 45 ci45 :=
  evalF_ok (C := C45) (tnOk_of tn_mixed tn_ok _ _) (phi_cons c47 phi_nil) Try.func45 (by kernel_rfl : Try.f45.body = some (Try.f45.body.getD .skip)) (by kernel_rfl) (by kernel_rfl) an45 (plains 1) [] [(false, 1)] [.sl .Note] [.v .int] (fun x => (fun (a0 : List G.Note) => luckyAtO a0) x) rfl (by kernel_rfl)
    fun x r hb h => (e45 x).trans (spec_LuckyAt.ok hb h)

def an46 : An := ⟨[], [(0, ⟨[], [(2, 3), (6, 24)], []⟩)], [(2, ⟨[.slot 6 (.v .int)], [(2, 3), (7, 24)], []⟩)], [(4, ⟨[.slot 21 (.v .bool)], [(9, 20)], []⟩)], []⟩
noncomputable def C46 : Cx := ⟨Try.prog, tnT, fun f => lookC f [(77, ci77), (80, ci80), (81, ci81)], 25⟩
noncomputable def ci46 : CInfo := ⟨(plains 1), TyTup [.sl .Note], TyTup [.v .int], decTup [.sl .Note], fun x => (fun (a0 : List G.Note) => luckyAtO a0) x, flatTup [.v .int], [(false, 1)], []⟩
theorem e46 (x : TyTup [.sl .Note]) : evalF C46 Try.f46 (Try.f46.body.getD .skip) an46 (plains 1) [] [(false, 1)] [.v .int] (encTup [.sl .Note] x) = impl_LuckyAt.raw x := by kernel_rfl
theorem c46 : Contract Try.prog 46 ci46 :=
  evalF_ok (C := C46) (tnOk_of tn_mixed tn_ok _ _) (phi_cons c77 (phi_cons c80 (phi_cons c81 phi_nil))) Try.func46 (by kernel_rfl : Try.f46.body = some (Try.f46.body.getD .skip)) (by kernel_rfl) (by kernel_rfl) an46 (plains 1) [] [(false, 1)] [.sl .Note] [.v .int] (fun x => (fun (a0 : List G.Note) => luckyAtO a0) x) rfl (by kernel_rfl)
    fun x r hb h => (e46 x).trans (impl_LuckyAt.ok hb h)

def an11 : An := ⟨[], [], [], [], []⟩
noncomputable def C11 : Cx := ⟨Try.prog, tnT, fun f => lookC f [(32, ci32), (34, ci34), (37, ci37), (45, ci45), (46, ci46)], 27⟩
noncomputable def ci11 : CInfo := ⟨(plains 1), TyTup [.sl .Note], TyTup [.v .bool], decTup [.sl .Note], fun x => some ((fun (a0 : List G.Note) => always a0) x), flatTup [.v .bool], [(false, 1)], []⟩
theorem e11 (x : TyTup [.sl .Note]) : evalF C11 Try.f11 (Try.f11.body.getD .skip) an11 (plains 1) [] [(false, 1)] [.v .bool] (encTup [.sl .Note] x) = laws_FnExactLuckyAt.raw x := by kernel_rfl
theorem c11 : Contract Try.prog 11 ci11 :=
  evalF_ok (C := C11) (tnOk_of tn_mixed tn_ok _ _) (phi_cons c32 (phi_cons c34 (phi_cons c37 (phi_cons c45 (phi_cons c46 phi_nil))))) Try.func11 (by kernel_rfl : Try.f11.body = some (Try.f11.body.getD .skip)) (by kernel_rfl) (by kernel_rfl) an11 (plains 1) [] [(false, 1)] [.sl .Note] [.v .bool] (fun x => some ((fun (a0 : List G.Note) => always a0) x)) rfl (by kernel_rfl)
    fun x r hb h => (e11 x).trans ((laws_FnExactLuckyAt.ok hb).trans h)

def an48 : An := ⟨[], [], [], [(1, ⟨[.slot 2 (.v .bool)], [(3, 12)], []⟩)], []⟩
noncomputable def C48 : Cx := ⟨Try.prog, tnT, fun f => lookC f [(40, ci40), (42, ci42), (44, ci44)], 13⟩
noncomputable def ci48 : CInfo := ⟨(plains 1), TyTup [.sl .Note], TyTup [.v .bool], decTup [.sl .Note], fun x => (fun (a0 : List G.Note) => luckyO a0) x, flatTup [.v .bool], [(false, 1)], []⟩
theorem e48 (x : TyTup [.sl .Note]) : evalF C48 Try.f48 (Try.f48.body.getD .skip) an48 (plains 1) [] [(false, 1)] [.v .bool] (encTup [.sl .Note] x) = impl_Lucky.raw x := by kernel_rfl
theorem c48 : Contract Try.prog 48 ci48 :=
  evalF_ok (C := C48) (tnOk_of tn_mixed tn_ok _ _) (phi_cons c40 (phi_cons c42 (phi_cons c44 phi_nil))) Try.func48 (by kernel_rfl : Try.f48.body = some (Try.f48.body.getD .skip)) (by kernel_rfl) (by kernel_rfl) an48 (plains 1) [] [(false, 1)] [.sl .Note] [.v .bool] (fun x => (fun (a0 : List G.Note) => luckyO a0) x) rfl (by kernel_rfl)
    fun x r hb h => (e48 x).trans (impl_Lucky.ok hb h)

def an12 : An := ⟨[], [], [], [], []⟩
noncomputable def C12 : Cx := ⟨Try.prog, tnT, fun f => lookC f [(32, ci32), (34, ci34), (37, ci37), (47, ci47), (48, ci48)], 27⟩
noncomputable def ci12 : CInfo := ⟨(plains 1), TyTup [.sl .Note], TyTup [.v .bool], decTup [.sl .Note], fun x => some ((fun (a0 : List G.Note) => always a0) x), flatTup [.v .bool], [(false, 1)], []⟩
theorem e12 (x : TyTup [.sl .Note]) : evalF C12 Try.f12 (Try.f12.body.getD .skip) an12 (plains 1) [] [(false, 1)] [.v .bool] (encTup [.sl .Note] x) = laws_FnExactLucky.raw x := by kernel_rfl
theorem c12 : Contract Try.prog 12 ci12 :=
  evalF_ok (C := C12) (tnOk_of tn_mixed tn_ok _ _) (phi_cons c32 (phi_cons c34 (phi_cons c37 (phi_cons c47 (phi_cons c48 phi_nil))))) Try.func12 (by kernel_rfl : Try.f12.body = some (Try.f12.body.getD .skip)) (by kernel_rfl) (by kernel_rfl) an12 (plains 1) [] [(false, 1)] [.sl .Note] [.v .bool] (fun x => some ((fun (a0 : List G.Note) => always a0) x)) rfl (by kernel_rfl)
    fun x r hb h => (e12 x).trans ((laws_FnExactLucky.ok hb).trans h)

end Go.D

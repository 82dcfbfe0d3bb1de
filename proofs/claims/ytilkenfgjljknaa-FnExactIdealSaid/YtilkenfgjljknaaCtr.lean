/-
  The functions of the program: each computes what is said of it.
-/
import Derived.Test.YtilkenfgjljknaaN4
import Derived.Test.YtilkenfgjljknaaProg
import Derived.KernelRfl
namespace Go.D
open Go.Proofs

def tnT : TypeId → Option TN := fun t => look t [(3, .int), (5, .byte), (9, .str), (87, .Credit), (90, .Credit), (98, .Note), (100, .Note), (113, .Op), (114, .Op)]
theorem tn_mixed : Try.prog.follows .mixedOrders = true := by kernel_rfl
theorem tn_ok : tnAll Try.prog [(3, .int), (5, .byte), (9, .str), (87, .Credit), (90, .Credit), (98, .Note), (100, .Note), (113, .Op), (114, .Op)] = true := by kernel_rfl

def an67 : An := ⟨[], [], [], [], []⟩
noncomputable def C67 : Cx := ⟨Try.prog, tnT, fun f => lookC f [], 12⟩
noncomputable def ci67 : CInfo := ⟨(plains 2), TyTup [.sl .byte, .v .int], TyTup [.v .int], decTup [.sl .byte, .v .int], fun x => (fun (a0 : List UInt8) (a1 : Int) => szO a0 a1) x.1 x.2, flatTup [.v .int], [(false, 1)], []⟩
theorem e67 (x : TyTup [.sl .byte, .v .int]) : evalF C67 Try.f67 (Try.f67.body.getD .skip) an67 (plains 2) [] [(false, 1)] [.v .int] (encTup [.sl .byte, .v .int] x) = laws_szByteS.raw x.1 x.2 := by kernel_rfl
theorem c67 : Contract Try.prog 67 ci67 :=
  evalF_ok (C := C67) (tnOk_of tn_mixed tn_ok _ _) phi_nil Try.func67 (by kernel_rfl : Try.f67.body = some (Try.f67.body.getD .skip)) (by kernel_rfl) (by kernel_rfl) an67 (plains 2) [] [(false, 1)] [.sl .byte, .v .int] [.v .int] (fun x => (fun (a0 : List UInt8) (a1 : Int) => szO a0 a1) x.1 x.2) rfl (by kernel_rfl)
    fun x r hb h => (e67 x).trans (laws_szByteS.ok hb h)

def an72 : An := ⟨[], [], [], [], []⟩
noncomputable def C72 : Cx := ⟨Try.prog, tnT, fun f => lookC f [(67, ci67)], 30⟩
noncomputable def ci72 : CInfo := ⟨(plains 2), TyTup [.v .Note, .v .int], TyTup [.v .int], decTup [.v .Note, .v .int], fun x => (fun (a0 : G.Note) (a1 : Int) => szO a0 a1) x.1 x.2, flatTup [.v .int], [(false, 1)], []⟩
theorem e72 (x : TyTup [.v .Note, .v .int]) : evalF C72 Try.f72 (Try.f72.body.getD .skip) an72 (plains 2) [] [(false, 1)] [.v .int] (encTup [.v .Note, .v .int] x) = laws_szNote.raw x.1 x.2 := by kernel_rfl
theorem c72 : Contract Try.prog 72 ci72 :=
  evalF_ok (C := C72) (tnOk_of tn_mixed tn_ok _ _) (phi_cons c67 phi_nil) Try.func72 (by kernel_rfl : Try.f72.body = some (Try.f72.body.getD .skip)) (by kernel_rfl) (by kernel_rfl) an72 (plains 2) [] [(false, 1)] [.v .Note, .v .int] [.v .int] (fun x => (fun (a0 : G.Note) (a1 : Int) => szO a0 a1) x.1 x.2) rfl (by kernel_rfl)
    fun x r hb h => (e72 x).trans (laws_szNote.ok hb h)

def an32 : An := ⟨[], [(0, ⟨[.slot 1 (.v .int)], [(4, 5), (12, 25)], []⟩)], [(5, ⟨[.slot 1 (.v .int), .slot 5 (.v .int)], [(4, 4), (12, 25)], []⟩)], [], []⟩
noncomputable def C32 : Cx := ⟨Try.prog, tnT, fun f => lookC f [(72, ci72)], 27⟩
noncomputable def ci32 : CInfo := ⟨(plains 2), TyTup [.sl .Note, .v .int], TyTup [.v .int], decTup [.sl .Note, .v .int], fun x => (fun (a0 : List G.Note) (a1 : Int) => szO a0 a1) x.1 x.2, flatTup [.v .int], [(false, 1)], []⟩
theorem e32 (x : TyTup [.sl .Note, .v .int]) : evalF C32 Try.f32 (Try.f32.body.getD .skip) an32 (plains 2) [] [(false, 1)] [.v .int] (encTup [.sl .Note, .v .int] x) = laws_szNoteS.raw x.1 x.2 := by kernel_rfl
theorem c32 : Contract Try.prog 32 ci32 :=
  evalF_ok (C := C32) (tnOk_of tn_mixed tn_ok _ _) (phi_cons c72 phi_nil) Try.func32 (by kernel_rfl : Try.f32.body = some (Try.f32.body.getD .skip)) (by kernel_rfl) (by kernel_rfl) an32 (plains 2) [] [(false, 1)] [.sl .Note, .v .int] [.v .int] (fun x => (fun (a0 : List G.Note) (a1 : Int) => szO a0 a1) x.1 x.2) rfl (by kernel_rfl)
    fun x r hb h => (e32 x).trans (laws_szNoteS.ok hb h)

def an35 : An := ⟨[], [(0, ⟨[.own 3 .byte], [(4, 4), (8, 20)], []⟩)], [(3, ⟨[.slot 4 (.v .int), .own 3 .byte], [(8, 20)], []⟩)], [], []⟩
noncomputable def C35 : Cx := ⟨Try.prog, tnT, fun f => lookC f [], 22⟩
noncomputable def ci35 : CInfo := ⟨(plains 1), TyTup [.sl .byte], TyTup [.sl .byte], decTup [.sl .byte], fun x => (fun (a0 : List UInt8) => cpy a0) x, flatTup [.sl .byte], [(false, 1)], [0]⟩
theorem e35 (x : TyTup [.sl .byte]) : evalF C35 Try.f35 (Try.f35.body.getD .skip) an35 (plains 1) [0] [(false, 1)] [.sl .byte] (encTup [.sl .byte] x) = laws_toByteS.raw x := by kernel_rfl
theorem c35 : Contract Try.prog 35 ci35 :=
  evalF_ok (C := C35) (tnOk_of tn_mixed tn_ok _ _) phi_nil Try.func35 (by kernel_rfl : Try.f35.body = some (Try.f35.body.getD .skip)) (by kernel_rfl) (by kernel_rfl) an35 (plains 1) [0] [(false, 1)] [.sl .byte] [.sl .byte] (fun x => (fun (a0 : List UInt8) => cpy a0) x) rfl (by kernel_rfl)
    fun x r hb h => (e35 x).trans (laws_toByteS.ok hb h)

def an24 : An := ⟨[], [], [], [], []⟩
noncomputable def C24 : Cx := ⟨Try.prog, tnT, fun f => lookC f [], 11⟩
noncomputable def ci24 : CInfo := ⟨(plains 1), TyTup [.v .Addr], TyTup [.v .Addr], decTup [.v .Addr], fun x => (fun (a0 : G.Addr) => cpy a0) x, flatTup [.v .Addr], [(true, 2)], []⟩
theorem e24 (x : TyTup [.v .Addr]) : evalF C24 Try.f24 (Try.f24.body.getD .skip) an24 (plains 1) [] [(true, 2)] [.v .Addr] (encTup [.v .Addr] x) = laws_toAddr.raw x := by kernel_rfl
theorem c24 : Contract Try.prog 24 ci24 :=
  evalF_ok (C := C24) (tnOk_of tn_mixed tn_ok _ _) phi_nil Try.func24 (by kernel_rfl : Try.f24.body = some (Try.f24.body.getD .skip)) (by kernel_rfl) (by kernel_rfl) an24 (plains 1) [] [(true, 2)] [.v .Addr] [.v .Addr] (fun x => (fun (a0 : G.Addr) => cpy a0) x) rfl (by kernel_rfl)
    fun x r hb h => (e24 x).trans (laws_toAddr.ok hb h)

def an74 : An := ⟨[], [], [], [], []⟩
noncomputable def C74 : Cx := ⟨Try.prog, tnT, fun f => lookC f [(24, ci24), (35, ci35)], 43⟩
noncomputable def ci74 : CInfo := ⟨(plains 1), TyTup [.v .Note], TyTup [.v .Note], decTup [.v .Note], fun x => (fun (a0 : G.Note) => cpy a0) x, flatTup [.v .Note], [(true, 12)], [3, 4, 7, 8]⟩
theorem e74 (x : TyTup [.v .Note]) : evalF C74 Try.f74 (Try.f74.body.getD .skip) an74 (plains 1) [3, 4, 7, 8] [(true, 12)] [.v .Note] (encTup [.v .Note] x) = laws_toNote.raw x := by kernel_rfl
theorem c74 : Contract Try.prog 74 ci74 :=
  evalF_ok (C := C74) (tnOk_of tn_mixed tn_ok _ _) (phi_cons c24 (phi_cons c35 phi_nil)) Try.func74 (by kernel_rfl : Try.f74.body = some (Try.f74.body.getD .skip)) (by kernel_rfl) (by kernel_rfl) an74 (plains 1) [3, 4, 7, 8] [(true, 12)] [.v .Note] [.v .Note] (fun x => (fun (a0 : G.Note) => cpy a0) x) rfl (by kernel_rfl)
    fun x r hb h => (e74 x).trans (laws_toNote.ok hb h)

def an34 : An := ⟨[], [(0, ⟨[.own 3 .Note], [(4, 4), (8, 21)], []⟩)], [(3, ⟨[.slot 4 (.v .int), .own 3 .Note], [(8, 21)], []⟩)], [], []⟩
noncomputable def C34 : Cx := ⟨Try.prog, tnT, fun f => lookC f [(74, ci74)], 23⟩
noncomputable def ci34 : CInfo := ⟨(plains 1), TyTup [.sl .Note], TyTup [.sl .Note], decTup [.sl .Note], fun x => (fun (a0 : List G.Note) => cpy a0) x, flatTup [.sl .Note], [(false, 1)], [0]⟩
theorem e34 (x : TyTup [.sl .Note]) : evalF C34 Try.f34 (Try.f34.body.getD .skip) an34 (plains 1) [0] [(false, 1)] [.sl .Note] (encTup [.sl .Note] x) = laws_toNoteS.raw x := by kernel_rfl
theorem c34 : Contract Try.prog 34 ci34 :=
  evalF_ok (C := C34) (tnOk_of tn_mixed tn_ok _ _) (phi_cons c74 phi_nil) Try.func34 (by kernel_rfl : Try.f34.body = some (Try.f34.body.getD .skip)) (by kernel_rfl) (by kernel_rfl) an34 (plains 1) [0] [(false, 1)] [.sl .Note] [.sl .Note] (fun x => (fun (a0 : List G.Note) => cpy a0) x) rfl (by kernel_rfl)
    fun x r hb h => (e34 x).trans (laws_toNoteS.ok hb h)

def an69 : An := ⟨[], [], [], [(1, ⟨[.slot 6 (.v .bool)], [(7, 14)], []⟩)], []⟩
noncomputable def C69 : Cx := ⟨Try.prog, tnT, fun f => lookC f [], 15⟩
noncomputable def ci69 : CInfo := ⟨(plains 3), TyTup [.v .int, .v .int, .v .int], TyTup [.v .bool], decTup [.v .int, .v .int, .v .int], fun x => some ((fun (a0 : Int) (a1 : Int) (a2 : Int) => inR a0 a1 a2) x.1 x.2.1 x.2.2), flatTup [.v .bool], [(false, 1)], []⟩
theorem e69 (x : TyTup [.v .int, .v .int, .v .int]) : evalF C69 Try.f69 (Try.f69.body.getD .skip) an69 (plains 3) [] [(false, 1)] [.v .bool] (encTup [.v .int, .v .int, .v .int] x) = spec_l1In.raw x.1 x.2.1 x.2.2 := by kernel_rfl
theorem c69 : Contract Try.prog 69 ci69 :=
  evalF_ok (C := C69) (tnOk_of tn_mixed tn_ok _ _) phi_nil Try.func69 (by kernel_rfl : Try.f69.body = some (Try.f69.body.getD .skip)) (by kernel_rfl) (by kernel_rfl) an69 (plains 3) [] [(false, 1)] [.v .int, .v .int, .v .int] [.v .bool] (fun x => some ((fun (a0 : Int) (a1 : Int) (a2 : Int) => inR a0 a1 a2) x.1 x.2.1 x.2.2)) rfl (by kernel_rfl)
    fun x r hb h => (e69 x).trans ((spec_l1In.ok hb).trans h)

def an103 : An := ⟨[], [], [], [(1, ⟨[.slot 4 (.v .bool)], [(5, 11)], []⟩)], []⟩
noncomputable def C103 : Cx := ⟨Try.prog, tnT, fun f => lookC f [], 12⟩
noncomputable def ci103 : CInfo := ⟨(plains 2), TyTup [.v .int, .v .int], TyTup [.v .bool], decTup [.v .int, .v .int], fun x => some ((fun (a0 : Int) (a1 : Int) => isLen a0 a1) x.1 x.2), flatTup [.v .bool], [(false, 1)], []⟩
theorem e103 (x : TyTup [.v .int, .v .int]) : evalF C103 Try.f103 (Try.f103.body.getD .skip) an103 (plains 2) [] [(false, 1)] [.v .bool] (encTup [.v .int, .v .int] x) = spec_l18Len.raw x.1 x.2 := by kernel_rfl
theorem c103 : Contract Try.prog 103 ci103 :=
  evalF_ok (C := C103) (tnOk_of tn_mixed tn_ok _ _) phi_nil Try.func103 (by kernel_rfl : Try.f103.body = some (Try.f103.body.getD .skip)) (by kernel_rfl) (by kernel_rfl) an103 (plains 2) [] [(false, 1)] [.v .int, .v .int] [.v .bool] (fun x => some ((fun (a0 : Int) (a1 : Int) => isLen a0 a1) x.1 x.2)) rfl (by kernel_rfl)
    fun x r hb h => (e103 x).trans ((spec_l18Len.ok hb).trans h)

def an97 : An := ⟨[], [], [], [(1, ⟨[.slot 2 (.v .bool)], [(3, 10)], []⟩)], []⟩
noncomputable def C97 : Cx := ⟨Try.prog, tnT, fun f => lookC f [(69, ci69)], 11⟩
noncomputable def ci97 : CInfo := ⟨(plains 1), TyTup [.v .Addr], TyTup [.v .bool], decTup [.v .Addr], fun x => some ((fun (a0 : G.Addr) => addrOk a0) x), flatTup [.v .bool], [(false, 1)], []⟩
theorem e97 (x : TyTup [.v .Addr]) : evalF C97 Try.f97 (Try.f97.body.getD .skip) an97 (plains 1) [] [(false, 1)] [.v .bool] (encTup [.v .Addr] x) = spec_AddrOk.raw x := by kernel_rfl
theorem c97 : Contract Try.prog 97 ci97 :=
  evalF_ok (C := C97) (tnOk_of tn_mixed tn_ok _ _) (phi_cons c69 phi_nil) Try.func97 (by kernel_rfl : Try.f97.body = some (Try.f97.body.getD .skip)) (by kernel_rfl) (by kernel_rfl) an97 (plains 1) [] [(false, 1)] [.v .Addr] [.v .bool] (fun x => some ((fun (a0 : G.Addr) => addrOk a0) x)) rfl (by kernel_rfl)
    fun x r hb h => (e97 x).trans ((spec_AddrOk.ok hb).trans h)

def an82 : An := ⟨[], [], [], [(1, ⟨[.slot 2 (.v .bool)], [(3, 59)], []⟩)], []⟩
noncomputable def C82 : Cx := ⟨Try.prog, tnT, fun f => lookC f [(69, ci69), (97, ci97), (103, ci103)], 60⟩
noncomputable def ci82 : CInfo := ⟨(plains 1), TyTup [.v .Note], TyTup [.v .bool], decTup [.v .Note], fun x => some ((fun (a0 : G.Note) => noteOk a0) x), flatTup [.v .bool], [(false, 1)], []⟩
theorem e82 (x : TyTup [.v .Note]) : evalF C82 Try.f82 (Try.f82.body.getD .skip) an82 (plains 1) [] [(false, 1)] [.v .bool] (encTup [.v .Note] x) = spec_NoteOk.raw x := by kernel_rfl
theorem c82 : Contract Try.prog 82 ci82 :=
  evalF_ok (C := C82) (tnOk_of tn_mixed tn_ok _ _) (phi_cons c69 (phi_cons c97 (phi_cons c103 phi_nil))) Try.func82 (by kernel_rfl : Try.f82.body = some (Try.f82.body.getD .skip)) (by kernel_rfl) (by kernel_rfl) an82 (plains 1) [] [(false, 1)] [.v .Note] [.v .bool] (fun x => some ((fun (a0 : G.Note) => noteOk a0) x)) rfl (by kernel_rfl)
    fun x r hb h => (e82 x).trans ((spec_NoteOk.ok hb).trans h)

def an73 : An := ⟨[], [], [], [], []⟩
noncomputable def C73 : Cx := ⟨Try.prog, tnT, fun f => lookC f [], 10⟩
noncomputable def ci73 : CInfo := ⟨(plains 2), TyTup [.sl .byte, .sl .byte], TyTup [.v .bool], decTup [.sl .byte, .sl .byte], fun x => (fun (a0 : List UInt8) (a1 : List UInt8) => sameO a0 a1) x.1 x.2, flatTup [.v .bool], [(false, 1)], []⟩
theorem e73 (x : TyTup [.sl .byte, .sl .byte]) : evalF C73 Try.f73 (Try.f73.body.getD .skip) an73 (plains 2) [] [(false, 1)] [.v .bool] (encTup [.sl .byte, .sl .byte] x) = spec_l1Same.raw x.1 x.2 := by kernel_rfl
theorem c73 : Contract Try.prog 73 ci73 :=
  evalF_ok (C := C73) (tnOk_of tn_mixed tn_ok _ _) phi_nil Try.func73 (by kernel_rfl : Try.f73.body = some (Try.f73.body.getD .skip)) (by kernel_rfl) (by kernel_rfl) an73 (plains 2) [] [(false, 1)] [.sl .byte, .sl .byte] [.v .bool] (fun x => (fun (a0 : List UInt8) (a1 : List UInt8) => sameO a0 a1) x.1 x.2) rfl (by kernel_rfl)
    fun x r hb h => (e73 x).trans (spec_l1Same.ok hb h)

def an33 : An := ⟨[], [(0, ⟨[], [(4, 26)], []⟩)], [(2, ⟨[.slot 5 (.v .int)], [(4, 4), (6, 26)], []⟩)], [(4, ⟨[.slot 26 (.v .bool)], [(12, 25)], []⟩)], []⟩
noncomputable def C33 : Cx := ⟨Try.prog, tnT, fun f => lookC f [(73, ci73)], 27⟩
noncomputable def ci33 : CInfo := ⟨(plains 2), TyTup [.sl .Note, .sl .byte], TyTup [.v .bool], decTup [.sl .Note, .sl .byte], fun x => (fun (a0 : List G.Note) (a1 : List UInt8) => shownO a0 a1) x.1 x.2, flatTup [.v .bool], [(false, 1)], []⟩
theorem e33 (x : TyTup [.sl .Note, .sl .byte]) : evalF C33 Try.f33 (Try.f33.body.getD .skip) an33 (plains 2) [] [(false, 1)] [.v .bool] (encTup [.sl .Note, .sl .byte] x) = spec_Shown.raw x.1 x.2 := by kernel_rfl
theorem c33 : Contract Try.prog 33 ci33 :=
  evalF_ok (C := C33) (tnOk_of tn_mixed tn_ok _ _) (phi_cons c73 phi_nil) Try.func33 (by kernel_rfl : Try.f33.body = some (Try.f33.body.getD .skip)) (by kernel_rfl) (by kernel_rfl) an33 (plains 2) [] [(false, 1)] [.sl .Note, .sl .byte] [.v .bool] (fun x => (fun (a0 : List G.Note) (a1 : List UInt8) => shownO a0 a1) x.1 x.2) rfl (by kernel_rfl)
    fun x r hb h => (e33 x).trans (spec_Shown.ok hb h)

def an49 : An := ⟨[(4063254, ⟨[.slot 6 (.v .int), .slot 7 (.v .int), .slot 8 (.v .int)], [(4, 4), (64, 317)], []⟩), (4522007, ⟨[.slot 6 (.v .int)], [(4, 4), (70, 76)], []⟩), (6029339, ⟨[.slot 7 (.v .int)], [], []⟩), (6488095, ⟨[.slot 6 (.v .int), .slot 7 (.v .int), .slot 8 (.v .int)], [(4, 4), (101, 317)], []⟩), (8060961, ⟨[.slot 7 (.v .int)], [], []⟩), (8519717, ⟨[.slot 6 (.v .int), .slot 7 (.v .int), .slot 8 (.v .int)], [(4, 4), (132, 317)], []⟩), (10551335, ⟨[.slot 7 (.v .int)], [], []⟩), (11403305, ⟨[], [(4, 4), (175, 199)], []⟩), (13107246, ⟨[.slot 6 (.v .int), .slot 7 (.v .int), .slot 8 (.v .int)], [(4, 4), (202, 317)], []⟩), (15466547, ⟨[.slot 7 (.v .int)], [], []⟩), (16908341, ⟨[.slot 7 (.v .int)], [], []⟩), (16973879, ⟨[.slot 6 (.v .int), .slot 7 (.v .int), .slot 8 (.v .int)], [(4, 4), (261, 317)], []⟩), (17629241, ⟨[.slot 7 (.v .int)], [], []⟩), (17694779, ⟨[.slot 6 (.v .int), .slot 7 (.v .int), .slot 8 (.v .int)], [(4, 4), (272, 317)], []⟩), (18153532, ⟨[.slot 6 (.v .int), .slot 8 (.v .int)], [(4, 4), (278, 298)], []⟩), (20381761, ⟨[.slot 7 (.v .int)], [], []⟩), (20971590, ⟨[.slot 320 (.v .bool)], [(322, 325)], []⟩), (20971591, ⟨[.slot 320 (.v .bool)], [(323, 325)], []⟩), (20971592, ⟨[.slot 320 (.v .bool)], [(324, 325)], []⟩), (20971593, ⟨[.slot 320 (.v .bool)], [(325, 325)], []⟩)], [(0, ⟨[.slot 6 (.v .int), .slot 7 (.v .int)], [(4, 4), (8, 13), (33, 317)], []⟩), (1, ⟨[.slot 6 (.v .int), .slot 7 (.v .int), .slot 8 (.v .int)], [(4, 4), (10, 13), (38, 317)], []⟩)], [(12, ⟨[.slot 6 (.v .int), .slot 7 (.v .int), .slot 8 (.v .int), .slot 9 (.v .int)], [(4, 4), (10, 13), (33, 317)], []⟩)], [(21, ⟨[.slot 69 (.v .bool)], [(64, 68)], []⟩), (25, ⟨[.slot 92 (.v .bool)], [(77, 91)], []⟩), (27, ⟨[.slot 98 (.v .bool)], [(93, 97)], []⟩), (31, ⟨[.slot 123 (.v .bool)], [(101, 122)], []⟩), (33, ⟨[.slot 129 (.v .bool)], [(124, 128)], []⟩), (37, ⟨[.slot 161 (.v .bool)], [(132, 160)], []⟩), (39, ⟨[.slot 174 (.v .bool)], [(162, 173)], []⟩), (40, ⟨[.slot 186 (.v .bool)], [(175, 185)], []⟩), (42, ⟨[.slot 199 (.v .bool)], [(187, 198)], []⟩), (46, ⟨[.slot 208 (.v .bool)], [(202, 207)], []⟩), (47, ⟨[.slot 220 (.v .bool)], [(209, 219)], []⟩), (49, ⟨[.slot 236 (.v .bool)], [(221, 235)], []⟩), (51, ⟨[.slot 258 (.v .bool)], [(237, 257)], []⟩), (55, ⟨[.slot 269 (.v .bool)], [(261, 268)], []⟩), (58, ⟨[.slot 277 (.v .bool)], [(272, 276)], []⟩), (61, ⟨[.slot 298 (.v .bool)], [(281, 297)], []⟩), (63, ⟨[.slot 311 (.v .bool)], [(299, 310)], []⟩), (65, ⟨[.slot 317 (.v .bool)], [(312, 316)], []⟩), (73, ⟨[.slot 4 (.v .bool)], [(326, 331)], []⟩), (75, ⟨[.slot 4 (.v .bool)], [(334, 345)], []⟩)], []⟩
noncomputable def C49 : Cx := ⟨Try.prog, tnT, fun f => lookC f [(33, ci33), (69, ci69), (73, ci73), (82, ci82)], 346⟩
noncomputable def ci49 : CInfo := ⟨(plains 2), TyTup [.sl .Note, .v .int], TyTup [.v .bool], decTup [.sl .Note, .v .int], fun x => (fun (a0 : List G.Note) (a1 : Int) => fitsO a0 a1) x.1 x.2, flatTup [.v .bool], [(false, 1)], []⟩
theorem e49 (x : TyTup [.sl .Note, .v .int]) : evalF C49 Try.f49 (Try.f49.body.getD .skip) an49 (plains 2) [] [(false, 1)] [.v .bool] (encTup [.sl .Note, .v .int] x) = spec_Fits.raw x.1 x.2 := by kernel_rfl
theorem c49 : Contract Try.prog 49 ci49 :=
  evalF_ok (C := C49) (tnOk_of tn_mixed tn_ok _ _) (phi_cons c33 (phi_cons c69 (phi_cons c73 (phi_cons c82 phi_nil)))) Try.func49 (by kernel_rfl : Try.f49.body = some (Try.f49.body.getD .skip)) (by kernel_rfl) (by kernel_rfl) an49 (plains 2) [] [(false, 1)] [.sl .Note, .v .int] [.v .bool] (fun x => (fun (a0 : List G.Note) (a1 : Int) => fitsO a0 a1) x.1 x.2) rfl (by kernel_rfl)
    fun x r hb h => (e49 x).trans (spec_Fits.ok hb h)

def an58 : An := ⟨[], [], [], [(1, ⟨[.slot 6 (.v .bool)], [(7, 14)], []⟩)], []⟩
noncomputable def C58 : Cx := ⟨Try.prog, tnT, fun f => lookC f [], 15⟩
noncomputable def ci58 : CInfo := ⟨(plains 3), TyTup [.v .int, .v .int, .v .int], TyTup [.v .bool], decTup [.v .int, .v .int, .v .int], fun x => some ((fun (a0 : Int) (a1 : Int) (a2 : Int) => inR a0 a1 a2) x.1 x.2.1 x.2.2), flatTup [.v .bool], [(false, 1)], []⟩
theorem e58 (x : TyTup [.v .int, .v .int, .v .int]) : evalF C58 Try.f58 (Try.f58.body.getD .skip) an58 (plains 3) [] [(false, 1)] [.v .bool] (encTup [.v .int, .v .int, .v .int] x) = impl_within.raw x.1 x.2.1 x.2.2 := by kernel_rfl
theorem c58 : Contract Try.prog 58 ci58 :=
  evalF_ok (C := C58) (tnOk_of tn_mixed tn_ok _ _) phi_nil Try.func58 (by kernel_rfl : Try.f58.body = some (Try.f58.body.getD .skip)) (by kernel_rfl) (by kernel_rfl) an58 (plains 3) [] [(false, 1)] [.v .int, .v .int, .v .int] [.v .bool] (fun x => some ((fun (a0 : Int) (a1 : Int) (a2 : Int) => inR a0 a1 a2) x.1 x.2.1 x.2.2)) rfl (by kernel_rfl)
    fun x r hb h => (e58 x).trans ((impl_within.ok hb).trans h)

def an104 : An := ⟨[], [], [], [(1, ⟨[.slot 4 (.v .bool)], [(5, 13)], []⟩)], []⟩
noncomputable def C104 : Cx := ⟨Try.prog, tnT, fun f => lookC f [], 14⟩
noncomputable def ci104 : CInfo := ⟨(plains 2), TyTup [.sl .byte, .v .int], TyTup [.v .bool], decTup [.sl .byte, .v .int], fun x => some ((fun (a0 : List UInt8) (a1 : Int) => emptyOr a0 a1) x.1 x.2), flatTup [.v .bool], [(false, 1)], []⟩
theorem e104 (x : TyTup [.sl .byte, .v .int]) : evalF C104 Try.f104 (Try.f104.body.getD .skip) an104 (plains 2) [] [(false, 1)] [.v .bool] (encTup [.sl .byte, .v .int] x) = impl_emptyOr.raw x.1 x.2 := by kernel_rfl
theorem c104 : Contract Try.prog 104 ci104 :=
  evalF_ok (C := C104) (tnOk_of tn_mixed tn_ok _ _) phi_nil Try.func104 (by kernel_rfl : Try.f104.body = some (Try.f104.body.getD .skip)) (by kernel_rfl) (by kernel_rfl) an104 (plains 2) [] [(false, 1)] [.sl .byte, .v .int] [.v .bool] (fun x => some ((fun (a0 : List UInt8) (a1 : Int) => emptyOr a0 a1) x.1 x.2)) rfl (by kernel_rfl)
    fun x r hb h => (e104 x).trans ((impl_emptyOr.ok hb).trans h)

def an98 : An := ⟨[], [], [], [(1, ⟨[.slot 2 (.v .bool)], [(3, 10)], []⟩)], []⟩
noncomputable def C98 : Cx := ⟨Try.prog, tnT, fun f => lookC f [(58, ci58)], 11⟩
noncomputable def ci98 : CInfo := ⟨(plains 1), TyTup [.v .Addr], TyTup [.v .bool], decTup [.v .Addr], fun x => some ((fun (a0 : G.Addr) => addrOk a0) x), flatTup [.v .bool], [(false, 1)], []⟩
theorem e98 (x : TyTup [.v .Addr]) : evalF C98 Try.f98 (Try.f98.body.getD .skip) an98 (plains 1) [] [(false, 1)] [.v .bool] (encTup [.v .Addr] x) = impl_AddrOk.raw x := by kernel_rfl
theorem c98 : Contract Try.prog 98 ci98 :=
  evalF_ok (C := C98) (tnOk_of tn_mixed tn_ok _ _) (phi_cons c58 phi_nil) Try.func98 (by kernel_rfl : Try.f98.body = some (Try.f98.body.getD .skip)) (by kernel_rfl) (by kernel_rfl) an98 (plains 1) [] [(false, 1)] [.v .Addr] [.v .bool] (fun x => some ((fun (a0 : G.Addr) => addrOk a0) x)) rfl (by kernel_rfl)
    fun x r hb h => (e98 x).trans ((impl_AddrOk.ok hb).trans h)

def an83 : An := ⟨[], [], [], [(1, ⟨[.slot 2 (.v .bool)], [(3, 56)], []⟩)], []⟩
noncomputable def C83 : Cx := ⟨Try.prog, tnT, fun f => lookC f [(58, ci58), (98, ci98), (104, ci104)], 57⟩
noncomputable def ci83 : CInfo := ⟨(plains 1), TyTup [.v .Note], TyTup [.v .bool], decTup [.v .Note], fun x => some ((fun (a0 : G.Note) => noteOk a0) x), flatTup [.v .bool], [(false, 1)], []⟩
theorem e83 (x : TyTup [.v .Note]) : evalF C83 Try.f83 (Try.f83.body.getD .skip) an83 (plains 1) [] [(false, 1)] [.v .bool] (encTup [.v .Note] x) = impl_NoteOk.raw x := by kernel_rfl
theorem c83 : Contract Try.prog 83 ci83 :=
  evalF_ok (C := C83) (tnOk_of tn_mixed tn_ok _ _) (phi_cons c58 (phi_cons c98 (phi_cons c104 phi_nil))) Try.func83 (by kernel_rfl : Try.f83.body = some (Try.f83.body.getD .skip)) (by kernel_rfl) (by kernel_rfl) an83 (plains 1) [] [(false, 1)] [.v .Note] [.v .bool] (fun x => some ((fun (a0 : G.Note) => noteOk a0) x)) rfl (by kernel_rfl)
    fun x r hb h => (e83 x).trans ((impl_NoteOk.ok hb).trans h)

def an75 : An := ⟨[], [], [], [], []⟩
noncomputable def C75 : Cx := ⟨Try.prog, tnT, fun f => lookC f [], 10⟩
noncomputable def ci75 : CInfo := ⟨(plains 2), TyTup [.sl .byte, .sl .byte], TyTup [.v .bool], decTup [.sl .byte, .sl .byte], fun x => (fun (a0 : List UInt8) (a1 : List UInt8) => sameO a0 a1) x.1 x.2, flatTup [.v .bool], [(false, 1)], []⟩
theorem e75 (x : TyTup [.sl .byte, .sl .byte]) : evalF C75 Try.f75 (Try.f75.body.getD .skip) an75 (plains 2) [] [(false, 1)] [.v .bool] (encTup [.sl .byte, .sl .byte] x) = bytes_Equal.raw x.1 x.2 := by kernel_rfl
theorem c75 : Contract Try.prog 75 ci75 :=
  evalF_ok (C := C75) (tnOk_of tn_mixed tn_ok _ _) phi_nil Try.func75 (by kernel_rfl : Try.f75.body = some (Try.f75.body.getD .skip)) (by kernel_rfl) (by kernel_rfl) an75 (plains 2) [] [(false, 1)] [.sl .byte, .sl .byte] [.v .bool] (fun x => (fun (a0 : List UInt8) (a1 : List UInt8) => sameO a0 a1) x.1 x.2) rfl (by kernel_rfl)
    fun x r hb h => (e75 x).trans (bytes_Equal.ok hb h)

def an36 : An := ⟨[], [(0, ⟨[], [(4, 4), (6, 6), (9, 22)], []⟩)], [(2, ⟨[.slot 9 (.v .int)], [(4, 4), (6, 6), (10, 22)], []⟩)], [(4, ⟨[.slot 21 (.v .bool)], [(13, 20)], []⟩)], []⟩
noncomputable def C36 : Cx := ⟨Try.prog, tnT, fun f => lookC f [(75, ci75)], 23⟩
noncomputable def ci36 : CInfo := ⟨(plains 2), TyTup [.sl .Note, .sl .byte], TyTup [.v .bool], decTup [.sl .Note, .sl .byte], fun x => (fun (a0 : List G.Note) (a1 : List UInt8) => shownO a0 a1) x.1 x.2, flatTup [.v .bool], [(false, 1)], []⟩
theorem e36 (x : TyTup [.sl .Note, .sl .byte]) : evalF C36 Try.f36 (Try.f36.body.getD .skip) an36 (plains 2) [] [(false, 1)] [.v .bool] (encTup [.sl .Note, .sl .byte] x) = impl_Shown.raw x.1 x.2 := by kernel_rfl
theorem c36 : Contract Try.prog 36 ci36 :=
  evalF_ok (C := C36) (tnOk_of tn_mixed tn_ok _ _) (phi_cons c75 phi_nil) Try.func36 (by kernel_rfl : Try.f36.body = some (Try.f36.body.getD .skip)) (by kernel_rfl) (by kernel_rfl) an36 (plains 2) [] [(false, 1)] [.sl .Note, .sl .byte] [.v .bool] (fun x => (fun (a0 : List G.Note) (a1 : List UInt8) => shownO a0 a1) x.1 x.2) rfl (by kernel_rfl)
    fun x r hb h => (e36 x).trans (impl_Shown.ok hb h)

def an105 : An := ⟨[], [], [], [(1, ⟨[.slot 3 (.v .bool)], [(4, 13)], []⟩)], []⟩
noncomputable def C105 : Cx := ⟨Try.prog, tnT, fun f => lookC f [(75, ci75)], 14⟩
noncomputable def ci105 : CInfo := ⟨(plains 2), TyTup [.v .Note, .pt .Note], TyTup [.v .bool], decTup [.v .Note, .pt .Note], fun x => (fun (a0 : G.Note) (a1 : G.Note) => twoO pDial a0 a1) x.1 x.2, flatTup [.v .bool], [(false, 1)], []⟩
theorem e105 (x : TyTup [.v .Note, .pt .Note]) : evalF C105 Try.f105 (Try.f105.body.getD .skip) an105 (plains 2) [] [(false, 1)] [.v .bool] (encTup [.v .Note, .pt .Note] x) = impl_serveFits_1.raw x.1 x.2 := by kernel_rfl
theorem c105 : Contract Try.prog 105 ci105 :=
  evalF_ok (C := C105) (tnOk_of tn_mixed tn_ok _ _) (phi_cons c75 phi_nil) Try.func105 (by kernel_rfl : Try.f105.body = some (Try.f105.body.getD .skip)) (by kernel_rfl) (by kernel_rfl) an105 (plains 2) [] [(false, 1)] [.v .Note, .pt .Note] [.v .bool] (fun x => (fun (a0 : G.Note) (a1 : G.Note) => twoO pDial a0 a1) x.1 x.2) rfl (by kernel_rfl)
    fun x r hb h => (e105 x).trans (impl_serveFits_1.ok hb h)

def an106 : An := ⟨[], [], [], [(1, ⟨[.slot 3 (.v .bool)], [(4, 20)], []⟩)], []⟩
noncomputable def C106 : Cx := ⟨Try.prog, tnT, fun f => lookC f [(75, ci75)], 21⟩
noncomputable def ci106 : CInfo := ⟨(plains 2), TyTup [.v .Note, .pt .Note], TyTup [.v .bool], decTup [.v .Note, .pt .Note], fun x => (fun (a0 : G.Note) (a1 : G.Note) => twoO pOwn a0 a1) x.1 x.2, flatTup [.v .bool], [(false, 1)], []⟩
theorem e106 (x : TyTup [.v .Note, .pt .Note]) : evalF C106 Try.f106 (Try.f106.body.getD .skip) an106 (plains 2) [] [(false, 1)] [.v .bool] (encTup [.v .Note, .pt .Note] x) = impl_serveFits_2.raw x.1 x.2 := by kernel_rfl
theorem c106 : Contract Try.prog 106 ci106 :=
  evalF_ok (C := C106) (tnOk_of tn_mixed tn_ok _ _) (phi_cons c75 phi_nil) Try.func106 (by kernel_rfl : Try.f106.body = some (Try.f106.body.getD .skip)) (by kernel_rfl) (by kernel_rfl) an106 (plains 2) [] [(false, 1)] [.v .Note, .pt .Note] [.v .bool] (fun x => (fun (a0 : G.Note) (a1 : G.Note) => twoO pOwn a0 a1) x.1 x.2) rfl (by kernel_rfl)
    fun x r hb h => (e106 x).trans (impl_serveFits_2.ok hb h)

def an107 : An := ⟨[], [], [], [(1, ⟨[.slot 3 (.v .bool)], [(4, 27)], []⟩)], []⟩
noncomputable def C107 : Cx := ⟨Try.prog, tnT, fun f => lookC f [(75, ci75)], 28⟩
noncomputable def ci107 : CInfo := ⟨(plains 2), TyTup [.v .Note, .pt .Note], TyTup [.v .bool], decTup [.v .Note, .pt .Note], fun x => (fun (a0 : G.Note) (a1 : G.Note) => twoO pCommit a0 a1) x.1 x.2, flatTup [.v .bool], [(false, 1)], []⟩
theorem e107 (x : TyTup [.v .Note, .pt .Note]) : evalF C107 Try.f107 (Try.f107.body.getD .skip) an107 (plains 2) [] [(false, 1)] [.v .bool] (encTup [.v .Note, .pt .Note] x) = impl_serveFits_3.raw x.1 x.2 := by kernel_rfl
theorem c107 : Contract Try.prog 107 ci107 :=
  evalF_ok (C := C107) (tnOk_of tn_mixed tn_ok _ _) (phi_cons c75 phi_nil) Try.func107 (by kernel_rfl : Try.f107.body = some (Try.f107.body.getD .skip)) (by kernel_rfl) (by kernel_rfl) an107 (plains 2) [] [(false, 1)] [.v .Note, .pt .Note] [.v .bool] (fun x => (fun (a0 : G.Note) (a1 : G.Note) => twoO pCommit a0 a1) x.1 x.2) rfl (by kernel_rfl)
    fun x r hb h => (e107 x).trans (impl_serveFits_3.ok hb h)

def an108 : An := ⟨[], [], [], [(1, ⟨[.slot 3 (.v .bool)], [(4, 13)], []⟩)], []⟩
noncomputable def C108 : Cx := ⟨Try.prog, tnT, fun f => lookC f [(75, ci75)], 14⟩
noncomputable def ci108 : CInfo := ⟨(plains 2), TyTup [.v .Note, .pt .Note], TyTup [.v .bool], decTup [.v .Note, .pt .Note], fun x => (fun (a0 : G.Note) (a1 : G.Note) => twoO pServed a0 a1) x.1 x.2, flatTup [.v .bool], [(false, 1)], []⟩
theorem e108 (x : TyTup [.v .Note, .pt .Note]) : evalF C108 Try.f108 (Try.f108.body.getD .skip) an108 (plains 2) [] [(false, 1)] [.v .bool] (encTup [.v .Note, .pt .Note] x) = impl_serveFits_4.raw x.1 x.2 := by kernel_rfl
theorem c108 : Contract Try.prog 108 ci108 :=
  evalF_ok (C := C108) (tnOk_of tn_mixed tn_ok _ _) (phi_cons c75 phi_nil) Try.func108 (by kernel_rfl : Try.f108.body = some (Try.f108.body.getD .skip)) (by kernel_rfl) (by kernel_rfl) an108 (plains 2) [] [(false, 1)] [.v .Note, .pt .Note] [.v .bool] (fun x => (fun (a0 : G.Note) (a1 : G.Note) => twoO pServed a0 a1) x.1 x.2) rfl (by kernel_rfl)
    fun x r hb h => (e108 x).trans (impl_serveFits_4.ok hb h)

def an85_105 : An := ⟨[(1310727, ⟨[.slot 5 (.v .int)], [(21, 22)], []⟩)], [(0, ⟨[.slot 5 (.v .int)], [(7, 7), (10, 23)], []⟩)], [(3, ⟨[.slot 5 (.v .int), .slot 10 (.v .int)], [(7, 7), (11, 23)], []⟩)], [(5, ⟨[.slot 20 (.v .bool)], [(14, 19)], []⟩)], []⟩
noncomputable def C85_105 : Cx := ⟨Try.prog, tnT, fun f => lookC f [(83, ci83), (105, ci105)], 25⟩
noncomputable def ci85_105 : CInfo := ⟨(plains 2), TyTup [.sl .Note, .c1 105 .Note], TyTup [.v .int], decTup [.sl .Note, .c1 105 .Note], fun x => (fun (a0 : List G.Note) (a1 : G.Note) => cntO pDial a0 a1) x.1 x.2, flatTup [.v .int], [(false, 1)], []⟩
theorem e85_105 (x : TyTup [.sl .Note, .c1 105 .Note]) : evalF C85_105 Try.f85 (Try.f85.body.getD .skip) an85_105 (plains 2) [] [(false, 1)] [.v .int] (encTup [.sl .Note, .c1 105 .Note] x) = impl_count_impl_serveFits_1.raw x.1 x.2 := by kernel_rfl
theorem c85_105 : Contract Try.prog 85 ci85_105 :=
  evalF_ok (C := C85_105) (tnOk_of tn_mixed tn_ok _ _) (phi_cons c83 (phi_cons c105 phi_nil)) Try.func85 (by kernel_rfl : Try.f85.body = some (Try.f85.body.getD .skip)) (by kernel_rfl) (by kernel_rfl) an85_105 (plains 2) [] [(false, 1)] [.sl .Note, .c1 105 .Note] [.v .int] (fun x => (fun (a0 : List G.Note) (a1 : G.Note) => cntO pDial a0 a1) x.1 x.2) rfl (by kernel_rfl)
    fun x r hb h => (e85_105 x).trans (impl_count_impl_serveFits_1.ok hb h)

def an85_106 : An := ⟨[(1310727, ⟨[.slot 5 (.v .int)], [(21, 22)], []⟩)], [(0, ⟨[.slot 5 (.v .int)], [(7, 7), (10, 23)], []⟩)], [(3, ⟨[.slot 5 (.v .int), .slot 10 (.v .int)], [(7, 7), (11, 23)], []⟩)], [(5, ⟨[.slot 20 (.v .bool)], [(14, 19)], []⟩)], []⟩
noncomputable def C85_106 : Cx := ⟨Try.prog, tnT, fun f => lookC f [(83, ci83), (106, ci106)], 25⟩
noncomputable def ci85_106 : CInfo := ⟨(plains 2), TyTup [.sl .Note, .c1 106 .Note], TyTup [.v .int], decTup [.sl .Note, .c1 106 .Note], fun x => (fun (a0 : List G.Note) (a1 : G.Note) => cntO pOwn a0 a1) x.1 x.2, flatTup [.v .int], [(false, 1)], []⟩
theorem e85_106 (x : TyTup [.sl .Note, .c1 106 .Note]) : evalF C85_106 Try.f85 (Try.f85.body.getD .skip) an85_106 (plains 2) [] [(false, 1)] [.v .int] (encTup [.sl .Note, .c1 106 .Note] x) = impl_count_impl_serveFits_2.raw x.1 x.2 := by kernel_rfl
theorem c85_106 : Contract Try.prog 85 ci85_106 :=
  evalF_ok (C := C85_106) (tnOk_of tn_mixed tn_ok _ _) (phi_cons c83 (phi_cons c106 phi_nil)) Try.func85 (by kernel_rfl : Try.f85.body = some (Try.f85.body.getD .skip)) (by kernel_rfl) (by kernel_rfl) an85_106 (plains 2) [] [(false, 1)] [.sl .Note, .c1 106 .Note] [.v .int] (fun x => (fun (a0 : List G.Note) (a1 : G.Note) => cntO pOwn a0 a1) x.1 x.2) rfl (by kernel_rfl)
    fun x r hb h => (e85_106 x).trans (impl_count_impl_serveFits_2.ok hb h)

def an85_107 : An := ⟨[(1310727, ⟨[.slot 5 (.v .int)], [(21, 22)], []⟩)], [(0, ⟨[.slot 5 (.v .int)], [(7, 7), (10, 23)], []⟩)], [(3, ⟨[.slot 5 (.v .int), .slot 10 (.v .int)], [(7, 7), (11, 23)], []⟩)], [(5, ⟨[.slot 20 (.v .bool)], [(14, 19)], []⟩)], []⟩
noncomputable def C85_107 : Cx := ⟨Try.prog, tnT, fun f => lookC f [(83, ci83), (107, ci107)], 25⟩
noncomputable def ci85_107 : CInfo := ⟨(plains 2), TyTup [.sl .Note, .c1 107 .Note], TyTup [.v .int], decTup [.sl .Note, .c1 107 .Note], fun x => (fun (a0 : List G.Note) (a1 : G.Note) => cntO pCommit a0 a1) x.1 x.2, flatTup [.v .int], [(false, 1)], []⟩
theorem e85_107 (x : TyTup [.sl .Note, .c1 107 .Note]) : evalF C85_107 Try.f85 (Try.f85.body.getD .skip) an85_107 (plains 2) [] [(false, 1)] [.v .int] (encTup [.sl .Note, .c1 107 .Note] x) = impl_count_impl_serveFits_3.raw x.1 x.2 := by kernel_rfl
theorem c85_107 : Contract Try.prog 85 ci85_107 :=
  evalF_ok (C := C85_107) (tnOk_of tn_mixed tn_ok _ _) (phi_cons c83 (phi_cons c107 phi_nil)) Try.func85 (by kernel_rfl : Try.f85.body = some (Try.f85.body.getD .skip)) (by kernel_rfl) (by kernel_rfl) an85_107 (plains 2) [] [(false, 1)] [.sl .Note, .c1 107 .Note] [.v .int] (fun x => (fun (a0 : List G.Note) (a1 : G.Note) => cntO pCommit a0 a1) x.1 x.2) rfl (by kernel_rfl)
    fun x r hb h => (e85_107 x).trans (impl_count_impl_serveFits_3.ok hb h)

def an85_108 : An := ⟨[(1310727, ⟨[.slot 5 (.v .int)], [(21, 22)], []⟩)], [(0, ⟨[.slot 5 (.v .int)], [(7, 7), (10, 23)], []⟩)], [(3, ⟨[.slot 5 (.v .int), .slot 10 (.v .int)], [(7, 7), (11, 23)], []⟩)], [(5, ⟨[.slot 20 (.v .bool)], [(14, 19)], []⟩)], []⟩
noncomputable def C85_108 : Cx := ⟨Try.prog, tnT, fun f => lookC f [(83, ci83), (108, ci108)], 25⟩
noncomputable def ci85_108 : CInfo := ⟨(plains 2), TyTup [.sl .Note, .c1 108 .Note], TyTup [.v .int], decTup [.sl .Note, .c1 108 .Note], fun x => (fun (a0 : List G.Note) (a1 : G.Note) => cntO pServed a0 a1) x.1 x.2, flatTup [.v .int], [(false, 1)], []⟩
theorem e85_108 (x : TyTup [.sl .Note, .c1 108 .Note]) : evalF C85_108 Try.f85 (Try.f85.body.getD .skip) an85_108 (plains 2) [] [(false, 1)] [.v .int] (encTup [.sl .Note, .c1 108 .Note] x) = impl_count_impl_serveFits_4.raw x.1 x.2 := by kernel_rfl
theorem c85_108 : Contract Try.prog 85 ci85_108 :=
  evalF_ok (C := C85_108) (tnOk_of tn_mixed tn_ok _ _) (phi_cons c83 (phi_cons c108 phi_nil)) Try.func85 (by kernel_rfl : Try.f85.body = some (Try.f85.body.getD .skip)) (by kernel_rfl) (by kernel_rfl) an85_108 (plains 2) [] [(false, 1)] [.sl .Note, .c1 108 .Note] [.v .int] (fun x => (fun (a0 : List G.Note) (a1 : G.Note) => cntO pServed a0 a1) x.1 x.2) rfl (by kernel_rfl)
    fun x r hb h => (e85_108 x).trans (impl_count_impl_serveFits_4.ok hb h)

def an84 : An := ⟨[], [], [], [(5, ⟨[.slot 4 (.v .bool)], [(21, 34)], []⟩)], []⟩
noncomputable def C84 : Cx := ⟨Try.prog, tnT, fun f => lookC f [(111149141, ci85_105), (112197717, ci85_106), (113246293, ci85_107), (114294869, ci85_108)], 35⟩
noncomputable def ci84 : CInfo := ⟨(plains 2), TyTup [.sl .Note, .v .Note], TyTup [.v .bool], decTup [.sl .Note, .v .Note], fun x => (fun (a0 : List G.Note) (a1 : G.Note) => fitO serveFits a0 a1) x.1 x.2, flatTup [.v .bool], [(false, 1)], []⟩
theorem e84 (x : TyTup [.sl .Note, .v .Note]) : evalF C84 Try.f84 (Try.f84.body.getD .skip) an84 (plains 2) [] [(false, 1)] [.v .bool] (encTup [.sl .Note, .v .Note] x) = impl_serveFits.raw x.1 x.2 := by kernel_rfl
theorem c84 : Contract Try.prog 84 ci84 :=
  evalF_ok (C := C84) (tnOk_of tn_mixed tn_ok _ _) (phi_cons c85_105 (phi_cons c85_106 (phi_cons c85_107 (phi_cons c85_108 phi_nil)))) Try.func84 (by kernel_rfl : Try.f84.body = some (Try.f84.body.getD .skip)) (by kernel_rfl) (by kernel_rfl) an84 (plains 2) [] [(false, 1)] [.sl .Note, .v .Note] [.v .bool] (fun x => (fun (a0 : List G.Note) (a1 : G.Note) => fitO serveFits a0 a1) x.1 x.2) rfl (by kernel_rfl)
    fun x r hb h => (e84 x).trans (impl_serveFits.ok hb h)

def an86 : An := ⟨[], [], [], [(1, ⟨[.slot 3 (.v .bool)], [(4, 34)], []⟩)], []⟩
noncomputable def C86 : Cx := ⟨Try.prog, tnT, fun f => lookC f [(75, ci75)], 35⟩
noncomputable def ci86 : CInfo := ⟨(plains 2), TyTup [.v .Note, .pt .Note], TyTup [.v .bool], decTup [.v .Note, .pt .Note], fun x => (fun (a0 : G.Note) (a1 : G.Note) => twoO pServe a0 a1) x.1 x.2, flatTup [.v .bool], [(false, 1)], []⟩
theorem e86 (x : TyTup [.v .Note, .pt .Note]) : evalF C86 Try.f86 (Try.f86.body.getD .skip) an86 (plains 2) [] [(false, 1)] [.v .bool] (encTup [.v .Note, .pt .Note] x) = impl_Fits_1.raw x.1 x.2 := by kernel_rfl
theorem c86 : Contract Try.prog 86 ci86 :=
  evalF_ok (C := C86) (tnOk_of tn_mixed tn_ok _ _) (phi_cons c75 phi_nil) Try.func86 (by kernel_rfl : Try.f86.body = some (Try.f86.body.getD .skip)) (by kernel_rfl) (by kernel_rfl) an86 (plains 2) [] [(false, 1)] [.v .Note, .pt .Note] [.v .bool] (fun x => (fun (a0 : G.Note) (a1 : G.Note) => twoO pServe a0 a1) x.1 x.2) rfl (by kernel_rfl)
    fun x r hb h => (e86 x).trans (impl_Fits_1.ok hb h)

def an87 : An := ⟨[], [], [], [(1, ⟨[.slot 3 (.v .bool)], [(4, 13)], []⟩)], []⟩
noncomputable def C87 : Cx := ⟨Try.prog, tnT, fun f => lookC f [(75, ci75)], 14⟩
noncomputable def ci87 : CInfo := ⟨(plains 2), TyTup [.v .Note, .pt .Note], TyTup [.v .bool], decTup [.v .Note, .pt .Note], fun x => (fun (a0 : G.Note) (a1 : G.Note) => twoO pUp a0 a1) x.1 x.2, flatTup [.v .bool], [(false, 1)], []⟩
theorem e87 (x : TyTup [.v .Note, .pt .Note]) : evalF C87 Try.f87 (Try.f87.body.getD .skip) an87 (plains 2) [] [(false, 1)] [.v .bool] (encTup [.v .Note, .pt .Note] x) = impl_Fits_2.raw x.1 x.2 := by kernel_rfl
theorem c87 : Contract Try.prog 87 ci87 :=
  evalF_ok (C := C87) (tnOk_of tn_mixed tn_ok _ _) (phi_cons c75 phi_nil) Try.func87 (by kernel_rfl : Try.f87.body = some (Try.f87.body.getD .skip)) (by kernel_rfl) (by kernel_rfl) an87 (plains 2) [] [(false, 1)] [.v .Note, .pt .Note] [.v .bool] (fun x => (fun (a0 : G.Note) (a1 : G.Note) => twoO pUp a0 a1) x.1 x.2) rfl (by kernel_rfl)
    fun x r hb h => (e87 x).trans (impl_Fits_2.ok hb h)

def an109 : An := ⟨[], [], [], [(1, ⟨[.slot 3 (.v .bool)], [(4, 15)], []⟩)], []⟩
noncomputable def C109 : Cx := ⟨Try.prog, tnT, fun f => lookC f [(75, ci75)], 16⟩
noncomputable def ci109 : CInfo := ⟨(plains 2), TyTup [.v .Note, .pt .Note], TyTup [.v .bool], decTup [.v .Note, .pt .Note], fun x => (fun (a0 : G.Note) (a1 : G.Note) => twoO pSame a0 a1) x.1 x.2, flatTup [.v .bool], [(false, 1)], []⟩
theorem e109 (x : TyTup [.v .Note, .pt .Note]) : evalF C109 Try.f109 (Try.f109.body.getD .skip) an109 (plains 2) [] [(false, 1)] [.v .bool] (encTup [.v .Note, .pt .Note] x) = impl_gotFits_1.raw x.1 x.2 := by kernel_rfl
theorem c109 : Contract Try.prog 109 ci109 :=
  evalF_ok (C := C109) (tnOk_of tn_mixed tn_ok _ _) (phi_cons c75 phi_nil) Try.func109 (by kernel_rfl : Try.f109.body = some (Try.f109.body.getD .skip)) (by kernel_rfl) (by kernel_rfl) an109 (plains 2) [] [(false, 1)] [.v .Note, .pt .Note] [.v .bool] (fun x => (fun (a0 : G.Note) (a1 : G.Note) => twoO pSame a0 a1) x.1 x.2) rfl (by kernel_rfl)
    fun x r hb h => (e109 x).trans (impl_gotFits_1.ok hb h)

def an110 : An := ⟨[], [], [], [(1, ⟨[.slot 4 (.v .bool)], [(5, 33)], []⟩)], []⟩
noncomputable def C110 : Cx := ⟨Try.prog, tnT, fun f => lookC f [(75, ci75), (109, ci109)], 34⟩
noncomputable def ci110 : CInfo := ⟨(plains 3), TyTup [.v .Note, .p1 109 .Note, .pt .Note], TyTup [.v .bool], decTup [.v .Note, .p1 109 .Note, .pt .Note], fun x => (fun (a0 : G.Note) (a1 : G.Note) (a2 : G.Note) => threeO pSent a0 a1 a2) x.1 x.2.1 x.2.2, flatTup [.v .bool], [(false, 1)], []⟩
theorem e110 (x : TyTup [.v .Note, .p1 109 .Note, .pt .Note]) : evalF C110 Try.f110 (Try.f110.body.getD .skip) an110 (plains 3) [] [(false, 1)] [.v .bool] (encTup [.v .Note, .p1 109 .Note, .pt .Note] x) = impl_gotFits_2.raw x.1 x.2.1 x.2.2 := by kernel_rfl
theorem c110 : Contract Try.prog 110 ci110 :=
  evalF_ok (C := C110) (tnOk_of tn_mixed tn_ok _ _) (phi_cons c75 (phi_cons c109 phi_nil)) Try.func110 (by kernel_rfl : Try.f110.body = some (Try.f110.body.getD .skip)) (by kernel_rfl) (by kernel_rfl) an110 (plains 3) [] [(false, 1)] [.v .Note, .p1 109 .Note, .pt .Note] [.v .bool] (fun x => (fun (a0 : G.Note) (a1 : G.Note) (a2 : G.Note) => threeO pSent a0 a1 a2) x.1 x.2.1 x.2.2) rfl (by kernel_rfl)
    fun x r hb h => (e110 x).trans (impl_gotFits_2.ok hb h)

def an111 : An := ⟨[], [], [], [(1, ⟨[.slot 4 (.v .bool)], [(5, 26)], []⟩)], []⟩
noncomputable def C111 : Cx := ⟨Try.prog, tnT, fun f => lookC f [(109, ci109)], 27⟩
noncomputable def ci111 : CInfo := ⟨(plains 3), TyTup [.v .Note, .p1 109 .Note, .pt .Note], TyTup [.v .bool], decTup [.v .Note, .p1 109 .Note, .pt .Note], fun x => (fun (a0 : G.Note) (a1 : G.Note) (a2 : G.Note) => threeO pGot a0 a1 a2) x.1 x.2.1 x.2.2, flatTup [.v .bool], [(false, 1)], []⟩
theorem e111 (x : TyTup [.v .Note, .p1 109 .Note, .pt .Note]) : evalF C111 Try.f111 (Try.f111.body.getD .skip) an111 (plains 3) [] [(false, 1)] [.v .bool] (encTup [.v .Note, .p1 109 .Note, .pt .Note] x) = impl_gotFits_3.raw x.1 x.2.1 x.2.2 := by kernel_rfl
theorem c111 : Contract Try.prog 111 ci111 :=
  evalF_ok (C := C111) (tnOk_of tn_mixed tn_ok _ _) (phi_cons c109 phi_nil) Try.func111 (by kernel_rfl : Try.f111.body = some (Try.f111.body.getD .skip)) (by kernel_rfl) (by kernel_rfl) an111 (plains 3) [] [(false, 1)] [.v .Note, .p1 109 .Note, .pt .Note] [.v .bool] (fun x => (fun (a0 : G.Note) (a1 : G.Note) (a2 : G.Note) => threeO pGot a0 a1 a2) x.1 x.2.1 x.2.2) rfl (by kernel_rfl)
    fun x r hb h => (e111 x).trans (impl_gotFits_3.ok hb h)

def an112 : An := ⟨[], [], [], [(1, ⟨[.slot 4 (.v .bool)], [(5, 27)], []⟩)], []⟩
noncomputable def C112 : Cx := ⟨Try.prog, tnT, fun f => lookC f [(109, ci109)], 28⟩
noncomputable def ci112 : CInfo := ⟨(plains 3), TyTup [.v .Note, .p1 109 .Note, .pt .Note], TyTup [.v .bool], decTup [.v .Note, .p1 109 .Note, .pt .Note], fun x => (fun (a0 : G.Note) (a1 : G.Note) (a2 : G.Note) => threeO pLate a0 a1 a2) x.1 x.2.1 x.2.2, flatTup [.v .bool], [(false, 1)], []⟩
theorem e112 (x : TyTup [.v .Note, .p1 109 .Note, .pt .Note]) : evalF C112 Try.f112 (Try.f112.body.getD .skip) an112 (plains 3) [] [(false, 1)] [.v .bool] (encTup [.v .Note, .p1 109 .Note, .pt .Note] x) = impl_gotFits_4.raw x.1 x.2.1 x.2.2 := by kernel_rfl
theorem c112 : Contract Try.prog 112 ci112 :=
  evalF_ok (C := C112) (tnOk_of tn_mixed tn_ok _ _) (phi_cons c109 phi_nil) Try.func112 (by kernel_rfl : Try.f112.body = some (Try.f112.body.getD .skip)) (by kernel_rfl) (by kernel_rfl) an112 (plains 3) [] [(false, 1)] [.v .Note, .p1 109 .Note, .pt .Note] [.v .bool] (fun x => (fun (a0 : G.Note) (a1 : G.Note) (a2 : G.Note) => threeO pLate a0 a1 a2) x.1 x.2.1 x.2.2) rfl (by kernel_rfl)
    fun x r hb h => (e112 x).trans (impl_gotFits_4.ok hb h)

def an85_110 : An := ⟨[(1310727, ⟨[.slot 5 (.v .int)], [(21, 22)], []⟩)], [(0, ⟨[.slot 5 (.v .int)], [(7, 7), (10, 23)], []⟩)], [(3, ⟨[.slot 5 (.v .int), .slot 10 (.v .int)], [(7, 7), (11, 23)], []⟩)], [(5, ⟨[.slot 20 (.v .bool)], [(14, 19)], []⟩)], []⟩
noncomputable def C85_110 : Cx := ⟨Try.prog, tnT, fun f => lookC f [(83, ci83), (110, ci110)], 25⟩
noncomputable def ci85_110 : CInfo := ⟨(plains 2), TyTup [.sl .Note, .c2 110 109 .Note], TyTup [.v .int], decTup [.sl .Note, .c2 110 109 .Note], fun x => (fun (a0 : List G.Note) (a1 : G.Note × G.Note) => cnt2O pSent a0 a1) x.1 x.2, flatTup [.v .int], [(false, 1)], []⟩
theorem e85_110 (x : TyTup [.sl .Note, .c2 110 109 .Note]) : evalF C85_110 Try.f85 (Try.f85.body.getD .skip) an85_110 (plains 2) [] [(false, 1)] [.v .int] (encTup [.sl .Note, .c2 110 109 .Note] x) = impl_count_impl_gotFits_2.raw x.1 x.2 := by kernel_rfl
theorem c85_110 : Contract Try.prog 85 ci85_110 :=
  evalF_ok (C := C85_110) (tnOk_of tn_mixed tn_ok _ _) (phi_cons c83 (phi_cons c110 phi_nil)) Try.func85 (by kernel_rfl : Try.f85.body = some (Try.f85.body.getD .skip)) (by kernel_rfl) (by kernel_rfl) an85_110 (plains 2) [] [(false, 1)] [.sl .Note, .c2 110 109 .Note] [.v .int] (fun x => (fun (a0 : List G.Note) (a1 : G.Note × G.Note) => cnt2O pSent a0 a1) x.1 x.2) rfl (by kernel_rfl)
    fun x r hb h => (e85_110 x).trans (impl_count_impl_gotFits_2.ok hb h)

def an85_111 : An := ⟨[(1310727, ⟨[.slot 5 (.v .int)], [(21, 22)], []⟩)], [(0, ⟨[.slot 5 (.v .int)], [(7, 7), (10, 23)], []⟩)], [(3, ⟨[.slot 5 (.v .int), .slot 10 (.v .int)], [(7, 7), (11, 23)], []⟩)], [(5, ⟨[.slot 20 (.v .bool)], [(14, 19)], []⟩)], []⟩
noncomputable def C85_111 : Cx := ⟨Try.prog, tnT, fun f => lookC f [(83, ci83), (111, ci111)], 25⟩
noncomputable def ci85_111 : CInfo := ⟨(plains 2), TyTup [.sl .Note, .c2 111 109 .Note], TyTup [.v .int], decTup [.sl .Note, .c2 111 109 .Note], fun x => (fun (a0 : List G.Note) (a1 : G.Note × G.Note) => cnt2O pGot a0 a1) x.1 x.2, flatTup [.v .int], [(false, 1)], []⟩
theorem e85_111 (x : TyTup [.sl .Note, .c2 111 109 .Note]) : evalF C85_111 Try.f85 (Try.f85.body.getD .skip) an85_111 (plains 2) [] [(false, 1)] [.v .int] (encTup [.sl .Note, .c2 111 109 .Note] x) = impl_count_impl_gotFits_3.raw x.1 x.2 := by kernel_rfl
theorem c85_111 : Contract Try.prog 85 ci85_111 :=
  evalF_ok (C := C85_111) (tnOk_of tn_mixed tn_ok _ _) (phi_cons c83 (phi_cons c111 phi_nil)) Try.func85 (by kernel_rfl : Try.f85.body = some (Try.f85.body.getD .skip)) (by kernel_rfl) (by kernel_rfl) an85_111 (plains 2) [] [(false, 1)] [.sl .Note, .c2 111 109 .Note] [.v .int] (fun x => (fun (a0 : List G.Note) (a1 : G.Note × G.Note) => cnt2O pGot a0 a1) x.1 x.2) rfl (by kernel_rfl)
    fun x r hb h => (e85_111 x).trans (impl_count_impl_gotFits_3.ok hb h)

def an85_112 : An := ⟨[(1310727, ⟨[.slot 5 (.v .int)], [(21, 22)], []⟩)], [(0, ⟨[.slot 5 (.v .int)], [(7, 7), (10, 23)], []⟩)], [(3, ⟨[.slot 5 (.v .int), .slot 10 (.v .int)], [(7, 7), (11, 23)], []⟩)], [(5, ⟨[.slot 20 (.v .bool)], [(14, 19)], []⟩)], []⟩
noncomputable def C85_112 : Cx := ⟨Try.prog, tnT, fun f => lookC f [(83, ci83), (112, ci112)], 25⟩
noncomputable def ci85_112 : CInfo := ⟨(plains 2), TyTup [.sl .Note, .c2 112 109 .Note], TyTup [.v .int], decTup [.sl .Note, .c2 112 109 .Note], fun x => (fun (a0 : List G.Note) (a1 : G.Note × G.Note) => cnt2O pLate a0 a1) x.1 x.2, flatTup [.v .int], [(false, 1)], []⟩
theorem e85_112 (x : TyTup [.sl .Note, .c2 112 109 .Note]) : evalF C85_112 Try.f85 (Try.f85.body.getD .skip) an85_112 (plains 2) [] [(false, 1)] [.v .int] (encTup [.sl .Note, .c2 112 109 .Note] x) = impl_count_impl_gotFits_4.raw x.1 x.2 := by kernel_rfl
theorem c85_112 : Contract Try.prog 85 ci85_112 :=
  evalF_ok (C := C85_112) (tnOk_of tn_mixed tn_ok _ _) (phi_cons c83 (phi_cons c112 phi_nil)) Try.func85 (by kernel_rfl : Try.f85.body = some (Try.f85.body.getD .skip)) (by kernel_rfl) (by kernel_rfl) an85_112 (plains 2) [] [(false, 1)] [.sl .Note, .c2 112 109 .Note] [.v .int] (fun x => (fun (a0 : List G.Note) (a1 : G.Note × G.Note) => cnt2O pLate a0 a1) x.1 x.2) rfl (by kernel_rfl)
    fun x r hb h => (e85_112 x).trans (impl_count_impl_gotFits_4.ok hb h)

def an88 : An := ⟨[], [], [], [(5, ⟨[.slot 4 (.v .bool)], [(19, 28)], []⟩)], []⟩
noncomputable def C88 : Cx := ⟨Try.prog, tnT, fun f => lookC f [(116392021, ci85_110), (117440597, ci85_111), (118489173, ci85_112)], 29⟩
noncomputable def ci88 : CInfo := ⟨(plains 2), TyTup [.sl .Note, .v .Note], TyTup [.v .bool], decTup [.sl .Note, .v .Note], fun x => (fun (a0 : List G.Note) (a1 : G.Note) => fitO gotFits a0 a1) x.1 x.2, flatTup [.v .bool], [(false, 1)], []⟩
theorem e88 (x : TyTup [.sl .Note, .v .Note]) : evalF C88 Try.f88 (Try.f88.body.getD .skip) an88 (plains 2) [] [(false, 1)] [.v .bool] (encTup [.sl .Note, .v .Note] x) = impl_gotFits.raw x.1 x.2 := by kernel_rfl
theorem c88 : Contract Try.prog 88 ci88 :=
  evalF_ok (C := C88) (tnOk_of tn_mixed tn_ok _ _) (phi_cons c85_110 (phi_cons c85_111 (phi_cons c85_112 phi_nil))) Try.func88 (by kernel_rfl : Try.f88.body = some (Try.f88.body.getD .skip)) (by kernel_rfl) (by kernel_rfl) an88 (plains 2) [] [(false, 1)] [.sl .Note, .v .Note] [.v .bool] (fun x => (fun (a0 : List G.Note) (a1 : G.Note) => fitO gotFits a0 a1) x.1 x.2) rfl (by kernel_rfl)
    fun x r hb h => (e88 x).trans (impl_gotFits.ok hb h)

def an113 : An := ⟨[], [], [], [(1, ⟨[.slot 7 (.v .bool)], [(8, 29)], []⟩)], []⟩
noncomputable def C113 : Cx := ⟨Try.prog, tnT, fun f => lookC f [(75, ci75)], 30⟩
noncomputable def ci113 : CInfo := ⟨(plains 4), TyTup [.v .Note, .v .int, .v .int, .pt .Note], TyTup [.v .bool], decTup [.v .Note, .v .int, .v .int, .pt .Note], fun x => (fun (a0 : G.Note) (a1 : Int) (a2 : Int) (a3 : G.Note) => turnO a0 a1 a2 a3) x.1 x.2.1 x.2.2.1 x.2.2.2, flatTup [.v .bool], [(false, 1)], []⟩
theorem e113 (x : TyTup [.v .Note, .v .int, .v .int, .pt .Note]) : evalF C113 Try.f113 (Try.f113.body.getD .skip) an113 (plains 4) [] [(false, 1)] [.v .bool] (encTup [.v .Note, .v .int, .v .int, .pt .Note] x) = impl_turnFits_1.raw x.1 x.2.1 x.2.2.1 x.2.2.2 := by kernel_rfl
theorem c113 : Contract Try.prog 113 ci113 :=
  evalF_ok (C := C113) (tnOk_of tn_mixed tn_ok _ _) (phi_cons c75 phi_nil) Try.func113 (by kernel_rfl : Try.f113.body = some (Try.f113.body.getD .skip)) (by kernel_rfl) (by kernel_rfl) an113 (plains 4) [] [(false, 1)] [.v .Note, .v .int, .v .int, .pt .Note] [.v .bool] (fun x => (fun (a0 : G.Note) (a1 : Int) (a2 : Int) (a3 : G.Note) => turnO a0 a1 a2 a3) x.1 x.2.1 x.2.2.1 x.2.2.2) rfl (by kernel_rfl)
    fun x r hb h => (e113 x).trans (impl_turnFits_1.ok hb h)

def an114 : An := ⟨[], [], [], [], []⟩
noncomputable def C114 : Cx := ⟨Try.prog, tnT, fun f => lookC f [(113, ci113)], 12⟩
noncomputable def ci114 : CInfo := ⟨(plains 3), TyTup [.v .Note, .p1 113 .Note, .pt .Note], TyTup [.v .bool], decTup [.v .Note, .p1 113 .Note, .pt .Note], fun x => (fun (a0 : G.Note) (a1 : G.Note) (a2 : G.Note) => threeO pT2 a0 a1 a2) x.1 x.2.1 x.2.2, flatTup [.v .bool], [(false, 1)], []⟩
theorem e114 (x : TyTup [.v .Note, .p1 113 .Note, .pt .Note]) : evalF C114 Try.f114 (Try.f114.body.getD .skip) an114 (plains 3) [] [(false, 1)] [.v .bool] (encTup [.v .Note, .p1 113 .Note, .pt .Note] x) = impl_turnFits_2.raw x.1 x.2.1 x.2.2 := by kernel_rfl
theorem c114 : Contract Try.prog 114 ci114 :=
  evalF_ok (C := C114) (tnOk_of tn_mixed tn_ok _ _) (phi_cons c113 phi_nil) Try.func114 (by kernel_rfl : Try.f114.body = some (Try.f114.body.getD .skip)) (by kernel_rfl) (by kernel_rfl) an114 (plains 3) [] [(false, 1)] [.v .Note, .p1 113 .Note, .pt .Note] [.v .bool] (fun x => (fun (a0 : G.Note) (a1 : G.Note) (a2 : G.Note) => threeO pT2 a0 a1 a2) x.1 x.2.1 x.2.2) rfl (by kernel_rfl)
    fun x r hb h => (e114 x).trans (impl_turnFits_2.ok hb h)

def an115 : An := ⟨[], [], [], [], []⟩
noncomputable def C115 : Cx := ⟨Try.prog, tnT, fun f => lookC f [(113, ci113)], 11⟩
noncomputable def ci115 : CInfo := ⟨(plains 3), TyTup [.v .Note, .p1 113 .Note, .pt .Note], TyTup [.v .bool], decTup [.v .Note, .p1 113 .Note, .pt .Note], fun x => (fun (a0 : G.Note) (a1 : G.Note) (a2 : G.Note) => threeO pT3 a0 a1 a2) x.1 x.2.1 x.2.2, flatTup [.v .bool], [(false, 1)], []⟩
theorem e115 (x : TyTup [.v .Note, .p1 113 .Note, .pt .Note]) : evalF C115 Try.f115 (Try.f115.body.getD .skip) an115 (plains 3) [] [(false, 1)] [.v .bool] (encTup [.v .Note, .p1 113 .Note, .pt .Note] x) = impl_turnFits_3.raw x.1 x.2.1 x.2.2 := by kernel_rfl
theorem c115 : Contract Try.prog 115 ci115 :=
  evalF_ok (C := C115) (tnOk_of tn_mixed tn_ok _ _) (phi_cons c113 phi_nil) Try.func115 (by kernel_rfl : Try.f115.body = some (Try.f115.body.getD .skip)) (by kernel_rfl) (by kernel_rfl) an115 (plains 3) [] [(false, 1)] [.v .Note, .p1 113 .Note, .pt .Note] [.v .bool] (fun x => (fun (a0 : G.Note) (a1 : G.Note) (a2 : G.Note) => threeO pT3 a0 a1 a2) x.1 x.2.1 x.2.2) rfl (by kernel_rfl)
    fun x r hb h => (e115 x).trans (impl_turnFits_3.ok hb h)

def an116 : An := ⟨[], [], [], [(1, ⟨[.slot 4 (.v .bool)], [(5, 16)], []⟩)], []⟩
noncomputable def C116 : Cx := ⟨Try.prog, tnT, fun f => lookC f [(75, ci75), (113, ci113)], 17⟩
noncomputable def ci116 : CInfo := ⟨(plains 3), TyTup [.v .Note, .p1 113 .Note, .pt .Note], TyTup [.v .bool], decTup [.v .Note, .p1 113 .Note, .pt .Note], fun x => (fun (a0 : G.Note) (a1 : G.Note) (a2 : G.Note) => threeO pT4 a0 a1 a2) x.1 x.2.1 x.2.2, flatTup [.v .bool], [(false, 1)], []⟩
theorem e116 (x : TyTup [.v .Note, .p1 113 .Note, .pt .Note]) : evalF C116 Try.f116 (Try.f116.body.getD .skip) an116 (plains 3) [] [(false, 1)] [.v .bool] (encTup [.v .Note, .p1 113 .Note, .pt .Note] x) = impl_turnFits_4.raw x.1 x.2.1 x.2.2 := by kernel_rfl
theorem c116 : Contract Try.prog 116 ci116 :=
  evalF_ok (C := C116) (tnOk_of tn_mixed tn_ok _ _) (phi_cons c75 (phi_cons c113 phi_nil)) Try.func116 (by kernel_rfl : Try.f116.body = some (Try.f116.body.getD .skip)) (by kernel_rfl) (by kernel_rfl) an116 (plains 3) [] [(false, 1)] [.v .Note, .p1 113 .Note, .pt .Note] [.v .bool] (fun x => (fun (a0 : G.Note) (a1 : G.Note) (a2 : G.Note) => threeO pT4 a0 a1 a2) x.1 x.2.1 x.2.2) rfl (by kernel_rfl)
    fun x r hb h => (e116 x).trans (impl_turnFits_4.ok hb h)

def an85_114 : An := ⟨[(1310727, ⟨[.slot 5 (.v .int)], [(21, 22)], []⟩)], [(0, ⟨[.slot 5 (.v .int)], [(7, 7), (10, 23)], []⟩)], [(3, ⟨[.slot 5 (.v .int), .slot 10 (.v .int)], [(7, 7), (11, 23)], []⟩)], [(5, ⟨[.slot 20 (.v .bool)], [(14, 19)], []⟩)], []⟩
noncomputable def C85_114 : Cx := ⟨Try.prog, tnT, fun f => lookC f [(83, ci83), (114, ci114)], 25⟩
noncomputable def ci85_114 : CInfo := ⟨(plains 2), TyTup [.sl .Note, .c2 114 113 .Note], TyTup [.v .int], decTup [.sl .Note, .c2 114 113 .Note], fun x => (fun (a0 : List G.Note) (a1 : G.Note × G.Note) => cnt2O pT2 a0 a1) x.1 x.2, flatTup [.v .int], [(false, 1)], []⟩
theorem e85_114 (x : TyTup [.sl .Note, .c2 114 113 .Note]) : evalF C85_114 Try.f85 (Try.f85.body.getD .skip) an85_114 (plains 2) [] [(false, 1)] [.v .int] (encTup [.sl .Note, .c2 114 113 .Note] x) = impl_count_impl_turnFits_2.raw x.1 x.2 := by kernel_rfl
theorem c85_114 : Contract Try.prog 85 ci85_114 :=
  evalF_ok (C := C85_114) (tnOk_of tn_mixed tn_ok _ _) (phi_cons c83 (phi_cons c114 phi_nil)) Try.func85 (by kernel_rfl : Try.f85.body = some (Try.f85.body.getD .skip)) (by kernel_rfl) (by kernel_rfl) an85_114 (plains 2) [] [(false, 1)] [.sl .Note, .c2 114 113 .Note] [.v .int] (fun x => (fun (a0 : List G.Note) (a1 : G.Note × G.Note) => cnt2O pT2 a0 a1) x.1 x.2) rfl (by kernel_rfl)
    fun x r hb h => (e85_114 x).trans (impl_count_impl_turnFits_2.ok hb h)

def an85_115 : An := ⟨[(1310727, ⟨[.slot 5 (.v .int)], [(21, 22)], []⟩)], [(0, ⟨[.slot 5 (.v .int)], [(7, 7), (10, 23)], []⟩)], [(3, ⟨[.slot 5 (.v .int), .slot 10 (.v .int)], [(7, 7), (11, 23)], []⟩)], [(5, ⟨[.slot 20 (.v .bool)], [(14, 19)], []⟩)], []⟩
noncomputable def C85_115 : Cx := ⟨Try.prog, tnT, fun f => lookC f [(83, ci83), (115, ci115)], 25⟩
noncomputable def ci85_115 : CInfo := ⟨(plains 2), TyTup [.sl .Note, .c2 115 113 .Note], TyTup [.v .int], decTup [.sl .Note, .c2 115 113 .Note], fun x => (fun (a0 : List G.Note) (a1 : G.Note × G.Note) => cnt2O pT3 a0 a1) x.1 x.2, flatTup [.v .int], [(false, 1)], []⟩
theorem e85_115 (x : TyTup [.sl .Note, .c2 115 113 .Note]) : evalF C85_115 Try.f85 (Try.f85.body.getD .skip) an85_115 (plains 2) [] [(false, 1)] [.v .int] (encTup [.sl .Note, .c2 115 113 .Note] x) = impl_count_impl_turnFits_3.raw x.1 x.2 := by kernel_rfl
theorem c85_115 : Contract Try.prog 85 ci85_115 :=
  evalF_ok (C := C85_115) (tnOk_of tn_mixed tn_ok _ _) (phi_cons c83 (phi_cons c115 phi_nil)) Try.func85 (by kernel_rfl : Try.f85.body = some (Try.f85.body.getD .skip)) (by kernel_rfl) (by kernel_rfl) an85_115 (plains 2) [] [(false, 1)] [.sl .Note, .c2 115 113 .Note] [.v .int] (fun x => (fun (a0 : List G.Note) (a1 : G.Note × G.Note) => cnt2O pT3 a0 a1) x.1 x.2) rfl (by kernel_rfl)
    fun x r hb h => (e85_115 x).trans (impl_count_impl_turnFits_3.ok hb h)

def an85_116 : An := ⟨[(1310727, ⟨[.slot 5 (.v .int)], [(21, 22)], []⟩)], [(0, ⟨[.slot 5 (.v .int)], [(7, 7), (10, 23)], []⟩)], [(3, ⟨[.slot 5 (.v .int), .slot 10 (.v .int)], [(7, 7), (11, 23)], []⟩)], [(5, ⟨[.slot 20 (.v .bool)], [(14, 19)], []⟩)], []⟩
noncomputable def C85_116 : Cx := ⟨Try.prog, tnT, fun f => lookC f [(83, ci83), (116, ci116)], 25⟩
noncomputable def ci85_116 : CInfo := ⟨(plains 2), TyTup [.sl .Note, .c2 116 113 .Note], TyTup [.v .int], decTup [.sl .Note, .c2 116 113 .Note], fun x => (fun (a0 : List G.Note) (a1 : G.Note × G.Note) => cnt2O pT4 a0 a1) x.1 x.2, flatTup [.v .int], [(false, 1)], []⟩
theorem e85_116 (x : TyTup [.sl .Note, .c2 116 113 .Note]) : evalF C85_116 Try.f85 (Try.f85.body.getD .skip) an85_116 (plains 2) [] [(false, 1)] [.v .int] (encTup [.sl .Note, .c2 116 113 .Note] x) = impl_count_impl_turnFits_4.raw x.1 x.2 := by kernel_rfl
theorem c85_116 : Contract Try.prog 85 ci85_116 :=
  evalF_ok (C := C85_116) (tnOk_of tn_mixed tn_ok _ _) (phi_cons c83 (phi_cons c116 phi_nil)) Try.func85 (by kernel_rfl : Try.f85.body = some (Try.f85.body.getD .skip)) (by kernel_rfl) (by kernel_rfl) an85_116 (plains 2) [] [(false, 1)] [.sl .Note, .c2 116 113 .Note] [.v .int] (fun x => (fun (a0 : List G.Note) (a1 : G.Note × G.Note) => cnt2O pT4 a0 a1) x.1 x.2) rfl (by kernel_rfl)
    fun x r hb h => (e85_116 x).trans (impl_count_impl_turnFits_4.ok hb h)

def an89 : An := ⟨[], [], [], [(5, ⟨[.slot 4 (.v .bool)], [(19, 29)], []⟩), (7, ⟨[.slot 4 (.v .bool)], [(33, 38)], []⟩)], []⟩
noncomputable def C89 : Cx := ⟨Try.prog, tnT, fun f => lookC f [(120586325, ci85_114), (121634901, ci85_115), (122683477, ci85_116)], 39⟩
noncomputable def ci89 : CInfo := ⟨(plains 2), TyTup [.sl .Note, .v .Note], TyTup [.v .bool], decTup [.sl .Note, .v .Note], fun x => (fun (a0 : List G.Note) (a1 : G.Note) => fitO turnFits a0 a1) x.1 x.2, flatTup [.v .bool], [(false, 1)], []⟩
theorem e89 (x : TyTup [.sl .Note, .v .Note]) : evalF C89 Try.f89 (Try.f89.body.getD .skip) an89 (plains 2) [] [(false, 1)] [.v .bool] (encTup [.sl .Note, .v .Note] x) = impl_turnFits.raw x.1 x.2 := by kernel_rfl
theorem c89 : Contract Try.prog 89 ci89 :=
  evalF_ok (C := C89) (tnOk_of tn_mixed tn_ok _ _) (phi_cons c85_114 (phi_cons c85_115 (phi_cons c85_116 phi_nil))) Try.func89 (by kernel_rfl : Try.f89.body = some (Try.f89.body.getD .skip)) (by kernel_rfl) (by kernel_rfl) an89 (plains 2) [] [(false, 1)] [.sl .Note, .v .Note] [.v .bool] (fun x => (fun (a0 : List G.Note) (a1 : G.Note) => fitO turnFits a0 a1) x.1 x.2) rfl (by kernel_rfl)
    fun x r hb h => (e89 x).trans (impl_turnFits.ok hb h)

def an90 : An := ⟨[], [], [], [(1, ⟨[.slot 3 (.v .bool)], [(4, 20)], []⟩)], []⟩
noncomputable def C90 : Cx := ⟨Try.prog, tnT, fun f => lookC f [(75, ci75)], 21⟩
noncomputable def ci90 : CInfo := ⟨(plains 2), TyTup [.v .Note, .pt .Note], TyTup [.v .bool], decTup [.v .Note, .pt .Note], fun x => (fun (a0 : G.Note) (a1 : G.Note) => twoO pAsk a0 a1) x.1 x.2, flatTup [.v .bool], [(false, 1)], []⟩
theorem e90 (x : TyTup [.v .Note, .pt .Note]) : evalF C90 Try.f90 (Try.f90.body.getD .skip) an90 (plains 2) [] [(false, 1)] [.v .bool] (encTup [.v .Note, .pt .Note] x) = impl_Fits_3.raw x.1 x.2 := by kernel_rfl
theorem c90 : Contract Try.prog 90 ci90 :=
  evalF_ok (C := C90) (tnOk_of tn_mixed tn_ok _ _) (phi_cons c75 phi_nil) Try.func90 (by kernel_rfl : Try.f90.body = some (Try.f90.body.getD .skip)) (by kernel_rfl) (by kernel_rfl) an90 (plains 2) [] [(false, 1)] [.v .Note, .pt .Note] [.v .bool] (fun x => (fun (a0 : G.Note) (a1 : G.Note) => twoO pAsk a0 a1) x.1 x.2) rfl (by kernel_rfl)
    fun x r hb h => (e90 x).trans (impl_Fits_3.ok hb h)

def an117 : An := ⟨[], [], [], [(1, ⟨[.slot 3 (.v .bool)], [(4, 20)], []⟩)], []⟩
noncomputable def C117 : Cx := ⟨Try.prog, tnT, fun f => lookC f [(75, ci75)], 21⟩
noncomputable def ci117 : CInfo := ⟨(plains 2), TyTup [.v .Note, .pt .Note], TyTup [.v .bool], decTup [.v .Note, .pt .Note], fun x => (fun (a0 : G.Note) (a1 : G.Note) => twoO pSay a0 a1) x.1 x.2, flatTup [.v .bool], [(false, 1)], []⟩
theorem e117 (x : TyTup [.v .Note, .pt .Note]) : evalF C117 Try.f117 (Try.f117.body.getD .skip) an117 (plains 2) [] [(false, 1)] [.v .bool] (encTup [.v .Note, .pt .Note] x) = impl_moveFits_1.raw x.1 x.2 := by kernel_rfl
theorem c117 : Contract Try.prog 117 ci117 :=
  evalF_ok (C := C117) (tnOk_of tn_mixed tn_ok _ _) (phi_cons c75 phi_nil) Try.func117 (by kernel_rfl : Try.f117.body = some (Try.f117.body.getD .skip)) (by kernel_rfl) (by kernel_rfl) an117 (plains 2) [] [(false, 1)] [.v .Note, .pt .Note] [.v .bool] (fun x => (fun (a0 : G.Note) (a1 : G.Note) => twoO pSay a0 a1) x.1 x.2) rfl (by kernel_rfl)
    fun x r hb h => (e117 x).trans (impl_moveFits_1.ok hb h)

def an118 : An := ⟨[], [], [], [(1, ⟨[.slot 3 (.v .bool)], [(4, 13)], []⟩)], []⟩
noncomputable def C118 : Cx := ⟨Try.prog, tnT, fun f => lookC f [(75, ci75)], 14⟩
noncomputable def ci118 : CInfo := ⟨(plains 2), TyTup [.v .Note, .pt .Note], TyTup [.v .bool], decTup [.v .Note, .pt .Note], fun x => (fun (a0 : G.Note) (a1 : G.Note) => twoO pMove a0 a1) x.1 x.2, flatTup [.v .bool], [(false, 1)], []⟩
theorem e118 (x : TyTup [.v .Note, .pt .Note]) : evalF C118 Try.f118 (Try.f118.body.getD .skip) an118 (plains 2) [] [(false, 1)] [.v .bool] (encTup [.v .Note, .pt .Note] x) = impl_moveFits_2.raw x.1 x.2 := by kernel_rfl
theorem c118 : Contract Try.prog 118 ci118 :=
  evalF_ok (C := C118) (tnOk_of tn_mixed tn_ok _ _) (phi_cons c75 phi_nil) Try.func118 (by kernel_rfl : Try.f118.body = some (Try.f118.body.getD .skip)) (by kernel_rfl) (by kernel_rfl) an118 (plains 2) [] [(false, 1)] [.v .Note, .pt .Note] [.v .bool] (fun x => (fun (a0 : G.Note) (a1 : G.Note) => twoO pMove a0 a1) x.1 x.2) rfl (by kernel_rfl)
    fun x r hb h => (e118 x).trans (impl_moveFits_2.ok hb h)

def an85_117 : An := ⟨[(1310727, ⟨[.slot 5 (.v .int)], [(21, 22)], []⟩)], [(0, ⟨[.slot 5 (.v .int)], [(7, 7), (10, 23)], []⟩)], [(3, ⟨[.slot 5 (.v .int), .slot 10 (.v .int)], [(7, 7), (11, 23)], []⟩)], [(5, ⟨[.slot 20 (.v .bool)], [(14, 19)], []⟩)], []⟩
noncomputable def C85_117 : Cx := ⟨Try.prog, tnT, fun f => lookC f [(83, ci83), (117, ci117)], 25⟩
noncomputable def ci85_117 : CInfo := ⟨(plains 2), TyTup [.sl .Note, .c1 117 .Note], TyTup [.v .int], decTup [.sl .Note, .c1 117 .Note], fun x => (fun (a0 : List G.Note) (a1 : G.Note) => cntO pSay a0 a1) x.1 x.2, flatTup [.v .int], [(false, 1)], []⟩
theorem e85_117 (x : TyTup [.sl .Note, .c1 117 .Note]) : evalF C85_117 Try.f85 (Try.f85.body.getD .skip) an85_117 (plains 2) [] [(false, 1)] [.v .int] (encTup [.sl .Note, .c1 117 .Note] x) = impl_count_impl_moveFits_1.raw x.1 x.2 := by kernel_rfl
theorem c85_117 : Contract Try.prog 85 ci85_117 :=
  evalF_ok (C := C85_117) (tnOk_of tn_mixed tn_ok _ _) (phi_cons c83 (phi_cons c117 phi_nil)) Try.func85 (by kernel_rfl : Try.f85.body = some (Try.f85.body.getD .skip)) (by kernel_rfl) (by kernel_rfl) an85_117 (plains 2) [] [(false, 1)] [.sl .Note, .c1 117 .Note] [.v .int] (fun x => (fun (a0 : List G.Note) (a1 : G.Note) => cntO pSay a0 a1) x.1 x.2) rfl (by kernel_rfl)
    fun x r hb h => (e85_117 x).trans (impl_count_impl_moveFits_1.ok hb h)

def an85_118 : An := ⟨[(1310727, ⟨[.slot 5 (.v .int)], [(21, 22)], []⟩)], [(0, ⟨[.slot 5 (.v .int)], [(7, 7), (10, 23)], []⟩)], [(3, ⟨[.slot 5 (.v .int), .slot 10 (.v .int)], [(7, 7), (11, 23)], []⟩)], [(5, ⟨[.slot 20 (.v .bool)], [(14, 19)], []⟩)], []⟩
noncomputable def C85_118 : Cx := ⟨Try.prog, tnT, fun f => lookC f [(83, ci83), (118, ci118)], 25⟩
noncomputable def ci85_118 : CInfo := ⟨(plains 2), TyTup [.sl .Note, .c1 118 .Note], TyTup [.v .int], decTup [.sl .Note, .c1 118 .Note], fun x => (fun (a0 : List G.Note) (a1 : G.Note) => cntO pMove a0 a1) x.1 x.2, flatTup [.v .int], [(false, 1)], []⟩
theorem e85_118 (x : TyTup [.sl .Note, .c1 118 .Note]) : evalF C85_118 Try.f85 (Try.f85.body.getD .skip) an85_118 (plains 2) [] [(false, 1)] [.v .int] (encTup [.sl .Note, .c1 118 .Note] x) = impl_count_impl_moveFits_2.raw x.1 x.2 := by kernel_rfl
theorem c85_118 : Contract Try.prog 85 ci85_118 :=
  evalF_ok (C := C85_118) (tnOk_of tn_mixed tn_ok _ _) (phi_cons c83 (phi_cons c118 phi_nil)) Try.func85 (by kernel_rfl : Try.f85.body = some (Try.f85.body.getD .skip)) (by kernel_rfl) (by kernel_rfl) an85_118 (plains 2) [] [(false, 1)] [.sl .Note, .c1 118 .Note] [.v .int] (fun x => (fun (a0 : List G.Note) (a1 : G.Note) => cntO pMove a0 a1) x.1 x.2) rfl (by kernel_rfl)
    fun x r hb h => (e85_118 x).trans (impl_count_impl_moveFits_2.ok hb h)

def an91 : An := ⟨[(2097160, ⟨[.slot 5 (.v .int), .slot 6 (.v .int)], [(33, 35)], []⟩)], [(0, ⟨[.slot 5 (.v .int), .slot 6 (.v .int)], [(7, 8), (14, 36)], []⟩)], [(4, ⟨[.slot 5 (.v .int), .slot 6 (.v .int), .slot 14 (.v .int)], [(7, 8), (15, 36)], []⟩)], [(6, ⟨[.slot 32 (.v .bool)], [(19, 31)], []⟩), (15, ⟨[.slot 4 (.v .bool)], [(52, 79)], []⟩)], []⟩
noncomputable def C91 : Cx := ⟨Try.prog, tnT, fun f => lookC f [(58, ci58), (75, ci75), (83, ci83), (123732053, ci85_117), (124780629, ci85_118)], 80⟩
noncomputable def ci91 : CInfo := ⟨(plains 2), TyTup [.sl .Note, .v .Note], TyTup [.v .bool], decTup [.sl .Note, .v .Note], fun x => (fun (a0 : List G.Note) (a1 : G.Note) => fitO moveFits a0 a1) x.1 x.2, flatTup [.v .bool], [(false, 1)], []⟩
theorem e91 (x : TyTup [.sl .Note, .v .Note]) : evalF C91 Try.f91 (Try.f91.body.getD .skip) an91 (plains 2) [] [(false, 1)] [.v .bool] (encTup [.sl .Note, .v .Note] x) = impl_moveFits.raw x.1 x.2 := by kernel_rfl
theorem c91 : Contract Try.prog 91 ci91 :=
  evalF_ok (C := C91) (tnOk_of tn_mixed tn_ok _ _) (phi_cons c58 (phi_cons c75 (phi_cons c83 (phi_cons c85_117 (phi_cons c85_118 phi_nil))))) Try.func91 (by kernel_rfl : Try.f91.body = some (Try.f91.body.getD .skip)) (by kernel_rfl) (by kernel_rfl) an91 (plains 2) [] [(false, 1)] [.sl .Note, .v .Note] [.v .bool] (fun x => (fun (a0 : List G.Note) (a1 : G.Note) => fitO moveFits a0 a1) x.1 x.2) rfl (by kernel_rfl)
    fun x r hb h => (e91 x).trans (impl_moveFits.ok hb h)

def an85_86 : An := ⟨[(1310727, ⟨[.slot 5 (.v .int)], [(21, 22)], []⟩)], [(0, ⟨[.slot 5 (.v .int)], [(7, 7), (10, 23)], []⟩)], [(3, ⟨[.slot 5 (.v .int), .slot 10 (.v .int)], [(7, 7), (11, 23)], []⟩)], [(5, ⟨[.slot 20 (.v .bool)], [(14, 19)], []⟩)], []⟩
noncomputable def C85_86 : Cx := ⟨Try.prog, tnT, fun f => lookC f [(83, ci83), (86, ci86)], 25⟩
noncomputable def ci85_86 : CInfo := ⟨(plains 2), TyTup [.sl .Note, .c1 86 .Note], TyTup [.v .int], decTup [.sl .Note, .c1 86 .Note], fun x => (fun (a0 : List G.Note) (a1 : G.Note) => cntO pServe a0 a1) x.1 x.2, flatTup [.v .int], [(false, 1)], []⟩
theorem e85_86 (x : TyTup [.sl .Note, .c1 86 .Note]) : evalF C85_86 Try.f85 (Try.f85.body.getD .skip) an85_86 (plains 2) [] [(false, 1)] [.v .int] (encTup [.sl .Note, .c1 86 .Note] x) = impl_count_impl_Fits_1.raw x.1 x.2 := by kernel_rfl
theorem c85_86 : Contract Try.prog 85 ci85_86 :=
  evalF_ok (C := C85_86) (tnOk_of tn_mixed tn_ok _ _) (phi_cons c83 (phi_cons c86 phi_nil)) Try.func85 (by kernel_rfl : Try.f85.body = some (Try.f85.body.getD .skip)) (by kernel_rfl) (by kernel_rfl) an85_86 (plains 2) [] [(false, 1)] [.sl .Note, .c1 86 .Note] [.v .int] (fun x => (fun (a0 : List G.Note) (a1 : G.Note) => cntO pServe a0 a1) x.1 x.2) rfl (by kernel_rfl)
    fun x r hb h => (e85_86 x).trans (impl_count_impl_Fits_1.ok hb h)

def an85_87 : An := ⟨[(1310727, ⟨[.slot 5 (.v .int)], [(21, 22)], []⟩)], [(0, ⟨[.slot 5 (.v .int)], [(7, 7), (10, 23)], []⟩)], [(3, ⟨[.slot 5 (.v .int), .slot 10 (.v .int)], [(7, 7), (11, 23)], []⟩)], [(5, ⟨[.slot 20 (.v .bool)], [(14, 19)], []⟩)], []⟩
noncomputable def C85_87 : Cx := ⟨Try.prog, tnT, fun f => lookC f [(83, ci83), (87, ci87)], 25⟩
noncomputable def ci85_87 : CInfo := ⟨(plains 2), TyTup [.sl .Note, .c1 87 .Note], TyTup [.v .int], decTup [.sl .Note, .c1 87 .Note], fun x => (fun (a0 : List G.Note) (a1 : G.Note) => cntO pUp a0 a1) x.1 x.2, flatTup [.v .int], [(false, 1)], []⟩
theorem e85_87 (x : TyTup [.sl .Note, .c1 87 .Note]) : evalF C85_87 Try.f85 (Try.f85.body.getD .skip) an85_87 (plains 2) [] [(false, 1)] [.v .int] (encTup [.sl .Note, .c1 87 .Note] x) = impl_count_impl_Fits_2.raw x.1 x.2 := by kernel_rfl
theorem c85_87 : Contract Try.prog 85 ci85_87 :=
  evalF_ok (C := C85_87) (tnOk_of tn_mixed tn_ok _ _) (phi_cons c83 (phi_cons c87 phi_nil)) Try.func85 (by kernel_rfl : Try.f85.body = some (Try.f85.body.getD .skip)) (by kernel_rfl) (by kernel_rfl) an85_87 (plains 2) [] [(false, 1)] [.sl .Note, .c1 87 .Note] [.v .int] (fun x => (fun (a0 : List G.Note) (a1 : G.Note) => cntO pUp a0 a1) x.1 x.2) rfl (by kernel_rfl)
    fun x r hb h => (e85_87 x).trans (impl_count_impl_Fits_2.ok hb h)

def an85_90 : An := ⟨[(1310727, ⟨[.slot 5 (.v .int)], [(21, 22)], []⟩)], [(0, ⟨[.slot 5 (.v .int)], [(7, 7), (10, 23)], []⟩)], [(3, ⟨[.slot 5 (.v .int), .slot 10 (.v .int)], [(7, 7), (11, 23)], []⟩)], [(5, ⟨[.slot 20 (.v .bool)], [(14, 19)], []⟩)], []⟩
noncomputable def C85_90 : Cx := ⟨Try.prog, tnT, fun f => lookC f [(83, ci83), (90, ci90)], 25⟩
noncomputable def ci85_90 : CInfo := ⟨(plains 2), TyTup [.sl .Note, .c1 90 .Note], TyTup [.v .int], decTup [.sl .Note, .c1 90 .Note], fun x => (fun (a0 : List G.Note) (a1 : G.Note) => cntO pAsk a0 a1) x.1 x.2, flatTup [.v .int], [(false, 1)], []⟩
theorem e85_90 (x : TyTup [.sl .Note, .c1 90 .Note]) : evalF C85_90 Try.f85 (Try.f85.body.getD .skip) an85_90 (plains 2) [] [(false, 1)] [.v .int] (encTup [.sl .Note, .c1 90 .Note] x) = impl_count_impl_Fits_3.raw x.1 x.2 := by kernel_rfl
theorem c85_90 : Contract Try.prog 85 ci85_90 :=
  evalF_ok (C := C85_90) (tnOk_of tn_mixed tn_ok _ _) (phi_cons c83 (phi_cons c90 phi_nil)) Try.func85 (by kernel_rfl : Try.f85.body = some (Try.f85.body.getD .skip)) (by kernel_rfl) (by kernel_rfl) an85_90 (plains 2) [] [(false, 1)] [.sl .Note, .c1 90 .Note] [.v .int] (fun x => (fun (a0 : List G.Note) (a1 : G.Note) => cntO pAsk a0 a1) x.1 x.2) rfl (by kernel_rfl)
    fun x r hb h => (e85_90 x).trans (impl_count_impl_Fits_3.ok hb h)

def an50 : An := ⟨[], [], [], [(1, ⟨[.slot 24 (.v .bool)], [(9, 23)], []⟩), (12, ⟨[.slot 4 (.v .bool)], [(51, 56)], []⟩)], []⟩
noncomputable def C50 : Cx := ⟨Try.prog, tnT, fun f => lookC f [(36, ci36), (83, ci83), (84, ci84), (88, ci88), (89, ci89), (91, ci91), (91226197, ci85_86), (92274773, ci85_87), (95420501, ci85_90)], 78⟩
noncomputable def ci50 : CInfo := ⟨(plains 2), TyTup [.sl .Note, .v .int], TyTup [.v .bool], decTup [.sl .Note, .v .int], fun x => (fun (a0 : List G.Note) (a1 : Int) => fitsO a0 a1) x.1 x.2, flatTup [.v .bool], [(false, 1)], []⟩
theorem e50 (x : TyTup [.sl .Note, .v .int]) : evalF C50 Try.f50 (Try.f50.body.getD .skip) an50 (plains 2) [] [(false, 1)] [.v .bool] (encTup [.sl .Note, .v .int] x) = impl_Fits.raw x.1 x.2 := by kernel_rfl
theorem c50 : Contract Try.prog 50 ci50 :=
  evalF_ok (C := C50) (tnOk_of tn_mixed tn_ok _ _) (phi_cons c36 (phi_cons c83 (phi_cons c84 (phi_cons c88 (phi_cons c89 (phi_cons c91 (phi_cons c85_86 (phi_cons c85_87 (phi_cons c85_90 phi_nil))))))))) Try.func50 (by kernel_rfl : Try.f50.body = some (Try.f50.body.getD .skip)) (by kernel_rfl) (by kernel_rfl) an50 (plains 2) [] [(false, 1)] [.sl .Note, .v .int] [.v .bool] (fun x => (fun (a0 : List G.Note) (a1 : Int) => fitsO a0 a1) x.1 x.2) rfl (by kernel_rfl)
    fun x r hb h => (e50 x).trans (impl_Fits.ok hb h)

def an38 : An := ⟨[], [(0, ⟨[], [(4, 5), (11, 25)], []⟩)], [(4, ⟨[.slot 5 (.v .int)], [(4, 4), (11, 25)], []⟩)], [], []⟩
noncomputable def C38 : Cx := ⟨Try.prog, tnT, fun f => lookC f [], 26⟩
noncomputable def ci38 : CInfo := ⟨(plains 2), TyTup [.sl .byte, .sl .byte], TyTup [.v .bool], decTup [.sl .byte, .sl .byte], fun x => some ((fun (a0 : List UInt8) (a1 : List UInt8) => eqq a0 a1) x.1 x.2), flatTup [.v .bool], [(false, 1)], []⟩
theorem e38 (x : TyTup [.sl .byte, .sl .byte]) : evalF C38 Try.f38 (Try.f38.body.getD .skip) an38 (plains 2) [] [(false, 1)] [.v .bool] (encTup [.sl .byte, .sl .byte] x) = laws_eqByteS.raw x.1 x.2 := by kernel_rfl
theorem c38 : Contract Try.prog 38 ci38 :=
  evalF_ok (C := C38) (tnOk_of tn_mixed tn_ok _ _) phi_nil Try.func38 (by kernel_rfl : Try.f38.body = some (Try.f38.body.getD .skip)) (by kernel_rfl) (by kernel_rfl) an38 (plains 2) [] [(false, 1)] [.sl .byte, .sl .byte] [.v .bool] (fun x => some ((fun (a0 : List UInt8) (a1 : List UInt8) => eqq a0 a1) x.1 x.2)) rfl (by kernel_rfl)
    fun x r hb h => (e38 x).trans ((laws_eqByteS.ok hb).trans h)

def an20 : An := ⟨[], [], [], [], []⟩
noncomputable def C20 : Cx := ⟨Try.prog, tnT, fun f => lookC f [], 15⟩
noncomputable def ci20 : CInfo := ⟨(plains 2), TyTup [.v .Addr, .v .Addr], TyTup [.v .bool], decTup [.v .Addr, .v .Addr], fun x => some ((fun (a0 : G.Addr) (a1 : G.Addr) => eqq a0 a1) x.1 x.2), flatTup [.v .bool], [(false, 1)], []⟩
theorem e20 (x : TyTup [.v .Addr, .v .Addr]) : evalF C20 Try.f20 (Try.f20.body.getD .skip) an20 (plains 2) [] [(false, 1)] [.v .bool] (encTup [.v .Addr, .v .Addr] x) = laws_eqAddr.raw x.1 x.2 := by kernel_rfl
theorem c20 : Contract Try.prog 20 ci20 :=
  evalF_ok (C := C20) (tnOk_of tn_mixed tn_ok _ _) phi_nil Try.func20 (by kernel_rfl : Try.f20.body = some (Try.f20.body.getD .skip)) (by kernel_rfl) (by kernel_rfl) an20 (plains 2) [] [(false, 1)] [.v .Addr, .v .Addr] [.v .bool] (fun x => some ((fun (a0 : G.Addr) (a1 : G.Addr) => eqq a0 a1) x.1 x.2)) rfl (by kernel_rfl)
    fun x r hb h => (e20 x).trans ((laws_eqAddr.ok hb).trans h)

def an76 : An := ⟨[], [], [], [], []⟩
noncomputable def C76 : Cx := ⟨Try.prog, tnT, fun f => lookC f [(20, ci20), (38, ci38)], 65⟩
noncomputable def ci76 : CInfo := ⟨(plains 2), TyTup [.v .Note, .v .Note], TyTup [.v .bool], decTup [.v .Note, .v .Note], fun x => some ((fun (a0 : G.Note) (a1 : G.Note) => eqq a0 a1) x.1 x.2), flatTup [.v .bool], [(false, 1)], []⟩
theorem e76 (x : TyTup [.v .Note, .v .Note]) : evalF C76 Try.f76 (Try.f76.body.getD .skip) an76 (plains 2) [] [(false, 1)] [.v .bool] (encTup [.v .Note, .v .Note] x) = laws_eqNote.raw x.1 x.2 := by kernel_rfl
theorem c76 : Contract Try.prog 76 ci76 :=
  evalF_ok (C := C76) (tnOk_of tn_mixed tn_ok _ _) (phi_cons c20 (phi_cons c38 phi_nil)) Try.func76 (by kernel_rfl : Try.f76.body = some (Try.f76.body.getD .skip)) (by kernel_rfl) (by kernel_rfl) an76 (plains 2) [] [(false, 1)] [.v .Note, .v .Note] [.v .bool] (fun x => some ((fun (a0 : G.Note) (a1 : G.Note) => eqq a0 a1) x.1 x.2)) rfl (by kernel_rfl)
    fun x r hb h => (e76 x).trans ((laws_eqNote.ok hb).trans h)

def an37 : An := ⟨[], [(0, ⟨[], [(4, 5), (11, 26)], []⟩)], [(4, ⟨[.slot 5 (.v .int)], [(4, 4), (11, 26)], []⟩)], [], []⟩
noncomputable def C37 : Cx := ⟨Try.prog, tnT, fun f => lookC f [(76, ci76)], 27⟩
noncomputable def ci37 : CInfo := ⟨(plains 2), TyTup [.sl .Note, .sl .Note], TyTup [.v .bool], decTup [.sl .Note, .sl .Note], fun x => some ((fun (a0 : List G.Note) (a1 : List G.Note) => eqq a0 a1) x.1 x.2), flatTup [.v .bool], [(false, 1)], []⟩
theorem e37 (x : TyTup [.sl .Note, .sl .Note]) : evalF C37 Try.f37 (Try.f37.body.getD .skip) an37 (plains 2) [] [(false, 1)] [.v .bool] (encTup [.sl .Note, .sl .Note] x) = laws_eqNoteS.raw x.1 x.2 := by kernel_rfl
theorem c37 : Contract Try.prog 37 ci37 :=
  evalF_ok (C := C37) (tnOk_of tn_mixed tn_ok _ _) (phi_cons c76 phi_nil) Try.func37 (by kernel_rfl : Try.f37.body = some (Try.f37.body.getD .skip)) (by kernel_rfl) (by kernel_rfl) an37 (plains 2) [] [(false, 1)] [.sl .Note, .sl .Note] [.v .bool] (fun x => some ((fun (a0 : List G.Note) (a1 : List G.Note) => eqq a0 a1) x.1 x.2)) rfl (by kernel_rfl)
    fun x r hb h => (e37 x).trans ((laws_eqNoteS.ok hb).trans h)

def an13 : An := ⟨[], [], [], [], []⟩
noncomputable def C13 : Cx := ⟨Try.prog, tnT, fun f => lookC f [(32, ci32), (34, ci34), (37, ci37), (49, ci49), (50, ci50)], 31⟩
noncomputable def ci13 : CInfo := ⟨(plains 2), TyTup [.sl .Note, .v .int], TyTup [.v .bool], decTup [.sl .Note, .v .int], fun x => some ((fun (a0 : List G.Note) (a1 : Int) => always2 a0 a1) x.1 x.2), flatTup [.v .bool], [(false, 1)], []⟩
theorem e13 (x : TyTup [.sl .Note, .v .int]) : evalF C13 Try.f13 (Try.f13.body.getD .skip) an13 (plains 2) [] [(false, 1)] [.v .bool] (encTup [.sl .Note, .v .int] x) = laws_FnExactFits.raw x.1 x.2 := by kernel_rfl
theorem c13 : Contract Try.prog 13 ci13 :=
  evalF_ok (C := C13) (tnOk_of tn_mixed tn_ok _ _) (phi_cons c32 (phi_cons c34 (phi_cons c37 (phi_cons c49 (phi_cons c50 phi_nil))))) Try.func13 (by kernel_rfl : Try.f13.body = some (Try.f13.body.getD .skip)) (by kernel_rfl) (by kernel_rfl) an13 (plains 2) [] [(false, 1)] [.sl .Note, .v .int] [.v .bool] (fun x => some ((fun (a0 : List G.Note) (a1 : Int) => always2 a0 a1) x.1 x.2)) rfl (by kernel_rfl)
    fun x r hb h => (e13 x).trans ((laws_FnExactFits.ok hb).trans h)

def an51 : An := ⟨[], [(0, ⟨[], [(2, 13)], []⟩)], [(2, ⟨[.slot 3 (.v .int)], [(2, 2), (4, 13)], []⟩)], [], []⟩
noncomputable def C51 : Cx := ⟨Try.prog, tnT, fun f => lookC f [(49, ci49)], 14⟩
noncomputable def ci51 : CInfo := ⟨(plains 1), TyTup [.sl .Note], TyTup [.v .bool], decTup [.sl .Note], fun x => (fun (a0 : List G.Note) => idealO a0) x, flatTup [.v .bool], [(false, 1)], []⟩
theorem e51 (x : TyTup [.sl .Note]) : evalF C51 Try.f51 (Try.f51.body.getD .skip) an51 (plains 1) [] [(false, 1)] [.v .bool] (encTup [.sl .Note] x) = spec_Ideal.raw x := by kernel_rfl
theorem c51 : Contract Try.prog 51 ci51 :=
  evalF_ok (C := C51) (tnOk_of tn_mixed tn_ok _ _) (phi_cons c49 phi_nil) Try.func51 (by kernel_rfl : Try.f51.body = some (Try.f51.body.getD .skip)) (by kernel_rfl) (by kernel_rfl) an51 (plains 1) [] [(false, 1)] [.sl .Note] [.v .bool] (fun x => (fun (a0 : List G.Note) => idealO a0) x) rfl (by kernel_rfl)
    fun x r hb h => (e51 x).trans (spec_Ideal.ok hb h)

def an52 : An := ⟨[], [(0, ⟨[], [(2, 3), (6, 13)], []⟩)], [(2, ⟨[.slot 6 (.v .int)], [(2, 3), (7, 13)], []⟩)], [], []⟩
noncomputable def C52 : Cx := ⟨Try.prog, tnT, fun f => lookC f [(50, ci50)], 14⟩
noncomputable def ci52 : CInfo := ⟨(plains 1), TyTup [.sl .Note], TyTup [.v .bool], decTup [.sl .Note], fun x => (fun (a0 : List G.Note) => idealO a0) x, flatTup [.v .bool], [(false, 1)], []⟩
theorem e52 (x : TyTup [.sl .Note]) : evalF C52 Try.f52 (Try.f52.body.getD .skip) an52 (plains 1) [] [(false, 1)] [.v .bool] (encTup [.sl .Note] x) = impl_Ideal.raw x := by kernel_rfl
theorem c52 : Contract Try.prog 52 ci52 :=
  evalF_ok (C := C52) (tnOk_of tn_mixed tn_ok _ _) (phi_cons c50 phi_nil) Try.func52 (by kernel_rfl : Try.f52.body = some (Try.f52.body.getD .skip)) (by kernel_rfl) (by kernel_rfl) an52 (plains 1) [] [(false, 1)] [.sl .Note] [.v .bool] (fun x => (fun (a0 : List G.Note) => idealO a0) x) rfl (by kernel_rfl)
    fun x r hb h => (e52 x).trans (impl_Ideal.ok hb h)

def an14 : An := ⟨[], [], [], [], []⟩
noncomputable def C14 : Cx := ⟨Try.prog, tnT, fun f => lookC f [(32, ci32), (34, ci34), (37, ci37), (51, ci51), (52, ci52)], 27⟩
noncomputable def ci14 : CInfo := ⟨(plains 1), TyTup [.sl .Note], TyTup [.v .bool], decTup [.sl .Note], fun x => some ((fun (a0 : List G.Note) => always a0) x), flatTup [.v .bool], [(false, 1)], []⟩
theorem e14 (x : TyTup [.sl .Note]) : evalF C14 Try.f14 (Try.f14.body.getD .skip) an14 (plains 1) [] [(false, 1)] [.v .bool] (encTup [.sl .Note] x) = laws_FnExactIdeal.raw x := by kernel_rfl
theorem c14 : Contract Try.prog 14 ci14 :=
  evalF_ok (C := C14) (tnOk_of tn_mixed tn_ok _ _) (phi_cons c32 (phi_cons c34 (phi_cons c37 (phi_cons c51 (phi_cons c52 phi_nil))))) Try.func14 (by kernel_rfl : Try.f14.body = some (Try.f14.body.getD .skip)) (by kernel_rfl) (by kernel_rfl) an14 (plains 1) [] [(false, 1)] [.sl .Note] [.v .bool] (fun x => some ((fun (a0 : List G.Note) => always a0) x)) rfl (by kernel_rfl)
    fun x r hb h => (e14 x).trans ((laws_FnExactIdeal.ok hb).trans h)

end Go.D

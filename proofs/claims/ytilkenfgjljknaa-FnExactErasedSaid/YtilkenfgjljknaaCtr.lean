/-
  The functions of the program: each computes what is said of it.
-/
import Derived.Test.YtilkenfgjljknaaN2
import Derived.Test.YtilkenfgjljknaaProg
import Derived.KernelRfl
namespace Go.D
open Go.Proofs

def tnT : TypeId → Option TN := fun t => look t [(3, .int), (5, .byte), (9, .str), (87, .Credit), (90, .Credit), (98, .Note), (100, .Note), (113, .Op), (114, .Op)]
theorem tn_mixed : Try.prog.follows .mixedOrders = true := by kernel_rfl
theorem tn_ok : tnAll Try.prog [(3, .int), (5, .byte), (9, .str), (87, .Credit), (90, .Credit), (98, .Note), (100, .Note), (113, .Op), (114, .Op)] = true := by kernel_rfl

def an67 : An := ⟨[], [], [], [], []⟩
noncomputable def C67 : Cx := ⟨Try.prog, tnT, fun f => lookC f [], 12⟩
noncomputable def ci67 : CInfo := ⟨(plains 2), TyTup [.sl .byte, .v .int], TyTup [.v .int], decTup [.sl .byte, .v .int], fun x => (fun (a0 : List UInt8) (a1 : Int) => szO a0 a1) x.1 x.2, flatTup [.v .int], [(false, 1)], []⟩
theorem e67 (x : TyTup [.sl .byte, .v .int]) : evalF C67 Try.f67 (Try.f67.body.getD .skip) an67 (plains 2) [] [(false, 1)] [.v .int] (encTup [.sl .byte, .v .int] x) = laws_szByteS.raw x.1 x.2 := by kernel_rfl
theorem c67 : Contract Try.prog 67 ci67 :=
  evalF_ok (C := C67) (tnOk_of tn_mixed tn_ok _ _) phi_nil Try.func67 (by kernel_rfl : Try.f67.body = some (Try.f67.body.getD .skip)) (by kernel_rfl) (by kernel_rfl) an67 (plains 2) [] [(false, 1)] [.sl .byte, .v .int] [.v .int] (fun x => (fun (a0 : List UInt8) (a1 : Int) => szO a0 a1) x.1 x.2) rfl (by kernel_rfl)
    fun x r hb h => (e67 x).trans (laws_szByteS.ok hb h)

def an72 : An := ⟨[], [], [], [], []⟩
noncomputable def C72 : Cx := ⟨Try.prog, tnT, fun f => lookC f [(67, ci67)], 30⟩
noncomputable def ci72 : CInfo := ⟨(plains 2), TyTup [.v .Note, .v .int], TyTup [.v .int], decTup [.v .Note, .v .int], fun x => (fun (a0 : G.Note) (a1 : Int) => szO a0 a1) x.1 x.2, flatTup [.v .int], [(false, 1)], []⟩
theorem e72 (x : TyTup [.v .Note, .v .int]) : evalF C72 Try.f72 (Try.f72.body.getD .skip) an72 (plains 2) [] [(false, 1)] [.v .int] (encTup [.v .Note, .v .int] x) = laws_szNote.raw x.1 x.2 := by kernel_rfl
theorem c72 : Contract Try.prog 72 ci72 :=
  evalF_ok (C := C72) (tnOk_of tn_mixed tn_ok _ _) (phi_cons c67 phi_nil) Try.func72 (by kernel_rfl : Try.f72.body = some (Try.f72.body.getD .skip)) (by kernel_rfl) (by kernel_rfl) an72 (plains 2) [] [(false, 1)] [.v .Note, .v .int] [.v .int] (fun x => (fun (a0 : G.Note) (a1 : Int) => szO a0 a1) x.1 x.2) rfl (by kernel_rfl)
    fun x r hb h => (e72 x).trans (laws_szNote.ok hb h)

def an32 : An := ⟨[], [(0, ⟨[.slot 1 (.v .int)], [(4, 5), (12, 25)], []⟩)], [(5, ⟨[.slot 1 (.v .int), .slot 5 (.v .int)], [(4, 4), (12, 25)], []⟩)], [], []⟩
noncomputable def C32 : Cx := ⟨Try.prog, tnT, fun f => lookC f [(72, ci72)], 27⟩
noncomputable def ci32 : CInfo := ⟨(plains 2), TyTup [.sl .Note, .v .int], TyTup [.v .int], decTup [.sl .Note, .v .int], fun x => (fun (a0 : List G.Note) (a1 : Int) => szO a0 a1) x.1 x.2, flatTup [.v .int], [(false, 1)], []⟩
theorem e32 (x : TyTup [.sl .Note, .v .int]) : evalF C32 Try.f32 (Try.f32.body.getD .skip) an32 (plains 2) [] [(false, 1)] [.v .int] (encTup [.sl .Note, .v .int] x) = laws_szNoteS.raw x.1 x.2 := by kernel_rfl
theorem c32 : Contract Try.prog 32 ci32 :=
  evalF_ok (C := C32) (tnOk_of tn_mixed tn_ok _ _) (phi_cons c72 phi_nil) Try.func32 (by kernel_rfl : Try.f32.body = some (Try.f32.body.getD .skip)) (by kernel_rfl) (by kernel_rfl) an32 (plains 2) [] [(false, 1)] [.sl .Note, .v .int] [.v .int] (fun x => (fun (a0 : List G.Note) (a1 : Int) => szO a0 a1) x.1 x.2) rfl (by kernel_rfl)
    fun x r hb h => (e32 x).trans (laws_szNoteS.ok hb h)

def an124 : An := ⟨[], [], [], [], []⟩
noncomputable def C124 : Cx := ⟨Try.prog, tnT, fun f => lookC f [], 12⟩
noncomputable def ci124 : CInfo := ⟨(plains 2), TyTup [.sl .int, .v .int], TyTup [.v .int], decTup [.sl .int, .v .int], fun x => (fun (a0 : List Int) (a1 : Int) => szO a0 a1) x.1 x.2, flatTup [.v .int], [(false, 1)], []⟩
theorem e124 (x : TyTup [.sl .int, .v .int]) : evalF C124 Try.f124 (Try.f124.body.getD .skip) an124 (plains 2) [] [(false, 1)] [.v .int] (encTup [.sl .int, .v .int] x) = laws_szIntS.raw x.1 x.2 := by kernel_rfl
theorem c124 : Contract Try.prog 124 ci124 :=
  evalF_ok (C := C124) (tnOk_of tn_mixed tn_ok _ _) phi_nil Try.func124 (by kernel_rfl : Try.f124.body = some (Try.f124.body.getD .skip)) (by kernel_rfl) (by kernel_rfl) an124 (plains 2) [] [(false, 1)] [.sl .int, .v .int] [.v .int] (fun x => (fun (a0 : List Int) (a1 : Int) => szO a0 a1) x.1 x.2) rfl (by kernel_rfl)
    fun x r hb h => (e124 x).trans (laws_szIntS.ok hb h)

def an119 : An := ⟨[], [], [], [], []⟩
noncomputable def C119 : Cx := ⟨Try.prog, tnT, fun f => lookC f [(124, ci124)], 12⟩
noncomputable def ci119 : CInfo := ⟨(plains 2), TyTup [.v .Win, .v .int], TyTup [.v .int], decTup [.v .Win, .v .int], fun x => (fun (a0 : G.Win) (a1 : Int) => szO a0 a1) x.1 x.2, flatTup [.v .int], [(false, 1)], []⟩
theorem e119 (x : TyTup [.v .Win, .v .int]) : evalF C119 Try.f119 (Try.f119.body.getD .skip) an119 (plains 2) [] [(false, 1)] [.v .int] (encTup [.v .Win, .v .int] x) = laws_szWin.raw x.1 x.2 := by kernel_rfl
theorem c119 : Contract Try.prog 119 ci119 :=
  evalF_ok (C := C119) (tnOk_of tn_mixed tn_ok _ _) (phi_cons c124 phi_nil) Try.func119 (by kernel_rfl : Try.f119.body = some (Try.f119.body.getD .skip)) (by kernel_rfl) (by kernel_rfl) an119 (plains 2) [] [(false, 1)] [.v .Win, .v .int] [.v .int] (fun x => (fun (a0 : G.Win) (a1 : Int) => szO a0 a1) x.1 x.2) rfl (by kernel_rfl)
    fun x r hb h => (e119 x).trans (laws_szWin.ok hb h)

def an92 : An := ⟨[], [], [], [], []⟩
noncomputable def C92 : Cx := ⟨Try.prog, tnT, fun f => lookC f [(67, ci67), (119, ci119)], 18⟩
noncomputable def ci92 : CInfo := ⟨(plains 2), TyTup [.v .Ep, .v .int], TyTup [.v .int], decTup [.v .Ep, .v .int], fun x => (fun (a0 : G.Ep) (a1 : Int) => szO a0 a1) x.1 x.2, flatTup [.v .int], [(false, 1)], []⟩
theorem e92 (x : TyTup [.v .Ep, .v .int]) : evalF C92 Try.f92 (Try.f92.body.getD .skip) an92 (plains 2) [] [(false, 1)] [.v .int] (encTup [.v .Ep, .v .int] x) = laws_szEp.raw x.1 x.2 := by kernel_rfl
theorem c92 : Contract Try.prog 92 ci92 :=
  evalF_ok (C := C92) (tnOk_of tn_mixed tn_ok _ _) (phi_cons c67 (phi_cons c119 phi_nil)) Try.func92 (by kernel_rfl : Try.f92.body = some (Try.f92.body.getD .skip)) (by kernel_rfl) (by kernel_rfl) an92 (plains 2) [] [(false, 1)] [.v .Ep, .v .int] [.v .int] (fun x => (fun (a0 : G.Ep) (a1 : Int) => szO a0 a1) x.1 x.2) rfl (by kernel_rfl)
    fun x r hb h => (e92 x).trans (laws_szEp.ok hb h)

def an53 : An := ⟨[], [], [], [], []⟩
noncomputable def C53 : Cx := ⟨Try.prog, tnT, fun f => lookC f [(67, ci67), (92, ci92)], 30⟩
noncomputable def ci53 : CInfo := ⟨(plains 2), TyTup [.v .Chan, .v .int], TyTup [.v .int], decTup [.v .Chan, .v .int], fun x => (fun (a0 : G.Chan) (a1 : Int) => szO a0 a1) x.1 x.2, flatTup [.v .int], [(false, 1)], []⟩
theorem e53 (x : TyTup [.v .Chan, .v .int]) : evalF C53 Try.f53 (Try.f53.body.getD .skip) an53 (plains 2) [] [(false, 1)] [.v .int] (encTup [.v .Chan, .v .int] x) = laws_szChan.raw x.1 x.2 := by kernel_rfl
theorem c53 : Contract Try.prog 53 ci53 :=
  evalF_ok (C := C53) (tnOk_of tn_mixed tn_ok _ _) (phi_cons c67 (phi_cons c92 phi_nil)) Try.func53 (by kernel_rfl : Try.f53.body = some (Try.f53.body.getD .skip)) (by kernel_rfl) (by kernel_rfl) an53 (plains 2) [] [(false, 1)] [.v .Chan, .v .int] [.v .int] (fun x => (fun (a0 : G.Chan) (a1 : Int) => szO a0 a1) x.1 x.2) rfl (by kernel_rfl)
    fun x r hb h => (e53 x).trans (laws_szChan.ok hb h)

def an35 : An := ⟨[], [(0, ⟨[.own 3 .byte], [(4, 4), (8, 20)], []⟩)], [(3, ⟨[.slot 4 (.v .int), .own 3 .byte], [(8, 20)], []⟩)], [], []⟩
noncomputable def C35 : Cx := ⟨Try.prog, tnT, fun f => lookC f [], 22⟩
noncomputable def ci35 : CInfo := ⟨(plains 1), TyTup [.sl .byte], TyTup [.sl .byte], decTup [.sl .byte], fun x => (fun (a0 : List UInt8) => cpy a0) x, flatTup [.sl .byte], [(false, 1)], [0]⟩
theorem e35 (x : TyTup [.sl .byte]) : evalF C35 Try.f35 (Try.f35.body.getD .skip) an35 (plains 1) [0] [(false, 1)] [.sl .byte] (encTup [.sl .byte] x) = laws_toByteS.raw x := by kernel_rfl
theorem c35 : Contract Try.prog 35 ci35 :=
  evalF_ok (C := C35) (tnOk_of tn_mixed tn_ok _ _) phi_nil Try.func35 (by kernel_rfl : Try.f35.body = some (Try.f35.body.getD .skip)) (by kernel_rfl) (by kernel_rfl) an35 (plains 1) [0] [(false, 1)] [.sl .byte] [.sl .byte] (fun x => (fun (a0 : List UInt8) => cpy a0) x) rfl (by kernel_rfl)
    fun x r hb h => (e35 x).trans (laws_toByteS.ok hb h)

def an24 : An := ⟨[], [], [], [], []⟩
noncomputable def C24 : Cx := ⟨Try.prog, tnT, fun f => lookC f [], 11⟩
noncomputable def ci24 : CInfo := ⟨(plains 1), TyTup [.v .Addr], TyTup [.v .Addr], decTup [.v .Addr], fun x => (fun (a0 : G.Addr) => cpy a0) x, flatTup [.v .Addr], [(true, 2)], []⟩
theorem e24 (x : TyTup [.v .Addr]) : evalF C24 Try.f24 (Try.f24.body.getD .skip) an24 (plains 1) [] [(true, 2)] [.v .Addr] (encTup [.v .Addr] x) = laws_toAddr.raw x := by kernel_rfl
theorem c24 : Contract Try.prog 24 ci24 :=
  evalF_ok (C := C24) (tnOk_of tn_mixed tn_ok _ _) phi_nil Try.func24 (by kernel_rfl : Try.f24.body = some (Try.f24.body.getD .skip)) (by kernel_rfl) (by kernel_rfl) an24 (plains 1) [] [(true, 2)] [.v .Addr] [.v .Addr] (fun x => (fun (a0 : G.Addr) => cpy a0) x) rfl (by kernel_rfl)
    fun x r hb h => (e24 x).trans (laws_toAddr.ok hb h)

def an74 : An := ⟨[], [], [], [], []⟩
noncomputable def C74 : Cx := ⟨Try.prog, tnT, fun f => lookC f [(24, ci24), (35, ci35)], 43⟩
noncomputable def ci74 : CInfo := ⟨(plains 1), TyTup [.v .Note], TyTup [.v .Note], decTup [.v .Note], fun x => (fun (a0 : G.Note) => cpy a0) x, flatTup [.v .Note], [(true, 12)], [3, 4, 7, 8]⟩
theorem e74 (x : TyTup [.v .Note]) : evalF C74 Try.f74 (Try.f74.body.getD .skip) an74 (plains 1) [3, 4, 7, 8] [(true, 12)] [.v .Note] (encTup [.v .Note] x) = laws_toNote.raw x := by kernel_rfl
theorem c74 : Contract Try.prog 74 ci74 :=
  evalF_ok (C := C74) (tnOk_of tn_mixed tn_ok _ _) (phi_cons c24 (phi_cons c35 phi_nil)) Try.func74 (by kernel_rfl : Try.f74.body = some (Try.f74.body.getD .skip)) (by kernel_rfl) (by kernel_rfl) an74 (plains 1) [3, 4, 7, 8] [(true, 12)] [.v .Note] [.v .Note] (fun x => (fun (a0 : G.Note) => cpy a0) x) rfl (by kernel_rfl)
    fun x r hb h => (e74 x).trans (laws_toNote.ok hb h)

def an34 : An := ⟨[], [(0, ⟨[.own 3 .Note], [(4, 4), (8, 21)], []⟩)], [(3, ⟨[.slot 4 (.v .int), .own 3 .Note], [(8, 21)], []⟩)], [], []⟩
noncomputable def C34 : Cx := ⟨Try.prog, tnT, fun f => lookC f [(74, ci74)], 23⟩
noncomputable def ci34 : CInfo := ⟨(plains 1), TyTup [.sl .Note], TyTup [.sl .Note], decTup [.sl .Note], fun x => (fun (a0 : List G.Note) => cpy a0) x, flatTup [.sl .Note], [(false, 1)], [0]⟩
theorem e34 (x : TyTup [.sl .Note]) : evalF C34 Try.f34 (Try.f34.body.getD .skip) an34 (plains 1) [0] [(false, 1)] [.sl .Note] (encTup [.sl .Note] x) = laws_toNoteS.raw x := by kernel_rfl
theorem c34 : Contract Try.prog 34 ci34 :=
  evalF_ok (C := C34) (tnOk_of tn_mixed tn_ok _ _) (phi_cons c74 phi_nil) Try.func34 (by kernel_rfl : Try.f34.body = some (Try.f34.body.getD .skip)) (by kernel_rfl) (by kernel_rfl) an34 (plains 1) [0] [(false, 1)] [.sl .Note] [.sl .Note] (fun x => (fun (a0 : List G.Note) => cpy a0) x) rfl (by kernel_rfl)
    fun x r hb h => (e34 x).trans (laws_toNoteS.ok hb h)

def an127 : An := ⟨[], [(0, ⟨[.own 3 .int], [(4, 4), (8, 20)], []⟩)], [(3, ⟨[.slot 4 (.v .int), .own 3 .int], [(8, 20)], []⟩)], [], []⟩
noncomputable def C127 : Cx := ⟨Try.prog, tnT, fun f => lookC f [], 22⟩
noncomputable def ci127 : CInfo := ⟨(plains 1), TyTup [.sl .int], TyTup [.sl .int], decTup [.sl .int], fun x => (fun (a0 : List Int) => cpy a0) x, flatTup [.sl .int], [(false, 1)], [0]⟩
theorem e127 (x : TyTup [.sl .int]) : evalF C127 Try.f127 (Try.f127.body.getD .skip) an127 (plains 1) [0] [(false, 1)] [.sl .int] (encTup [.sl .int] x) = laws_toIntS.raw x := by kernel_rfl
theorem c127 : Contract Try.prog 127 ci127 :=
  evalF_ok (C := C127) (tnOk_of tn_mixed tn_ok _ _) phi_nil Try.func127 (by kernel_rfl : Try.f127.body = some (Try.f127.body.getD .skip)) (by kernel_rfl) (by kernel_rfl) an127 (plains 1) [0] [(false, 1)] [.sl .int] [.sl .int] (fun x => (fun (a0 : List Int) => cpy a0) x) rfl (by kernel_rfl)
    fun x r hb h => (e127 x).trans (laws_toIntS.ok hb h)

def an121 : An := ⟨[], [], [], [], []⟩
noncomputable def C121 : Cx := ⟨Try.prog, tnT, fun f => lookC f [(127, ci127)], 12⟩
noncomputable def ci121 : CInfo := ⟨(plains 1), TyTup [.v .Win], TyTup [.v .Win], decTup [.v .Win], fun x => (fun (a0 : G.Win) => cpy a0) x, flatTup [.v .Win], [(true, 2)], [1]⟩
theorem e121 (x : TyTup [.v .Win]) : evalF C121 Try.f121 (Try.f121.body.getD .skip) an121 (plains 1) [1] [(true, 2)] [.v .Win] (encTup [.v .Win] x) = laws_toWin.raw x := by kernel_rfl
theorem c121 : Contract Try.prog 121 ci121 :=
  evalF_ok (C := C121) (tnOk_of tn_mixed tn_ok _ _) (phi_cons c127 phi_nil) Try.func121 (by kernel_rfl : Try.f121.body = some (Try.f121.body.getD .skip)) (by kernel_rfl) (by kernel_rfl) an121 (plains 1) [1] [(true, 2)] [.v .Win] [.v .Win] (fun x => (fun (a0 : G.Win) => cpy a0) x) rfl (by kernel_rfl)
    fun x r hb h => (e121 x).trans (laws_toWin.ok hb h)

def an94 : An := ⟨[], [], [], [], []⟩
noncomputable def C94 : Cx := ⟨Try.prog, tnT, fun f => lookC f [(35, ci35), (121, ci121)], 19⟩
noncomputable def ci94 : CInfo := ⟨(plains 1), TyTup [.v .Ep], TyTup [.v .Ep], decTup [.v .Ep], fun x => (fun (a0 : G.Ep) => cpy a0) x, flatTup [.v .Ep], [(true, 5)], [1, 4]⟩
theorem e94 (x : TyTup [.v .Ep]) : evalF C94 Try.f94 (Try.f94.body.getD .skip) an94 (plains 1) [1, 4] [(true, 5)] [.v .Ep] (encTup [.v .Ep] x) = laws_toEp.raw x := by kernel_rfl
theorem c94 : Contract Try.prog 94 ci94 :=
  evalF_ok (C := C94) (tnOk_of tn_mixed tn_ok _ _) (phi_cons c35 (phi_cons c121 phi_nil)) Try.func94 (by kernel_rfl : Try.f94.body = some (Try.f94.body.getD .skip)) (by kernel_rfl) (by kernel_rfl) an94 (plains 1) [1, 4] [(true, 5)] [.v .Ep] [.v .Ep] (fun x => (fun (a0 : G.Ep) => cpy a0) x) rfl (by kernel_rfl)
    fun x r hb h => (e94 x).trans (laws_toEp.ok hb h)

def an55 : An := ⟨[], [], [], [], []⟩
noncomputable def C55 : Cx := ⟨Try.prog, tnT, fun f => lookC f [(35, ci35), (94, ci94)], 30⟩
noncomputable def ci55 : CInfo := ⟨(plains 1), TyTup [.v .Chan], TyTup [.v .Chan], decTup [.v .Chan], fun x => (fun (a0 : G.Chan) => cpy a0) x, flatTup [.v .Chan], [(true, 15)], [1, 3, 6, 8, 11, 14]⟩
theorem e55 (x : TyTup [.v .Chan]) : evalF C55 Try.f55 (Try.f55.body.getD .skip) an55 (plains 1) [1, 3, 6, 8, 11, 14] [(true, 15)] [.v .Chan] (encTup [.v .Chan] x) = laws_toChan.raw x := by kernel_rfl
theorem c55 : Contract Try.prog 55 ci55 :=
  evalF_ok (C := C55) (tnOk_of tn_mixed tn_ok _ _) (phi_cons c35 (phi_cons c94 phi_nil)) Try.func55 (by kernel_rfl : Try.f55.body = some (Try.f55.body.getD .skip)) (by kernel_rfl) (by kernel_rfl) an55 (plains 1) [1, 3, 6, 8, 11, 14] [(true, 15)] [.v .Chan] [.v .Chan] (fun x => (fun (a0 : G.Chan) => cpy a0) x) rfl (by kernel_rfl)
    fun x r hb h => (e55 x).trans (laws_toChan.ok hb h)

def an69 : An := ⟨[], [], [], [(1, ⟨[.slot 6 (.v .bool)], [(7, 14)], []⟩)], []⟩
noncomputable def C69 : Cx := ⟨Try.prog, tnT, fun f => lookC f [], 15⟩
noncomputable def ci69 : CInfo := ⟨(plains 3), TyTup [.v .int, .v .int, .v .int], TyTup [.v .bool], decTup [.v .int, .v .int, .v .int], fun x => some ((fun (a0 : Int) (a1 : Int) (a2 : Int) => inR a0 a1 a2) x.1 x.2.1 x.2.2), flatTup [.v .bool], [(false, 1)], []⟩
theorem e69 (x : TyTup [.v .int, .v .int, .v .int]) : evalF C69 Try.f69 (Try.f69.body.getD .skip) an69 (plains 3) [] [(false, 1)] [.v .bool] (encTup [.v .int, .v .int, .v .int] x) = spec_l1In.raw x.1 x.2.1 x.2.2 := by kernel_rfl
theorem c69 : Contract Try.prog 69 ci69 :=
  evalF_ok (C := C69) (tnOk_of tn_mixed tn_ok _ _) phi_nil Try.func69 (by kernel_rfl : Try.f69.body = some (Try.f69.body.getD .skip)) (by kernel_rfl) (by kernel_rfl) an69 (plains 3) [] [(false, 1)] [.v .int, .v .int, .v .int] [.v .bool] (fun x => some ((fun (a0 : Int) (a1 : Int) (a2 : Int) => inR a0 a1 a2) x.1 x.2.1 x.2.2)) rfl (by kernel_rfl)
    fun x r hb h => (e69 x).trans ((spec_l1In.ok hb).trans h)

def an136 : An := ⟨[], [], [], [], []⟩
noncomputable def C136 : Cx := ⟨Try.prog, tnT, fun f => lookC f [], 19⟩
noncomputable def ci136 : CInfo := ⟨(plains 2), TyTup [.v .Win, .v .int], TyTup [.v .bool], decTup [.v .Win, .v .int], fun x => (fun (a0 : G.Win) (a1 : Int) => bitO a0 a1) x.1 x.2, flatTup [.v .bool], [(false, 1)], []⟩
theorem e136 (x : TyTup [.v .Win, .v .int]) : evalF C136 Try.f136 (Try.f136.body.getD .skip) an136 (plains 2) [] [(false, 1)] [.v .bool] (encTup [.v .Win, .v .int] x) = spec_l8Bit.raw x.1 x.2 := by kernel_rfl
theorem c136 : Contract Try.prog 136 ci136 :=
  evalF_ok (C := C136) (tnOk_of tn_mixed tn_ok _ _) phi_nil Try.func136 (by kernel_rfl : Try.f136.body = some (Try.f136.body.getD .skip)) (by kernel_rfl) (by kernel_rfl) an136 (plains 2) [] [(false, 1)] [.v .Win, .v .int] [.v .bool] (fun x => (fun (a0 : G.Win) (a1 : Int) => bitO a0 a1) x.1 x.2) rfl (by kernel_rfl)
    fun x r hb h => (e136 x).trans (spec_l8Bit.ok hb h)

def an133 : An := ⟨[], [(0, ⟨[], [(2, 3), (15, 25)], []⟩), (2, ⟨[], [(2, 2), (4, 4), (39, 45)], []⟩)], [(4, ⟨[.slot 3 (.v .int)], [(2, 2), (15, 25)], []⟩), (11, ⟨[.slot 4 (.v .int)], [(2, 2), (39, 45)], []⟩)], [(1, ⟨[.slot 14 (.v .bool)], [(5, 13)], []⟩), (8, ⟨[.slot 35 (.v .bool)], [(26, 34)], []⟩)], []⟩
noncomputable def C133 : Cx := ⟨Try.prog, tnT, fun f => lookC f [(69, ci69), (136, ci136)], 46⟩
noncomputable def ci133 : CInfo := ⟨(plains 1), TyTup [.v .Win], TyTup [.v .bool], decTup [.v .Win], fun x => some ((fun (a0 : G.Win) => winOk a0) x), flatTup [.v .bool], [(false, 1)], []⟩
theorem e133 (x : TyTup [.v .Win]) : evalF C133 Try.f133 (Try.f133.body.getD .skip) an133 (plains 1) [] [(false, 1)] [.v .bool] (encTup [.v .Win] x) = spec_WinOk.raw x := by kernel_rfl
theorem c133 : Contract Try.prog 133 ci133 :=
  evalF_ok (C := C133) (tnOk_of tn_mixed tn_ok _ _) (phi_cons c69 (phi_cons c136 phi_nil)) Try.func133 (by kernel_rfl : Try.f133.body = some (Try.f133.body.getD .skip)) (by kernel_rfl) (by kernel_rfl) an133 (plains 1) [] [(false, 1)] [.v .Win] [.v .bool] (fun x => some ((fun (a0 : G.Win) => winOk a0) x)) rfl (by kernel_rfl)
    fun x r hb h => (e133 x).trans ((spec_WinOk.ok hb).trans h)

def an125 : An := ⟨[], [], [], [(1, ⟨[.slot 2 (.v .bool)], [(3, 21)], []⟩)], []⟩
noncomputable def C125 : Cx := ⟨Try.prog, tnT, fun f => lookC f [(69, ci69), (133, ci133)], 22⟩
noncomputable def ci125 : CInfo := ⟨(plains 1), TyTup [.v .Ep], TyTup [.v .bool], decTup [.v .Ep], fun x => some ((fun (a0 : G.Ep) => epOk a0) x), flatTup [.v .bool], [(false, 1)], []⟩
theorem e125 (x : TyTup [.v .Ep]) : evalF C125 Try.f125 (Try.f125.body.getD .skip) an125 (plains 1) [] [(false, 1)] [.v .bool] (encTup [.v .Ep] x) = spec_EpOk.raw x := by kernel_rfl
theorem c125 : Contract Try.prog 125 ci125 :=
  evalF_ok (C := C125) (tnOk_of tn_mixed tn_ok _ _) (phi_cons c69 (phi_cons c133 phi_nil)) Try.func125 (by kernel_rfl : Try.f125.body = some (Try.f125.body.getD .skip)) (by kernel_rfl) (by kernel_rfl) an125 (plains 1) [] [(false, 1)] [.v .Ep] [.v .bool] (fun x => some ((fun (a0 : G.Ep) => epOk a0) x)) rfl (by kernel_rfl)
    fun x r hb h => (e125 x).trans ((spec_EpOk.ok hb).trans h)

def an126 : An := ⟨[], [], [], [(1, ⟨[.slot 2 (.v .bool)], [(3, 29)], []⟩)], []⟩
noncomputable def C126 : Cx := ⟨Try.prog, tnT, fun f => lookC f [], 30⟩
noncomputable def ci126 : CInfo := ⟨(plains 1), TyTup [.v .Ep], TyTup [.v .bool], decTup [.v .Ep], fun x => some ((fun (a0 : G.Ep) => noEp a0) x), flatTup [.v .bool], [(false, 1)], []⟩
theorem e126 (x : TyTup [.v .Ep]) : evalF C126 Try.f126 (Try.f126.body.getD .skip) an126 (plains 1) [] [(false, 1)] [.v .bool] (encTup [.v .Ep] x) = spec_l14None.raw x := by kernel_rfl
theorem c126 : Contract Try.prog 126 ci126 :=
  evalF_ok (C := C126) (tnOk_of tn_mixed tn_ok _ _) phi_nil Try.func126 (by kernel_rfl : Try.f126.body = some (Try.f126.body.getD .skip)) (by kernel_rfl) (by kernel_rfl) an126 (plains 1) [] [(false, 1)] [.v .Ep] [.v .bool] (fun x => some ((fun (a0 : G.Ep) => noEp a0) x)) rfl (by kernel_rfl)
    fun x r hb h => (e126 x).trans ((spec_l14None.ok hb).trans h)

def an120 : An := ⟨[(21, ⟨[], [(2, 3), (22, 54)], []⟩), (24, ⟨[.slot 3 (.v .int)], [], []⟩)], [], [], [(1, ⟨[.slot 19 (.v .bool)], [(4, 18)], []⟩), (7, ⟨[.slot 45 (.v .bool)], [(25, 44)], []⟩), (9, ⟨[.slot 54 (.v .bool)], [(46, 53)], []⟩), (13, ⟨[.slot 2 (.v .bool)], [(59, 73)], []⟩)], []⟩
noncomputable def C120 : Cx := ⟨Try.prog, tnT, fun f => lookC f [(69, ci69), (125, ci125), (126, ci126)], 74⟩
noncomputable def ci120 : CInfo := ⟨(plains 1), TyTup [.v .Chan], TyTup [.v .bool], decTup [.v .Chan], fun x => (fun (a0 : G.Chan) => chanOkO a0) x, flatTup [.v .bool], [(false, 1)], []⟩
theorem e120 (x : TyTup [.v .Chan]) : evalF C120 Try.f120 (Try.f120.body.getD .skip) an120 (plains 1) [] [(false, 1)] [.v .bool] (encTup [.v .Chan] x) = spec_ChanOk.raw x := by kernel_rfl
theorem c120 : Contract Try.prog 120 ci120 :=
  evalF_ok (C := C120) (tnOk_of tn_mixed tn_ok _ _) (phi_cons c69 (phi_cons c125 (phi_cons c126 phi_nil))) Try.func120 (by kernel_rfl : Try.f120.body = some (Try.f120.body.getD .skip)) (by kernel_rfl) (by kernel_rfl) an120 (plains 1) [] [(false, 1)] [.v .Chan] [.v .bool] (fun x => (fun (a0 : G.Chan) => chanOkO a0) x) rfl (by kernel_rfl)
    fun x r hb h => (e120 x).trans (spec_ChanOk.ok hb h)

def an93 : An := ⟨[], [], [], [], []⟩
noncomputable def C93 : Cx := ⟨Try.prog, tnT, fun f => lookC f [(120, ci120)], 14⟩
noncomputable def ci93 : CInfo := ⟨(plains 1), TyTup [.v .Chan], TyTup [.v .int], decTup [.v .Chan], fun x => (fun (a0 : G.Chan) => oldestO a0) x, flatTup [.v .int], [(false, 1)], []⟩
theorem e93 (x : TyTup [.v .Chan]) : evalF C93 Try.f93 (Try.f93.body.getD .skip) an93 (plains 1) [] [(false, 1)] [.v .int] (encTup [.v .Chan] x) = spec_Oldest.raw x := by kernel_rfl
theorem c93 : Contract Try.prog 93 ci93 :=
  evalF_ok (C := C93) (tnOk_of tn_mixed tn_ok _ _) (phi_cons c120 phi_nil) Try.func93 (by kernel_rfl : Try.f93.body = some (Try.f93.body.getD .skip)) (by kernel_rfl) (by kernel_rfl) an93 (plains 1) [] [(false, 1)] [.v .Chan] [.v .int] (fun x => (fun (a0 : G.Chan) => oldestO a0) x) rfl (by kernel_rfl)
    fun x r hb h => (e93 x).trans (spec_Oldest.ok hb h)

def an79 : An := ⟨[], [], [], [(1, ⟨[.slot 2 (.v .bool)], [(3, 10)], []⟩)], []⟩
noncomputable def C79 : Cx := ⟨Try.prog, tnT, fun f => lookC f [], 11⟩
noncomputable def ci79 : CInfo := ⟨(plains 1), TyTup [.v .Note], TyTup [.v .bool], decTup [.v .Note], fun x => some ((fun (a0 : G.Note) => isUp a0) x), flatTup [.v .bool], [(false, 1)], []⟩
theorem e79 (x : TyTup [.v .Note]) : evalF C79 Try.f79 (Try.f79.body.getD .skip) an79 (plains 1) [] [(false, 1)] [.v .bool] (encTup [.v .Note] x) = spec_l27Up.raw x := by kernel_rfl
theorem c79 : Contract Try.prog 79 ci79 :=
  evalF_ok (C := C79) (tnOk_of tn_mixed tn_ok _ _) phi_nil Try.func79 (by kernel_rfl : Try.f79.body = some (Try.f79.body.getD .skip)) (by kernel_rfl) (by kernel_rfl) an79 (plains 1) [] [(false, 1)] [.v .Note] [.v .bool] (fun x => some ((fun (a0 : G.Note) => isUp a0) x)) rfl (by kernel_rfl)
    fun x r hb h => (e79 x).trans ((spec_l27Up.ok hb).trans h)

def an78 : An := ⟨[], [], [], [(1, ⟨[.slot 2 (.v .bool)], [(3, 9)], []⟩)], []⟩
noncomputable def C78 : Cx := ⟨Try.prog, tnT, fun f => lookC f [(79, ci79)], 10⟩
noncomputable def ci78 : CInfo := ⟨(plains 1), TyTup [.v .Note], TyTup [.v .bool], decTup [.v .Note], fun x => some ((fun (a0 : G.Note) => isKey a0) x), flatTup [.v .bool], [(false, 1)], []⟩
theorem e78 (x : TyTup [.v .Note]) : evalF C78 Try.f78 (Try.f78.body.getD .skip) an78 (plains 1) [] [(false, 1)] [.v .bool] (encTup [.v .Note] x) = spec_l27Key.raw x := by kernel_rfl
theorem c78 : Contract Try.prog 78 ci78 :=
  evalF_ok (C := C78) (tnOk_of tn_mixed tn_ok _ _) (phi_cons c79 phi_nil) Try.func78 (by kernel_rfl : Try.f78.body = some (Try.f78.body.getD .skip)) (by kernel_rfl) (by kernel_rfl) an78 (plains 1) [] [(false, 1)] [.v .Note] [.v .bool] (fun x => some ((fun (a0 : G.Note) => isKey a0) x)) rfl (by kernel_rfl)
    fun x r hb h => (e78 x).trans ((spec_l27Key.ok hb).trans h)

def an73 : An := ⟨[], [], [], [], []⟩
noncomputable def C73 : Cx := ⟨Try.prog, tnT, fun f => lookC f [], 10⟩
noncomputable def ci73 : CInfo := ⟨(plains 2), TyTup [.sl .byte, .sl .byte], TyTup [.v .bool], decTup [.sl .byte, .sl .byte], fun x => (fun (a0 : List UInt8) (a1 : List UInt8) => sameO a0 a1) x.1 x.2, flatTup [.v .bool], [(false, 1)], []⟩
theorem e73 (x : TyTup [.sl .byte, .sl .byte]) : evalF C73 Try.f73 (Try.f73.body.getD .skip) an73 (plains 2) [] [(false, 1)] [.v .bool] (encTup [.sl .byte, .sl .byte] x) = spec_l1Same.raw x.1 x.2 := by kernel_rfl
theorem c73 : Contract Try.prog 73 ci73 :=
  evalF_ok (C := C73) (tnOk_of tn_mixed tn_ok _ _) phi_nil Try.func73 (by kernel_rfl : Try.f73.body = some (Try.f73.body.getD .skip)) (by kernel_rfl) (by kernel_rfl) an73 (plains 2) [] [(false, 1)] [.sl .byte, .sl .byte] [.v .bool] (fun x => (fun (a0 : List UInt8) (a1 : List UInt8) => sameO a0 a1) x.1 x.2) rfl (by kernel_rfl)
    fun x r hb h => (e73 x).trans (spec_l1Same.ok hb h)

def an54 : An := ⟨[], [(0, ⟨[], [(4, 4), (6, 7), (10, 54)], []⟩), (1, ⟨[], [(4, 4), (7, 7), (16, 54)], []⟩)], [(3, ⟨[.slot 6 (.v .int)], [(4, 4), (7, 7), (10, 54)], []⟩)], [(6, ⟨[.slot 36 (.v .bool)], [(20, 35)], []⟩), (7, ⟨[.slot 54 (.v .bool)], [(37, 53)], []⟩)], []⟩
noncomputable def C54 : Cx := ⟨Try.prog, tnT, fun f => lookC f [(73, ci73), (78, ci78), (93, ci93)], 55⟩
noncomputable def ci54 : CInfo := ⟨(plains 2), TyTup [.sl .Note, .v .Chan], TyTup [.v .bool], decTup [.sl .Note, .v .Chan], fun x => (fun (a0 : List G.Note) (a1 : G.Chan) => erasedO a0 a1) x.1 x.2, flatTup [.v .bool], [(false, 1)], []⟩
theorem e54 (x : TyTup [.sl .Note, .v .Chan]) : evalF C54 Try.f54 (Try.f54.body.getD .skip) an54 (plains 2) [] [(false, 1)] [.v .bool] (encTup [.sl .Note, .v .Chan] x) = spec_Erased.raw x.1 x.2 := by kernel_rfl
theorem c54 : Contract Try.prog 54 ci54 :=
  evalF_ok (C := C54) (tnOk_of tn_mixed tn_ok _ _) (phi_cons c73 (phi_cons c78 (phi_cons c93 phi_nil))) Try.func54 (by kernel_rfl : Try.f54.body = some (Try.f54.body.getD .skip)) (by kernel_rfl) (by kernel_rfl) an54 (plains 2) [] [(false, 1)] [.sl .Note, .v .Chan] [.v .bool] (fun x => (fun (a0 : List G.Note) (a1 : G.Chan) => erasedO a0 a1) x.1 x.2) rfl (by kernel_rfl)
    fun x r hb h => (e54 x).trans (spec_Erased.ok hb h)

def an75 : An := ⟨[], [], [], [], []⟩
noncomputable def C75 : Cx := ⟨Try.prog, tnT, fun f => lookC f [], 10⟩
noncomputable def ci75 : CInfo := ⟨(plains 2), TyTup [.sl .byte, .sl .byte], TyTup [.v .bool], decTup [.sl .byte, .sl .byte], fun x => (fun (a0 : List UInt8) (a1 : List UInt8) => sameO a0 a1) x.1 x.2, flatTup [.v .bool], [(false, 1)], []⟩
theorem e75 (x : TyTup [.sl .byte, .sl .byte]) : evalF C75 Try.f75 (Try.f75.body.getD .skip) an75 (plains 2) [] [(false, 1)] [.v .bool] (encTup [.sl .byte, .sl .byte] x) = bytes_Equal.raw x.1 x.2 := by kernel_rfl
theorem c75 : Contract Try.prog 75 ci75 :=
  evalF_ok (C := C75) (tnOk_of tn_mixed tn_ok _ _) phi_nil Try.func75 (by kernel_rfl : Try.f75.body = some (Try.f75.body.getD .skip)) (by kernel_rfl) (by kernel_rfl) an75 (plains 2) [] [(false, 1)] [.sl .byte, .sl .byte] [.v .bool] (fun x => (fun (a0 : List UInt8) (a1 : List UInt8) => sameO a0 a1) x.1 x.2) rfl (by kernel_rfl)
    fun x r hb h => (e75 x).trans (bytes_Equal.ok hb h)

def an128 : An := ⟨[], [], [], [(1, ⟨[.slot 2 (.v .bool)], [(3, 8)], []⟩)], []⟩
noncomputable def C128 : Cx := ⟨Try.prog, tnT, fun f => lookC f [], 9⟩
noncomputable def ci128 : CInfo := ⟨(plains 1), TyTup [.v .int], TyTup [.v .bool], decTup [.v .int], fun x => some ((fun (a0 : Int) => isRole a0) x), flatTup [.v .bool], [(false, 1)], []⟩
theorem e128 (x : TyTup [.v .int]) : evalF C128 Try.f128 (Try.f128.body.getD .skip) an128 (plains 1) [] [(false, 1)] [.v .bool] (encTup [.v .int] x) = impl_isRole.raw x := by kernel_rfl
theorem c128 : Contract Try.prog 128 ci128 :=
  evalF_ok (C := C128) (tnOk_of tn_mixed tn_ok _ _) phi_nil Try.func128 (by kernel_rfl : Try.f128.body = some (Try.f128.body.getD .skip)) (by kernel_rfl) (by kernel_rfl) an128 (plains 1) [] [(false, 1)] [.v .int] [.v .bool] (fun x => some ((fun (a0 : Int) => isRole a0) x)) rfl (by kernel_rfl)
    fun x r hb h => (e128 x).trans ((impl_isRole.ok hb).trans h)

def an129 : An := ⟨[], [], [], [], []⟩
noncomputable def C129 : Cx := ⟨Try.prog, tnT, fun f => lookC f [], 6⟩
noncomputable def ci129 : CInfo := ⟨(plains 1), TyTup [.sl .byte], TyTup [.v .bool], decTup [.sl .byte], fun x => some ((fun (a0 : List UInt8) => isNonce a0) x), flatTup [.v .bool], [(false, 1)], []⟩
theorem e129 (x : TyTup [.sl .byte]) : evalF C129 Try.f129 (Try.f129.body.getD .skip) an129 (plains 1) [] [(false, 1)] [.v .bool] (encTup [.sl .byte] x) = impl_isNonce.raw x := by kernel_rfl
theorem c129 : Contract Try.prog 129 ci129 :=
  evalF_ok (C := C129) (tnOk_of tn_mixed tn_ok _ _) phi_nil Try.func129 (by kernel_rfl : Try.f129.body = some (Try.f129.body.getD .skip)) (by kernel_rfl) (by kernel_rfl) an129 (plains 1) [] [(false, 1)] [.sl .byte] [.v .bool] (fun x => some ((fun (a0 : List UInt8) => isNonce a0) x)) rfl (by kernel_rfl)
    fun x r hb h => (e129 x).trans ((impl_isNonce.ok hb).trans h)

def an58 : An := ⟨[], [], [], [(1, ⟨[.slot 6 (.v .bool)], [(7, 14)], []⟩)], []⟩
noncomputable def C58 : Cx := ⟨Try.prog, tnT, fun f => lookC f [], 15⟩
noncomputable def ci58 : CInfo := ⟨(plains 3), TyTup [.v .int, .v .int, .v .int], TyTup [.v .bool], decTup [.v .int, .v .int, .v .int], fun x => some ((fun (a0 : Int) (a1 : Int) (a2 : Int) => inR a0 a1 a2) x.1 x.2.1 x.2.2), flatTup [.v .bool], [(false, 1)], []⟩
theorem e58 (x : TyTup [.v .int, .v .int, .v .int]) : evalF C58 Try.f58 (Try.f58.body.getD .skip) an58 (plains 3) [] [(false, 1)] [.v .bool] (encTup [.v .int, .v .int, .v .int] x) = impl_within.raw x.1 x.2.1 x.2.2 := by kernel_rfl
theorem c58 : Contract Try.prog 58 ci58 :=
  evalF_ok (C := C58) (tnOk_of tn_mixed tn_ok _ _) phi_nil Try.func58 (by kernel_rfl : Try.f58.body = some (Try.f58.body.getD .skip)) (by kernel_rfl) (by kernel_rfl) an58 (plains 3) [] [(false, 1)] [.v .int, .v .int, .v .int] [.v .bool] (fun x => some ((fun (a0 : Int) (a1 : Int) (a2 : Int) => inR a0 a1 a2) x.1 x.2.1 x.2.2)) rfl (by kernel_rfl)
    fun x r hb h => (e58 x).trans ((impl_within.ok hb).trans h)

def an137 : An := ⟨[], [(0, ⟨[], [(4, 4), (6, 6), (9, 16)], []⟩)], [(2, ⟨[.slot 9 (.v .int)], [(4, 4), (6, 6), (10, 16)], []⟩)], [], []⟩
noncomputable def C137 : Cx := ⟨Try.prog, tnT, fun f => lookC f [(58, ci58)], 21⟩
noncomputable def ci137 : CInfo := ⟨(plains 2), TyTup [.sl .int, .v .int], TyTup [.v .bool], decTup [.sl .int, .v .int], fun x => some ((fun (a0 : List Int) (a1 : Int) => areWords a0 a1) x.1 x.2), flatTup [.v .bool], [(false, 1)], []⟩
theorem e137 (x : TyTup [.sl .int, .v .int]) : evalF C137 Try.f137 (Try.f137.body.getD .skip) an137 (plains 2) [] [(false, 1)] [.v .bool] (encTup [.sl .int, .v .int] x) = impl_areWords.raw x.1 x.2 := by kernel_rfl
theorem c137 : Contract Try.prog 137 ci137 :=
  evalF_ok (C := C137) (tnOk_of tn_mixed tn_ok _ _) (phi_cons c58 phi_nil) Try.func137 (by kernel_rfl : Try.f137.body = some (Try.f137.body.getD .skip)) (by kernel_rfl) (by kernel_rfl) an137 (plains 2) [] [(false, 1)] [.sl .int, .v .int] [.v .bool] (fun x => some ((fun (a0 : List Int) (a1 : Int) => areWords a0 a1) x.1 x.2)) rfl (by kernel_rfl)
    fun x r hb h => (e137 x).trans ((impl_areWords.ok hb).trans h)

def an138 : An := ⟨[], [], [], [], []⟩
noncomputable def C138 : Cx := ⟨Try.prog, tnT, fun f => lookC f [], 17⟩
noncomputable def ci138 : CInfo := ⟨(plains 2), TyTup [.v .Win, .v .int], TyTup [.v .bool], decTup [.v .Win, .v .int], fun x => (fun (a0 : G.Win) (a1 : Int) => bitO a0 a1) x.1 x.2, flatTup [.v .bool], [(false, 1)], []⟩
theorem e138 (x : TyTup [.v .Win, .v .int]) : evalF C138 Try.f138 (Try.f138.body.getD .skip) an138 (plains 2) [] [(false, 1)] [.v .bool] (encTup [.v .Win, .v .int] x) = impl_hasBit.raw x.1 x.2 := by kernel_rfl
theorem c138 : Contract Try.prog 138 ci138 :=
  evalF_ok (C := C138) (tnOk_of tn_mixed tn_ok _ _) phi_nil Try.func138 (by kernel_rfl : Try.f138.body = some (Try.f138.body.getD .skip)) (by kernel_rfl) (by kernel_rfl) an138 (plains 2) [] [(false, 1)] [.v .Win, .v .int] [.v .bool] (fun x => (fun (a0 : G.Win) (a1 : Int) => bitO a0 a1) x.1 x.2) rfl (by kernel_rfl)
    fun x r hb h => (e138 x).trans (impl_hasBit.ok hb h)

def an134 : An := ⟨[], [(0, ⟨[], [(2, 3), (17, 23)], []⟩)], [(4, ⟨[.slot 3 (.v .int)], [(2, 2), (17, 23)], []⟩)], [(1, ⟨[.slot 13 (.v .bool)], [(4, 12)], []⟩), (8, ⟨[.slot 2 (.v .bool)], [(24, 32)], []⟩)], []⟩
noncomputable def C134 : Cx := ⟨Try.prog, tnT, fun f => lookC f [(58, ci58), (137, ci137), (138, ci138)], 33⟩
noncomputable def ci134 : CInfo := ⟨(plains 1), TyTup [.v .Win], TyTup [.v .bool], decTup [.v .Win], fun x => some ((fun (a0 : G.Win) => winOk a0) x), flatTup [.v .bool], [(false, 1)], []⟩
theorem e134 (x : TyTup [.v .Win]) : evalF C134 Try.f134 (Try.f134.body.getD .skip) an134 (plains 1) [] [(false, 1)] [.v .bool] (encTup [.v .Win] x) = impl_WinOk.raw x := by kernel_rfl
theorem c134 : Contract Try.prog 134 ci134 :=
  evalF_ok (C := C134) (tnOk_of tn_mixed tn_ok _ _) (phi_cons c58 (phi_cons c137 (phi_cons c138 phi_nil))) Try.func134 (by kernel_rfl : Try.f134.body = some (Try.f134.body.getD .skip)) (by kernel_rfl) (by kernel_rfl) an134 (plains 1) [] [(false, 1)] [.v .Win] [.v .bool] (fun x => some ((fun (a0 : G.Win) => winOk a0) x)) rfl (by kernel_rfl)
    fun x r hb h => (e134 x).trans ((impl_WinOk.ok hb).trans h)

def an130 : An := ⟨[], [], [], [(1, ⟨[.slot 2 (.v .bool)], [(3, 21)], []⟩)], []⟩
noncomputable def C130 : Cx := ⟨Try.prog, tnT, fun f => lookC f [(58, ci58), (134, ci134)], 22⟩
noncomputable def ci130 : CInfo := ⟨(plains 1), TyTup [.v .Ep], TyTup [.v .bool], decTup [.v .Ep], fun x => some ((fun (a0 : G.Ep) => epOk a0) x), flatTup [.v .bool], [(false, 1)], []⟩
theorem e130 (x : TyTup [.v .Ep]) : evalF C130 Try.f130 (Try.f130.body.getD .skip) an130 (plains 1) [] [(false, 1)] [.v .bool] (encTup [.v .Ep] x) = impl_EpOk.raw x := by kernel_rfl
theorem c130 : Contract Try.prog 130 ci130 :=
  evalF_ok (C := C130) (tnOk_of tn_mixed tn_ok _ _) (phi_cons c58 (phi_cons c134 phi_nil)) Try.func130 (by kernel_rfl : Try.f130.body = some (Try.f130.body.getD .skip)) (by kernel_rfl) (by kernel_rfl) an130 (plains 1) [] [(false, 1)] [.v .Ep] [.v .bool] (fun x => some ((fun (a0 : G.Ep) => epOk a0) x)) rfl (by kernel_rfl)
    fun x r hb h => (e130 x).trans ((impl_EpOk.ok hb).trans h)

def an139 : An := ⟨[], [(0, ⟨[], [(4, 6), (14, 25)], []⟩)], [(4, ⟨[.slot 14 (.v .int)], [(4, 6), (15, 25)], []⟩)], [], []⟩
noncomputable def C139 : Cx := ⟨Try.prog, tnT, fun f => lookC f [], 26⟩
noncomputable def ci139 : CInfo := ⟨(plains 2), TyTup [.sl .int, .sl .int], TyTup [.v .bool], decTup [.sl .int, .sl .int], fun x => some ((fun (a0 : List Int) (a1 : List Int) => sameI a0 a1) x.1 x.2), flatTup [.v .bool], [(false, 1)], []⟩
theorem e139 (x : TyTup [.sl .int, .sl .int]) : evalF C139 Try.f139 (Try.f139.body.getD .skip) an139 (plains 2) [] [(false, 1)] [.v .bool] (encTup [.sl .int, .sl .int] x) = impl_sameInts.raw x.1 x.2 := by kernel_rfl
theorem c139 : Contract Try.prog 139 ci139 :=
  evalF_ok (C := C139) (tnOk_of tn_mixed tn_ok _ _) phi_nil Try.func139 (by kernel_rfl : Try.f139.body = some (Try.f139.body.getD .skip)) (by kernel_rfl) (by kernel_rfl) an139 (plains 2) [] [(false, 1)] [.sl .int, .sl .int] [.v .bool] (fun x => some ((fun (a0 : List Int) (a1 : List Int) => sameI a0 a1) x.1 x.2)) rfl (by kernel_rfl)
    fun x r hb h => (e139 x).trans ((impl_sameInts.ok hb).trans h)

def an135 : An := ⟨[], [], [], [(1, ⟨[.slot 4 (.v .bool)], [(5, 41)], []⟩)], []⟩
noncomputable def C135 : Cx := ⟨Try.prog, tnT, fun f => lookC f [(75, ci75), (139, ci139)], 42⟩
noncomputable def ci135 : CInfo := ⟨(plains 2), TyTup [.v .Ep, .v .Ep], TyTup [.v .bool], decTup [.v .Ep, .v .Ep], fun x => (fun (a0 : G.Ep) (a1 : G.Ep) => sameEpO a0 a1) x.1 x.2, flatTup [.v .bool], [(false, 1)], []⟩
theorem e135 (x : TyTup [.v .Ep, .v .Ep]) : evalF C135 Try.f135 (Try.f135.body.getD .skip) an135 (plains 2) [] [(false, 1)] [.v .bool] (encTup [.v .Ep, .v .Ep] x) = impl_sameEp.raw x.1 x.2 := by kernel_rfl
theorem c135 : Contract Try.prog 135 ci135 :=
  evalF_ok (C := C135) (tnOk_of tn_mixed tn_ok _ _) (phi_cons c75 (phi_cons c139 phi_nil)) Try.func135 (by kernel_rfl : Try.f135.body = some (Try.f135.body.getD .skip)) (by kernel_rfl) (by kernel_rfl) an135 (plains 2) [] [(false, 1)] [.v .Ep, .v .Ep] [.v .bool] (fun x => (fun (a0 : G.Ep) (a1 : G.Ep) => sameEpO a0 a1) x.1 x.2) rfl (by kernel_rfl)
    fun x r hb h => (e135 x).trans (impl_sameEp.ok hb h)

def an131 : An := ⟨[], [], [], [(2, ⟨[.slot 2 (.v .bool)], [(6, 14)], []⟩), (3, ⟨[.slot 28 (.v .bool)], [(15, 27)], []⟩), (5, ⟨[.slot 2 (.v .bool)], [(29, 41)], []⟩)], []⟩
noncomputable def C131 : Cx := ⟨Try.prog, tnT, fun f => lookC f [(58, ci58), (130, ci130), (135, ci135)], 42⟩
noncomputable def ci131 : CInfo := ⟨(plains 1), TyTup [.v .Chan], TyTup [.v .bool], decTup [.v .Chan], fun x => (fun (a0 : G.Chan) => oldOkO a0) x, flatTup [.v .bool], [(false, 1)], []⟩
theorem e131 (x : TyTup [.v .Chan]) : evalF C131 Try.f131 (Try.f131.body.getD .skip) an131 (plains 1) [] [(false, 1)] [.v .bool] (encTup [.v .Chan] x) = impl_oldOk.raw x := by kernel_rfl
theorem c131 : Contract Try.prog 131 ci131 :=
  evalF_ok (C := C131) (tnOk_of tn_mixed tn_ok _ _) (phi_cons c58 (phi_cons c130 (phi_cons c135 phi_nil))) Try.func131 (by kernel_rfl : Try.f131.body = some (Try.f131.body.getD .skip)) (by kernel_rfl) (by kernel_rfl) an131 (plains 1) [] [(false, 1)] [.v .Chan] [.v .bool] (fun x => (fun (a0 : G.Chan) => oldOkO a0) x) rfl (by kernel_rfl)
    fun x r hb h => (e131 x).trans (impl_oldOk.ok hb h)

def an122 : An := ⟨[], [], [], [(1, ⟨[.slot 23 (.v .bool)], [(3, 22)], []⟩), (3, ⟨[.slot 2 (.v .bool)], [(24, 44)], []⟩)], []⟩
noncomputable def C122 : Cx := ⟨Try.prog, tnT, fun f => lookC f [(128, ci128), (129, ci129), (130, ci130), (131, ci131)], 45⟩
noncomputable def ci122 : CInfo := ⟨(plains 1), TyTup [.v .Chan], TyTup [.v .bool], decTup [.v .Chan], fun x => (fun (a0 : G.Chan) => chanOkO a0) x, flatTup [.v .bool], [(false, 1)], []⟩
theorem e122 (x : TyTup [.v .Chan]) : evalF C122 Try.f122 (Try.f122.body.getD .skip) an122 (plains 1) [] [(false, 1)] [.v .bool] (encTup [.v .Chan] x) = impl_ChanOk.raw x := by kernel_rfl
theorem c122 : Contract Try.prog 122 ci122 :=
  evalF_ok (C := C122) (tnOk_of tn_mixed tn_ok _ _) (phi_cons c128 (phi_cons c129 (phi_cons c130 (phi_cons c131 phi_nil)))) Try.func122 (by kernel_rfl : Try.f122.body = some (Try.f122.body.getD .skip)) (by kernel_rfl) (by kernel_rfl) an122 (plains 1) [] [(false, 1)] [.v .Chan] [.v .bool] (fun x => (fun (a0 : G.Chan) => chanOkO a0) x) rfl (by kernel_rfl)
    fun x r hb h => (e122 x).trans (impl_ChanOk.ok hb h)

def an95 : An := ⟨[], [], [], [], []⟩
noncomputable def C95 : Cx := ⟨Try.prog, tnT, fun f => lookC f [(122, ci122)], 14⟩
noncomputable def ci95 : CInfo := ⟨(plains 1), TyTup [.v .Chan], TyTup [.v .int], decTup [.v .Chan], fun x => (fun (a0 : G.Chan) => oldestO a0) x, flatTup [.v .int], [(false, 1)], []⟩
theorem e95 (x : TyTup [.v .Chan]) : evalF C95 Try.f95 (Try.f95.body.getD .skip) an95 (plains 1) [] [(false, 1)] [.v .int] (encTup [.v .Chan] x) = impl_Oldest.raw x := by kernel_rfl
theorem c95 : Contract Try.prog 95 ci95 :=
  evalF_ok (C := C95) (tnOk_of tn_mixed tn_ok _ _) (phi_cons c122 phi_nil) Try.func95 (by kernel_rfl : Try.f95.body = some (Try.f95.body.getD .skip)) (by kernel_rfl) (by kernel_rfl) an95 (plains 1) [] [(false, 1)] [.v .Chan] [.v .int] (fun x => (fun (a0 : G.Chan) => oldestO a0) x) rfl (by kernel_rfl)
    fun x r hb h => (e95 x).trans (impl_Oldest.ok hb h)

def an56 : An := ⟨[], [(0, ⟨[], [(4, 4), (6, 6), (9, 57)], []⟩), (1, ⟨[], [(4, 4), (6, 6), (11, 56)], []⟩)], [(2, ⟨[.slot 9 (.v .int)], [(4, 4), (6, 6), (10, 57)], []⟩)], [(4, ⟨[.slot 25 (.v .bool)], [(13, 24)], []⟩), (5, ⟨[.slot 38 (.v .bool)], [(26, 37)], []⟩), (6, ⟨[.slot 56 (.v .bool)], [(39, 55)], []⟩)], []⟩
noncomputable def C56 : Cx := ⟨Try.prog, tnT, fun f => lookC f [(75, ci75), (95, ci95)], 58⟩
noncomputable def ci56 : CInfo := ⟨(plains 2), TyTup [.sl .Note, .v .Chan], TyTup [.v .bool], decTup [.sl .Note, .v .Chan], fun x => (fun (a0 : List G.Note) (a1 : G.Chan) => erasedO a0 a1) x.1 x.2, flatTup [.v .bool], [(false, 1)], []⟩
theorem e56 (x : TyTup [.sl .Note, .v .Chan]) : evalF C56 Try.f56 (Try.f56.body.getD .skip) an56 (plains 2) [] [(false, 1)] [.v .bool] (encTup [.sl .Note, .v .Chan] x) = impl_Erased.raw x.1 x.2 := by kernel_rfl
theorem c56 : Contract Try.prog 56 ci56 :=
  evalF_ok (C := C56) (tnOk_of tn_mixed tn_ok _ _) (phi_cons c75 (phi_cons c95 phi_nil)) Try.func56 (by kernel_rfl : Try.f56.body = some (Try.f56.body.getD .skip)) (by kernel_rfl) (by kernel_rfl) an56 (plains 2) [] [(false, 1)] [.sl .Note, .v .Chan] [.v .bool] (fun x => (fun (a0 : List G.Note) (a1 : G.Chan) => erasedO a0 a1) x.1 x.2) rfl (by kernel_rfl)
    fun x r hb h => (e56 x).trans (impl_Erased.ok hb h)

def an38 : An := ⟨[], [(0, ⟨[], [(4, 5), (11, 25)], []⟩)], [(4, ⟨[.slot 5 (.v .int)], [(4, 4), (11, 25)], []⟩)], [], []⟩
noncomputable def C38 : Cx := ⟨Try.prog, tnT, fun f => lookC f [], 26⟩
noncomputable def ci38 : CInfo := ⟨(plains 2), TyTup [.sl .byte, .sl .byte], TyTup [.v .bool], decTup [.sl .byte, .sl .byte], fun x => some ((fun (a0 : List UInt8) (a1 : List UInt8) => eqq a0 a1) x.1 x.2), flatTup [.v .bool], [(false, 1)], []⟩
theorem e38 (x : TyTup [.sl .byte, .sl .byte]) : evalF C38 Try.f38 (Try.f38.body.getD .skip) an38 (plains 2) [] [(false, 1)] [.v .bool] (encTup [.sl .byte, .sl .byte] x) = laws_eqByteS.raw x.1 x.2 := by kernel_rfl
theorem c38 : Contract Try.prog 38 ci38 :=
  evalF_ok (C := C38) (tnOk_of tn_mixed tn_ok _ _) phi_nil Try.func38 (by kernel_rfl : Try.f38.body = some (Try.f38.body.getD .skip)) (by kernel_rfl) (by kernel_rfl) an38 (plains 2) [] [(false, 1)] [.sl .byte, .sl .byte] [.v .bool] (fun x => some ((fun (a0 : List UInt8) (a1 : List UInt8) => eqq a0 a1) x.1 x.2)) rfl (by kernel_rfl)
    fun x r hb h => (e38 x).trans ((laws_eqByteS.ok hb).trans h)

def an20 : An := ⟨[], [], [], [], []⟩
noncomputable def C20 : Cx := ⟨Try.prog, tnT, fun f => lookC f [], 15⟩
noncomputable def ci20 : CInfo := ⟨(plains 2), TyTup [.v .Addr, .v .Addr], TyTup [.v .bool], decTup [.v .Addr, .v .Addr], fun x => some ((fun (a0 : G.Addr) (a1 : G.Addr) => eqq a0 a1) x.1 x.2), flatTup [.v .bool], [(false, 1)], []⟩
theorem e20 (x : TyTup [.v .Addr, .v .Addr]) : evalF C20 Try.f20 (Try.f20.body.getD .skip) an20 (plains 2) [] [(false, 1)] [.v .bool] (encTup [.v .Addr, .v .Addr] x) = laws_eqAddr.raw x.1 x.2 := by kernel_rfl
theorem c20 : Contract Try.prog 20 ci20 :=
  evalF_ok (C := C20) (tnOk_of tn_mixed tn_ok _ _) phi_nil Try.func20 (by kernel_rfl : Try.f20.body = some (Try.f20.body.getD .skip)) (by kernel_rfl) (by kernel_rfl) an20 (plains 2) [] [(false, 1)] [.v .Addr, .v .Addr] [.v .bool] (fun x => some ((fun (a0 : G.Addr) (a1 : G.Addr) => eqq a0 a1) x.1 x.2)) rfl (by kernel_rfl)
    fun x r hb h => (e20 x).trans ((laws_eqAddr.ok hb).trans h)

def an76 : An := ⟨[], [], [], [], []⟩
noncomputable def C76 : Cx := ⟨Try.prog, tnT, fun f => lookC f [(20, ci20), (38, ci38)], 65⟩
noncomputable def ci76 : CInfo := ⟨(plains 2), TyTup [.v .Note, .v .Note], TyTup [.v .bool], decTup [.v .Note, .v .Note], fun x => some ((fun (a0 : G.Note) (a1 : G.Note) => eqq a0 a1) x.1 x.2), flatTup [.v .bool], [(false, 1)], []⟩
theorem e76 (x : TyTup [.v .Note, .v .Note]) : evalF C76 Try.f76 (Try.f76.body.getD .skip) an76 (plains 2) [] [(false, 1)] [.v .bool] (encTup [.v .Note, .v .Note] x) = laws_eqNote.raw x.1 x.2 := by kernel_rfl
theorem c76 : Contract Try.prog 76 ci76 :=
  evalF_ok (C := C76) (tnOk_of tn_mixed tn_ok _ _) (phi_cons c20 (phi_cons c38 phi_nil)) Try.func76 (by kernel_rfl : Try.f76.body = some (Try.f76.body.getD .skip)) (by kernel_rfl) (by kernel_rfl) an76 (plains 2) [] [(false, 1)] [.v .Note, .v .Note] [.v .bool] (fun x => some ((fun (a0 : G.Note) (a1 : G.Note) => eqq a0 a1) x.1 x.2)) rfl (by kernel_rfl)
    fun x r hb h => (e76 x).trans ((laws_eqNote.ok hb).trans h)

def an37 : An := ⟨[], [(0, ⟨[], [(4, 5), (11, 26)], []⟩)], [(4, ⟨[.slot 5 (.v .int)], [(4, 4), (11, 26)], []⟩)], [], []⟩
noncomputable def C37 : Cx := ⟨Try.prog, tnT, fun f => lookC f [(76, ci76)], 27⟩
noncomputable def ci37 : CInfo := ⟨(plains 2), TyTup [.sl .Note, .sl .Note], TyTup [.v .bool], decTup [.sl .Note, .sl .Note], fun x => some ((fun (a0 : List G.Note) (a1 : List G.Note) => eqq a0 a1) x.1 x.2), flatTup [.v .bool], [(false, 1)], []⟩
theorem e37 (x : TyTup [.sl .Note, .sl .Note]) : evalF C37 Try.f37 (Try.f37.body.getD .skip) an37 (plains 2) [] [(false, 1)] [.v .bool] (encTup [.sl .Note, .sl .Note] x) = laws_eqNoteS.raw x.1 x.2 := by kernel_rfl
theorem c37 : Contract Try.prog 37 ci37 :=
  evalF_ok (C := C37) (tnOk_of tn_mixed tn_ok _ _) (phi_cons c76 phi_nil) Try.func37 (by kernel_rfl : Try.f37.body = some (Try.f37.body.getD .skip)) (by kernel_rfl) (by kernel_rfl) an37 (plains 2) [] [(false, 1)] [.sl .Note, .sl .Note] [.v .bool] (fun x => some ((fun (a0 : List G.Note) (a1 : List G.Note) => eqq a0 a1) x.1 x.2)) rfl (by kernel_rfl)
    fun x r hb h => (e37 x).trans ((laws_eqNoteS.ok hb).trans h)

def an132 : An := ⟨[], [(0, ⟨[], [(4, 5), (11, 25)], []⟩)], [(4, ⟨[.slot 5 (.v .int)], [(4, 4), (11, 25)], []⟩)], [], []⟩
noncomputable def C132 : Cx := ⟨Try.prog, tnT, fun f => lookC f [], 26⟩
noncomputable def ci132 : CInfo := ⟨(plains 2), TyTup [.sl .int, .sl .int], TyTup [.v .bool], decTup [.sl .int, .sl .int], fun x => some ((fun (a0 : List Int) (a1 : List Int) => eqq a0 a1) x.1 x.2), flatTup [.v .bool], [(false, 1)], []⟩
theorem e132 (x : TyTup [.sl .int, .sl .int]) : evalF C132 Try.f132 (Try.f132.body.getD .skip) an132 (plains 2) [] [(false, 1)] [.v .bool] (encTup [.sl .int, .sl .int] x) = laws_eqIntS.raw x.1 x.2 := by kernel_rfl
theorem c132 : Contract Try.prog 132 ci132 :=
  evalF_ok (C := C132) (tnOk_of tn_mixed tn_ok _ _) phi_nil Try.func132 (by kernel_rfl : Try.f132.body = some (Try.f132.body.getD .skip)) (by kernel_rfl) (by kernel_rfl) an132 (plains 2) [] [(false, 1)] [.sl .int, .sl .int] [.v .bool] (fun x => some ((fun (a0 : List Int) (a1 : List Int) => eqq a0 a1) x.1 x.2)) rfl (by kernel_rfl)
    fun x r hb h => (e132 x).trans ((laws_eqIntS.ok hb).trans h)

def an123 : An := ⟨[], [], [], [], []⟩
noncomputable def C123 : Cx := ⟨Try.prog, tnT, fun f => lookC f [(132, ci132)], 16⟩
noncomputable def ci123 : CInfo := ⟨(plains 2), TyTup [.v .Win, .v .Win], TyTup [.v .bool], decTup [.v .Win, .v .Win], fun x => some ((fun (a0 : G.Win) (a1 : G.Win) => eqq a0 a1) x.1 x.2), flatTup [.v .bool], [(false, 1)], []⟩
theorem e123 (x : TyTup [.v .Win, .v .Win]) : evalF C123 Try.f123 (Try.f123.body.getD .skip) an123 (plains 2) [] [(false, 1)] [.v .bool] (encTup [.v .Win, .v .Win] x) = laws_eqWin.raw x.1 x.2 := by kernel_rfl
theorem c123 : Contract Try.prog 123 ci123 :=
  evalF_ok (C := C123) (tnOk_of tn_mixed tn_ok _ _) (phi_cons c132 phi_nil) Try.func123 (by kernel_rfl : Try.f123.body = some (Try.f123.body.getD .skip)) (by kernel_rfl) (by kernel_rfl) an123 (plains 2) [] [(false, 1)] [.v .Win, .v .Win] [.v .bool] (fun x => some ((fun (a0 : G.Win) (a1 : G.Win) => eqq a0 a1) x.1 x.2)) rfl (by kernel_rfl)
    fun x r hb h => (e123 x).trans ((laws_eqWin.ok hb).trans h)

def an96 : An := ⟨[], [], [], [], []⟩
noncomputable def C96 : Cx := ⟨Try.prog, tnT, fun f => lookC f [(38, ci38), (123, ci123)], 27⟩
noncomputable def ci96 : CInfo := ⟨(plains 2), TyTup [.v .Ep, .v .Ep], TyTup [.v .bool], decTup [.v .Ep, .v .Ep], fun x => some ((fun (a0 : G.Ep) (a1 : G.Ep) => eqq a0 a1) x.1 x.2), flatTup [.v .bool], [(false, 1)], []⟩
theorem e96 (x : TyTup [.v .Ep, .v .Ep]) : evalF C96 Try.f96 (Try.f96.body.getD .skip) an96 (plains 2) [] [(false, 1)] [.v .bool] (encTup [.v .Ep, .v .Ep] x) = laws_eqEp.raw x.1 x.2 := by kernel_rfl
theorem c96 : Contract Try.prog 96 ci96 :=
  evalF_ok (C := C96) (tnOk_of tn_mixed tn_ok _ _) (phi_cons c38 (phi_cons c123 phi_nil)) Try.func96 (by kernel_rfl : Try.f96.body = some (Try.f96.body.getD .skip)) (by kernel_rfl) (by kernel_rfl) an96 (plains 2) [] [(false, 1)] [.v .Ep, .v .Ep] [.v .bool] (fun x => some ((fun (a0 : G.Ep) (a1 : G.Ep) => eqq a0 a1) x.1 x.2)) rfl (by kernel_rfl)
    fun x r hb h => (e96 x).trans ((laws_eqEp.ok hb).trans h)

def an57 : An := ⟨[], [], [], [], []⟩
noncomputable def C57 : Cx := ⟨Try.prog, tnT, fun f => lookC f [(38, ci38), (96, ci96)], 44⟩
noncomputable def ci57 : CInfo := ⟨(plains 2), TyTup [.v .Chan, .v .Chan], TyTup [.v .bool], decTup [.v .Chan, .v .Chan], fun x => some ((fun (a0 : G.Chan) (a1 : G.Chan) => eqq a0 a1) x.1 x.2), flatTup [.v .bool], [(false, 1)], []⟩
theorem e57 (x : TyTup [.v .Chan, .v .Chan]) : evalF C57 Try.f57 (Try.f57.body.getD .skip) an57 (plains 2) [] [(false, 1)] [.v .bool] (encTup [.v .Chan, .v .Chan] x) = laws_eqChan.raw x.1 x.2 := by kernel_rfl
theorem c57 : Contract Try.prog 57 ci57 :=
  evalF_ok (C := C57) (tnOk_of tn_mixed tn_ok _ _) (phi_cons c38 (phi_cons c96 phi_nil)) Try.func57 (by kernel_rfl : Try.f57.body = some (Try.f57.body.getD .skip)) (by kernel_rfl) (by kernel_rfl) an57 (plains 2) [] [(false, 1)] [.v .Chan, .v .Chan] [.v .bool] (fun x => some ((fun (a0 : G.Chan) (a1 : G.Chan) => eqq a0 a1) x.1 x.2)) rfl (by kernel_rfl)
    fun x r hb h => (e57 x).trans ((laws_eqChan.ok hb).trans h)

def an15 : An := ⟨[], [], [], [], []⟩
noncomputable def C15 : Cx := ⟨Try.prog, tnT, fun f => lookC f [(32, ci32), (34, ci34), (37, ci37), (53, ci53), (54, ci54), (55, ci55), (56, ci56), (57, ci57)], 45⟩
noncomputable def ci15 : CInfo := ⟨(plains 2), TyTup [.sl .Note, .v .Chan], TyTup [.v .bool], decTup [.sl .Note, .v .Chan], fun x => some ((fun (a0 : List G.Note) (a1 : G.Chan) => always2 a0 a1) x.1 x.2), flatTup [.v .bool], [(false, 1)], []⟩
theorem e15 (x : TyTup [.sl .Note, .v .Chan]) : evalF C15 Try.f15 (Try.f15.body.getD .skip) an15 (plains 2) [] [(false, 1)] [.v .bool] (encTup [.sl .Note, .v .Chan] x) = laws_FnExactErased.raw x.1 x.2 := by kernel_rfl
theorem c15 : Contract Try.prog 15 ci15 :=
  evalF_ok (C := C15) (tnOk_of tn_mixed tn_ok _ _) (phi_cons c32 (phi_cons c34 (phi_cons c37 (phi_cons c53 (phi_cons c54 (phi_cons c55 (phi_cons c56 (phi_cons c57 phi_nil)))))))) Try.func15 (by kernel_rfl : Try.f15.body = some (Try.f15.body.getD .skip)) (by kernel_rfl) (by kernel_rfl) an15 (plains 2) [] [(false, 1)] [.sl .Note, .v .Chan] [.v .bool] (fun x => some ((fun (a0 : List G.Note) (a1 : G.Chan) => always2 a0 a1) x.1 x.2)) rfl (by kernel_rfl)
    fun x r hb h => (e15 x).trans ((laws_FnExactErased.ok hb).trans h)

end Go.D

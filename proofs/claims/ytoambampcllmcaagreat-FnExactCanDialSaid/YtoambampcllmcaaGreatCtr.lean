/-
  The functions of the program: each computes what is said of it.
-/
import Derived.Test.YtoambampcllmcaaGreatN6
import Derived.Test.YtoambampcllmcaaGreatProg
import Derived.KernelRfl
namespace Go.D
open Go.Proofs

def tnT : TypeId → Option TN := fun t => look t [(3, .int), (5, .byte), (24, .bs), (88, .Client), (92, .Note), (111, .Sess), (118, .Cand), (133, .Client), (140, .Wire), (143, .Note), (150, .Wire), (175, .Credit), (190, .Credit), (205, .Sess), (244, .Cand)]
theorem tn_mixed : Tryz.prog.follows .mixedOrders = true := by kernel_rfl
theorem tn_ok : tnAll Tryz.prog [(3, .int), (5, .byte), (24, .bs), (88, .Client), (92, .Note), (111, .Sess), (118, .Cand), (133, .Client), (140, .Wire), (143, .Note), (150, .Wire), (175, .Credit), (190, .Credit), (205, .Sess), (244, .Cand)] = true := by kernel_rfl

def an84 : An := ⟨[], [], [], [], []⟩
noncomputable def C84 : Cx := ⟨Tryz.prog, tnT, fun f => lookC f [], 12⟩
noncomputable def ci84 : CInfo := ⟨(plains 2), TyTup [.sl .byte, .v .int], TyTup [.v .int], decTup [.sl .byte, .v .int], fun x => (fun (a0 : List UInt8) (a1 : Int) => szO a0 a1) x.1 x.2, flatTup [.v .int], [(false, 1)], []⟩
theorem e84 (x : TyTup [.sl .byte, .v .int]) : evalF C84 Tryz.f84 (Tryz.f84.body.getD .skip) an84 (plains 2) [] [(false, 1)] [.v .int] (encTup [.sl .byte, .v .int] x) = laws_szByteS.raw x.1 x.2 := by kernel_rfl
theorem c84 : Contract Tryz.prog 84 ci84 :=
  evalF_ok (C := C84) (tnOk_of tn_mixed tn_ok _ _) phi_nil Tryz.func84 (by kernel_rfl : Tryz.f84.body = some (Tryz.f84.body.getD .skip)) (by kernel_rfl) (by kernel_rfl) an84 (plains 2) [] [(false, 1)] [.sl .byte, .v .int] [.v .int] (fun x => (fun (a0 : List UInt8) (a1 : Int) => szO a0 a1) x.1 x.2) rfl (by kernel_rfl)
    fun x r hb h => (e84 x).trans (laws_szByteS.ok hb h)

def an135 : An := ⟨[], [], [], [], []⟩
noncomputable def C135 : Cx := ⟨Tryz.prog, tnT, fun f => lookC f [(84, ci84)], 42⟩
noncomputable def ci135 : CInfo := ⟨(plains 2), TyTup [.v .Frame, .v .int], TyTup [.v .int], decTup [.v .Frame, .v .int], fun x => (fun (a0 : G.Frame) (a1 : Int) => szO a0 a1) x.1 x.2, flatTup [.v .int], [(false, 1)], []⟩
theorem e135 (x : TyTup [.v .Frame, .v .int]) : evalF C135 Tryz.f135 (Tryz.f135.body.getD .skip) an135 (plains 2) [] [(false, 1)] [.v .int] (encTup [.v .Frame, .v .int] x) = laws_szFrame.raw x.1 x.2 := by kernel_rfl
theorem c135 : Contract Tryz.prog 135 ci135 :=
  evalF_ok (C := C135) (tnOk_of tn_mixed tn_ok _ _) (phi_cons c84 phi_nil) Tryz.func135 (by kernel_rfl : Tryz.f135.body = some (Tryz.f135.body.getD .skip)) (by kernel_rfl) (by kernel_rfl) an135 (plains 2) [] [(false, 1)] [.v .Frame, .v .int] [.v .int] (fun x => (fun (a0 : G.Frame) (a1 : Int) => szO a0 a1) x.1 x.2) rfl (by kernel_rfl)
    fun x r hb h => (e135 x).trans (laws_szFrame.ok hb h)

def an203 : An := ⟨[], [], [], [], []⟩
noncomputable def C203 : Cx := ⟨Tryz.prog, tnT, fun f => lookC f [], 12⟩
noncomputable def ci203 : CInfo := ⟨(plains 2), TyTup [.sl .int, .v .int], TyTup [.v .int], decTup [.sl .int, .v .int], fun x => (fun (a0 : List Int) (a1 : Int) => szO a0 a1) x.1 x.2, flatTup [.v .int], [(false, 1)], []⟩
theorem e203 (x : TyTup [.sl .int, .v .int]) : evalF C203 Tryz.f203 (Tryz.f203.body.getD .skip) an203 (plains 2) [] [(false, 1)] [.v .int] (encTup [.sl .int, .v .int] x) = laws_szIntS.raw x.1 x.2 := by kernel_rfl
theorem c203 : Contract Tryz.prog 203 ci203 :=
  evalF_ok (C := C203) (tnOk_of tn_mixed tn_ok _ _) phi_nil Tryz.func203 (by kernel_rfl : Tryz.f203.body = some (Tryz.f203.body.getD .skip)) (by kernel_rfl) (by kernel_rfl) an203 (plains 2) [] [(false, 1)] [.sl .int, .v .int] [.v .int] (fun x => (fun (a0 : List Int) (a1 : Int) => szO a0 a1) x.1 x.2) rfl (by kernel_rfl)
    fun x r hb h => (e203 x).trans (laws_szIntS.ok hb h)

def an185 : An := ⟨[], [], [], [], []⟩
noncomputable def C185 : Cx := ⟨Tryz.prog, tnT, fun f => lookC f [(203, ci203)], 12⟩
noncomputable def ci185 : CInfo := ⟨(plains 2), TyTup [.v .Win, .v .int], TyTup [.v .int], decTup [.v .Win, .v .int], fun x => (fun (a0 : G.Win) (a1 : Int) => szO a0 a1) x.1 x.2, flatTup [.v .int], [(false, 1)], []⟩
theorem e185 (x : TyTup [.v .Win, .v .int]) : evalF C185 Tryz.f185 (Tryz.f185.body.getD .skip) an185 (plains 2) [] [(false, 1)] [.v .int] (encTup [.v .Win, .v .int] x) = laws_szWin.raw x.1 x.2 := by kernel_rfl
theorem c185 : Contract Tryz.prog 185 ci185 :=
  evalF_ok (C := C185) (tnOk_of tn_mixed tn_ok _ _) (phi_cons c203 phi_nil) Tryz.func185 (by kernel_rfl : Tryz.f185.body = some (Tryz.f185.body.getD .skip)) (by kernel_rfl) (by kernel_rfl) an185 (plains 2) [] [(false, 1)] [.v .Win, .v .int] [.v .int] (fun x => (fun (a0 : G.Win) (a1 : Int) => szO a0 a1) x.1 x.2) rfl (by kernel_rfl)
    fun x r hb h => (e185 x).trans (laws_szWin.ok hb h)

def an166 : An := ⟨[], [], [], [], []⟩
noncomputable def C166 : Cx := ⟨Tryz.prog, tnT, fun f => lookC f [(84, ci84), (185, ci185)], 18⟩
noncomputable def ci166 : CInfo := ⟨(plains 2), TyTup [.v .Ep, .v .int], TyTup [.v .int], decTup [.v .Ep, .v .int], fun x => (fun (a0 : G.Ep) (a1 : Int) => szO a0 a1) x.1 x.2, flatTup [.v .int], [(false, 1)], []⟩
theorem e166 (x : TyTup [.v .Ep, .v .int]) : evalF C166 Tryz.f166 (Tryz.f166.body.getD .skip) an166 (plains 2) [] [(false, 1)] [.v .int] (encTup [.v .Ep, .v .int] x) = laws_szEp.raw x.1 x.2 := by kernel_rfl
theorem c166 : Contract Tryz.prog 166 ci166 :=
  evalF_ok (C := C166) (tnOk_of tn_mixed tn_ok _ _) (phi_cons c84 (phi_cons c185 phi_nil)) Tryz.func166 (by kernel_rfl : Tryz.f166.body = some (Tryz.f166.body.getD .skip)) (by kernel_rfl) (by kernel_rfl) an166 (plains 2) [] [(false, 1)] [.v .Ep, .v .int] [.v .int] (fun x => (fun (a0 : G.Ep) (a1 : Int) => szO a0 a1) x.1 x.2) rfl (by kernel_rfl)
    fun x r hb h => (e166 x).trans (laws_szEp.ok hb h)

def an136 : An := ⟨[], [], [], [], []⟩
noncomputable def C136 : Cx := ⟨Tryz.prog, tnT, fun f => lookC f [(84, ci84), (166, ci166)], 30⟩
noncomputable def ci136 : CInfo := ⟨(plains 2), TyTup [.v .Chan, .v .int], TyTup [.v .int], decTup [.v .Chan, .v .int], fun x => (fun (a0 : G.Chan) (a1 : Int) => szO a0 a1) x.1 x.2, flatTup [.v .int], [(false, 1)], []⟩
theorem e136 (x : TyTup [.v .Chan, .v .int]) : evalF C136 Tryz.f136 (Tryz.f136.body.getD .skip) an136 (plains 2) [] [(false, 1)] [.v .int] (encTup [.v .Chan, .v .int] x) = laws_szChan.raw x.1 x.2 := by kernel_rfl
theorem c136 : Contract Tryz.prog 136 ci136 :=
  evalF_ok (C := C136) (tnOk_of tn_mixed tn_ok _ _) (phi_cons c84 (phi_cons c166 phi_nil)) Tryz.func136 (by kernel_rfl : Tryz.f136.body = some (Tryz.f136.body.getD .skip)) (by kernel_rfl) (by kernel_rfl) an136 (plains 2) [] [(false, 1)] [.v .Chan, .v .int] [.v .int] (fun x => (fun (a0 : G.Chan) (a1 : Int) => szO a0 a1) x.1 x.2) rfl (by kernel_rfl)
    fun x r hb h => (e136 x).trans (laws_szChan.ok hb h)

def an80 : An := ⟨[], [], [], [], []⟩
noncomputable def C80 : Cx := ⟨Tryz.prog, tnT, fun f => lookC f [(84, ci84), (135, ci135), (136, ci136)], 30⟩
noncomputable def ci80 : CInfo := ⟨(plains 2), TyTup [.v .Client, .v .int], TyTup [.v .int], decTup [.v .Client, .v .int], fun x => (fun (a0 : G.Client) (a1 : Int) => szO a0 a1) x.1 x.2, flatTup [.v .int], [(false, 1)], []⟩
theorem e80 (x : TyTup [.v .Client, .v .int]) : evalF C80 Tryz.f80 (Tryz.f80.body.getD .skip) an80 (plains 2) [] [(false, 1)] [.v .int] (encTup [.v .Client, .v .int] x) = laws_szClient.raw x.1 x.2 := by kernel_rfl
theorem c80 : Contract Tryz.prog 80 ci80 :=
  evalF_ok (C := C80) (tnOk_of tn_mixed tn_ok _ _) (phi_cons c84 (phi_cons c135 (phi_cons c136 phi_nil))) Tryz.func80 (by kernel_rfl : Tryz.f80.body = some (Tryz.f80.body.getD .skip)) (by kernel_rfl) (by kernel_rfl) an80 (plains 2) [] [(false, 1)] [.v .Client, .v .int] [.v .int] (fun x => (fun (a0 : G.Client) (a1 : Int) => szO a0 a1) x.1 x.2) rfl (by kernel_rfl)
    fun x r hb h => (e80 x).trans (laws_szClient.ok hb h)

def an31 : An := ⟨[], [(0, ⟨[.slot 1 (.v .int)], [(4, 5), (12, 25)], []⟩)], [(5, ⟨[.slot 1 (.v .int), .slot 5 (.v .int)], [(4, 4), (12, 25)], []⟩)], [], []⟩
noncomputable def C31 : Cx := ⟨Tryz.prog, tnT, fun f => lookC f [(80, ci80)], 27⟩
noncomputable def ci31 : CInfo := ⟨(plains 2), TyTup [.sl .Client, .v .int], TyTup [.v .int], decTup [.sl .Client, .v .int], fun x => (fun (a0 : List G.Client) (a1 : Int) => szO a0 a1) x.1 x.2, flatTup [.v .int], [(false, 1)], []⟩
theorem e31 (x : TyTup [.sl .Client, .v .int]) : evalF C31 Tryz.f31 (Tryz.f31.body.getD .skip) an31 (plains 2) [] [(false, 1)] [.v .int] (encTup [.sl .Client, .v .int] x) = laws_szClientS.raw x.1 x.2 := by kernel_rfl
theorem c31 : Contract Tryz.prog 31 ci31 :=
  evalF_ok (C := C31) (tnOk_of tn_mixed tn_ok _ _) (phi_cons c80 phi_nil) Tryz.func31 (by kernel_rfl : Tryz.f31.body = some (Tryz.f31.body.getD .skip)) (by kernel_rfl) (by kernel_rfl) an31 (plains 2) [] [(false, 1)] [.sl .Client, .v .int] [.v .int] (fun x => (fun (a0 : List G.Client) (a1 : Int) => szO a0 a1) x.1 x.2) rfl (by kernel_rfl)
    fun x r hb h => (e31 x).trans (laws_szClientS.ok hb h)

def an35 : An := ⟨[], [(0, ⟨[.slot 1 (.v .int)], [(4, 5), (12, 25)], []⟩)], [(5, ⟨[.slot 1 (.v .int), .slot 5 (.v .int)], [(4, 4), (12, 25)], []⟩)], [], []⟩
noncomputable def C35 : Cx := ⟨Tryz.prog, tnT, fun f => lookC f [(84, ci84)], 27⟩
noncomputable def ci35 : CInfo := ⟨(plains 2), TyTup [.sl .bs, .v .int], TyTup [.v .int], decTup [.sl .bs, .v .int], fun x => (fun (a0 : List (List UInt8)) (a1 : Int) => szO a0 a1) x.1 x.2, flatTup [.v .int], [(false, 1)], []⟩
theorem e35 (x : TyTup [.sl .bs, .v .int]) : evalF C35 Tryz.f35 (Tryz.f35.body.getD .skip) an35 (plains 2) [] [(false, 1)] [.v .int] (encTup [.sl .bs, .v .int] x) = laws_szByteSS.raw x.1 x.2 := by kernel_rfl
theorem c35 : Contract Tryz.prog 35 ci35 :=
  evalF_ok (C := C35) (tnOk_of tn_mixed tn_ok _ _) (phi_cons c84 phi_nil) Tryz.func35 (by kernel_rfl : Tryz.f35.body = some (Tryz.f35.body.getD .skip)) (by kernel_rfl) (by kernel_rfl) an35 (plains 2) [] [(false, 1)] [.sl .bs, .v .int] [.v .int] (fun x => (fun (a0 : List (List UInt8)) (a1 : Int) => szO a0 a1) x.1 x.2) rfl (by kernel_rfl)
    fun x r hb h => (e35 x).trans (laws_szByteSS.ok hb h)

def an81 : An := ⟨[], [], [], [], []⟩
noncomputable def C81 : Cx := ⟨Tryz.prog, tnT, fun f => lookC f [(84, ci84)], 12⟩
noncomputable def ci81 : CInfo := ⟨(plains 2), TyTup [.v .Jar, .v .int], TyTup [.v .int], decTup [.v .Jar, .v .int], fun x => (fun (a0 : G.Jar) (a1 : Int) => szO a0 a1) x.1 x.2, flatTup [.v .int], [(false, 1)], []⟩
theorem e81 (x : TyTup [.v .Jar, .v .int]) : evalF C81 Tryz.f81 (Tryz.f81.body.getD .skip) an81 (plains 2) [] [(false, 1)] [.v .int] (encTup [.v .Jar, .v .int] x) = laws_szJar.raw x.1 x.2 := by kernel_rfl
theorem c81 : Contract Tryz.prog 81 ci81 :=
  evalF_ok (C := C81) (tnOk_of tn_mixed tn_ok _ _) (phi_cons c84 phi_nil) Tryz.func81 (by kernel_rfl : Tryz.f81.body = some (Tryz.f81.body.getD .skip)) (by kernel_rfl) (by kernel_rfl) an81 (plains 2) [] [(false, 1)] [.v .Jar, .v .int] [.v .int] (fun x => (fun (a0 : G.Jar) (a1 : Int) => szO a0 a1) x.1 x.2) rfl (by kernel_rfl)
    fun x r hb h => (e81 x).trans (laws_szJar.ok hb h)

def an33 : An := ⟨[], [], [], [], []⟩
noncomputable def C33 : Cx := ⟨Tryz.prog, tnT, fun f => lookC f [(84, ci84)], 12⟩
noncomputable def ci33 : CInfo := ⟨(plains 2), TyTup [.v .Dice, .v .int], TyTup [.v .int], decTup [.v .Dice, .v .int], fun x => (fun (a0 : G.Dice) (a1 : Int) => szO a0 a1) x.1 x.2, flatTup [.v .int], [(false, 1)], []⟩
theorem e33 (x : TyTup [.v .Dice, .v .int]) : evalF C33 Tryz.f33 (Tryz.f33.body.getD .skip) an33 (plains 2) [] [(false, 1)] [.v .int] (encTup [.v .Dice, .v .int] x) = laws_szDice.raw x.1 x.2 := by kernel_rfl
theorem c33 : Contract Tryz.prog 33 ci33 :=
  evalF_ok (C := C33) (tnOk_of tn_mixed tn_ok _ _) (phi_cons c84 phi_nil) Tryz.func33 (by kernel_rfl : Tryz.f33.body = some (Tryz.f33.body.getD .skip)) (by kernel_rfl) (by kernel_rfl) an33 (plains 2) [] [(false, 1)] [.v .Dice, .v .int] [.v .int] (fun x => (fun (a0 : G.Dice) (a1 : Int) => szO a0 a1) x.1 x.2) rfl (by kernel_rfl)
    fun x r hb h => (e33 x).trans (laws_szDice.ok hb h)

def an211 : An := ⟨[], [], [], [], []⟩
noncomputable def C211 : Cx := ⟨Tryz.prog, tnT, fun f => lookC f [(84, ci84)], 12⟩
noncomputable def ci211 : CInfo := ⟨(plains 2), TyTup [.v .Cand, .v .int], TyTup [.v .int], decTup [.v .Cand, .v .int], fun x => (fun (a0 : G.Cand) (a1 : Int) => szO a0 a1) x.1 x.2, flatTup [.v .int], [(false, 1)], []⟩
theorem e211 (x : TyTup [.v .Cand, .v .int]) : evalF C211 Tryz.f211 (Tryz.f211.body.getD .skip) an211 (plains 2) [] [(false, 1)] [.v .int] (encTup [.v .Cand, .v .int] x) = laws_szCand.raw x.1 x.2 := by kernel_rfl
theorem c211 : Contract Tryz.prog 211 ci211 :=
  evalF_ok (C := C211) (tnOk_of tn_mixed tn_ok _ _) (phi_cons c84 phi_nil) Tryz.func211 (by kernel_rfl : Tryz.f211.body = some (Tryz.f211.body.getD .skip)) (by kernel_rfl) (by kernel_rfl) an211 (plains 2) [] [(false, 1)] [.v .Cand, .v .int] [.v .int] (fun x => (fun (a0 : G.Cand) (a1 : Int) => szO a0 a1) x.1 x.2) rfl (by kernel_rfl)
    fun x r hb h => (e211 x).trans (laws_szCand.ok hb h)

def an204 : An := ⟨[], [(0, ⟨[.slot 1 (.v .int)], [(4, 5), (12, 25)], []⟩)], [(5, ⟨[.slot 1 (.v .int), .slot 5 (.v .int)], [(4, 4), (12, 25)], []⟩)], [], []⟩
noncomputable def C204 : Cx := ⟨Tryz.prog, tnT, fun f => lookC f [(211, ci211)], 27⟩
noncomputable def ci204 : CInfo := ⟨(plains 2), TyTup [.sl .Cand, .v .int], TyTup [.v .int], decTup [.sl .Cand, .v .int], fun x => (fun (a0 : List G.Cand) (a1 : Int) => szO a0 a1) x.1 x.2, flatTup [.v .int], [(false, 1)], []⟩
theorem e204 (x : TyTup [.sl .Cand, .v .int]) : evalF C204 Tryz.f204 (Tryz.f204.body.getD .skip) an204 (plains 2) [] [(false, 1)] [.v .int] (encTup [.sl .Cand, .v .int] x) = laws_szCandS.raw x.1 x.2 := by kernel_rfl
theorem c204 : Contract Tryz.prog 204 ci204 :=
  evalF_ok (C := C204) (tnOk_of tn_mixed tn_ok _ _) (phi_cons c211 phi_nil) Tryz.func204 (by kernel_rfl : Tryz.f204.body = some (Tryz.f204.body.getD .skip)) (by kernel_rfl) (by kernel_rfl) an204 (plains 2) [] [(false, 1)] [.sl .Cand, .v .int] [.v .int] (fun x => (fun (a0 : List G.Cand) (a1 : Int) => szO a0 a1) x.1 x.2) rfl (by kernel_rfl)
    fun x r hb h => (e204 x).trans (laws_szCandS.ok hb h)

def an186 : An := ⟨[], [], [], [], []⟩
noncomputable def C186 : Cx := ⟨Tryz.prog, tnT, fun f => lookC f [(204, ci204)], 12⟩
noncomputable def ci186 : CInfo := ⟨(plains 2), TyTup [.v .Paths, .v .int], TyTup [.v .int], decTup [.v .Paths, .v .int], fun x => (fun (a0 : G.Paths) (a1 : Int) => szO a0 a1) x.1 x.2, flatTup [.v .int], [(false, 1)], []⟩
theorem e186 (x : TyTup [.v .Paths, .v .int]) : evalF C186 Tryz.f186 (Tryz.f186.body.getD .skip) an186 (plains 2) [] [(false, 1)] [.v .int] (encTup [.v .Paths, .v .int] x) = laws_szPaths.raw x.1 x.2 := by kernel_rfl
theorem c186 : Contract Tryz.prog 186 ci186 :=
  evalF_ok (C := C186) (tnOk_of tn_mixed tn_ok _ _) (phi_cons c204 phi_nil) Tryz.func186 (by kernel_rfl : Tryz.f186.body = some (Tryz.f186.body.getD .skip)) (by kernel_rfl) (by kernel_rfl) an186 (plains 2) [] [(false, 1)] [.v .Paths, .v .int] [.v .int] (fun x => (fun (a0 : G.Paths) (a1 : Int) => szO a0 a1) x.1 x.2) rfl (by kernel_rfl)
    fun x r hb h => (e186 x).trans (laws_szPaths.ok hb h)

def an167 : An := ⟨[], [], [], [], []⟩
noncomputable def C167 : Cx := ⟨Tryz.prog, tnT, fun f => lookC f [(84, ci84), (136, ci136), (186, ci186)], 30⟩
noncomputable def ci167 : CInfo := ⟨(plains 2), TyTup [.v .Sess, .v .int], TyTup [.v .int], decTup [.v .Sess, .v .int], fun x => (fun (a0 : G.Sess) (a1 : Int) => szO a0 a1) x.1 x.2, flatTup [.v .int], [(false, 1)], []⟩
theorem e167 (x : TyTup [.v .Sess, .v .int]) : evalF C167 Tryz.f167 (Tryz.f167.body.getD .skip) an167 (plains 2) [] [(false, 1)] [.v .int] (encTup [.v .Sess, .v .int] x) = laws_szSess.raw x.1 x.2 := by kernel_rfl
theorem c167 : Contract Tryz.prog 167 ci167 :=
  evalF_ok (C := C167) (tnOk_of tn_mixed tn_ok _ _) (phi_cons c84 (phi_cons c136 (phi_cons c186 phi_nil))) Tryz.func167 (by kernel_rfl : Tryz.f167.body = some (Tryz.f167.body.getD .skip)) (by kernel_rfl) (by kernel_rfl) an167 (plains 2) [] [(false, 1)] [.v .Sess, .v .int] [.v .int] (fun x => (fun (a0 : G.Sess) (a1 : Int) => szO a0 a1) x.1 x.2) rfl (by kernel_rfl)
    fun x r hb h => (e167 x).trans (laws_szSess.ok hb h)

def an137 : An := ⟨[], [(0, ⟨[.slot 1 (.v .int)], [(4, 5), (12, 25)], []⟩)], [(5, ⟨[.slot 1 (.v .int), .slot 5 (.v .int)], [(4, 4), (12, 25)], []⟩)], [], []⟩
noncomputable def C137 : Cx := ⟨Tryz.prog, tnT, fun f => lookC f [(167, ci167)], 27⟩
noncomputable def ci137 : CInfo := ⟨(plains 2), TyTup [.sl .Sess, .v .int], TyTup [.v .int], decTup [.sl .Sess, .v .int], fun x => (fun (a0 : List G.Sess) (a1 : Int) => szO a0 a1) x.1 x.2, flatTup [.v .int], [(false, 1)], []⟩
theorem e137 (x : TyTup [.sl .Sess, .v .int]) : evalF C137 Tryz.f137 (Tryz.f137.body.getD .skip) an137 (plains 2) [] [(false, 1)] [.v .int] (encTup [.sl .Sess, .v .int] x) = laws_szSessS.raw x.1 x.2 := by kernel_rfl
theorem c137 : Contract Tryz.prog 137 ci137 :=
  evalF_ok (C := C137) (tnOk_of tn_mixed tn_ok _ _) (phi_cons c167 phi_nil) Tryz.func137 (by kernel_rfl : Tryz.f137.body = some (Tryz.f137.body.getD .skip)) (by kernel_rfl) (by kernel_rfl) an137 (plains 2) [] [(false, 1)] [.sl .Sess, .v .int] [.v .int] (fun x => (fun (a0 : List G.Sess) (a1 : Int) => szO a0 a1) x.1 x.2) rfl (by kernel_rfl)
    fun x r hb h => (e137 x).trans (laws_szSessS.ok hb h)

def an82 : An := ⟨[], [], [], [], []⟩
noncomputable def C82 : Cx := ⟨Tryz.prog, tnT, fun f => lookC f [(137, ci137)], 12⟩
noncomputable def ci82 : CInfo := ⟨(plains 2), TyTup [.v .Tab, .v .int], TyTup [.v .int], decTup [.v .Tab, .v .int], fun x => (fun (a0 : G.Tab) (a1 : Int) => szO a0 a1) x.1 x.2, flatTup [.v .int], [(false, 1)], []⟩
theorem e82 (x : TyTup [.v .Tab, .v .int]) : evalF C82 Tryz.f82 (Tryz.f82.body.getD .skip) an82 (plains 2) [] [(false, 1)] [.v .int] (encTup [.v .Tab, .v .int] x) = laws_szTab.raw x.1 x.2 := by kernel_rfl
theorem c82 : Contract Tryz.prog 82 ci82 :=
  evalF_ok (C := C82) (tnOk_of tn_mixed tn_ok _ _) (phi_cons c137 phi_nil) Tryz.func82 (by kernel_rfl : Tryz.f82.body = some (Tryz.f82.body.getD .skip)) (by kernel_rfl) (by kernel_rfl) an82 (plains 2) [] [(false, 1)] [.v .Tab, .v .int] [.v .int] (fun x => (fun (a0 : G.Tab) (a1 : Int) => szO a0 a1) x.1 x.2) rfl (by kernel_rfl)
    fun x r hb h => (e82 x).trans (laws_szTab.ok hb h)

def an83 : An := ⟨[], [], [], [], []⟩
noncomputable def C83 : Cx := ⟨Tryz.prog, tnT, fun f => lookC f [], 12⟩
noncomputable def ci83 : CInfo := ⟨(plains 2), TyTup [.sl .Credit, .v .int], TyTup [.v .int], decTup [.sl .Credit, .v .int], fun x => (fun (a0 : List G.Credit) (a1 : Int) => szO a0 a1) x.1 x.2, flatTup [.v .int], [(false, 1)], []⟩
theorem e83 (x : TyTup [.sl .Credit, .v .int]) : evalF C83 Tryz.f83 (Tryz.f83.body.getD .skip) an83 (plains 2) [] [(false, 1)] [.v .int] (encTup [.sl .Credit, .v .int] x) = laws_szCreditS.raw x.1 x.2 := by kernel_rfl
theorem c83 : Contract Tryz.prog 83 ci83 :=
  evalF_ok (C := C83) (tnOk_of tn_mixed tn_ok _ _) phi_nil Tryz.func83 (by kernel_rfl : Tryz.f83.body = some (Tryz.f83.body.getD .skip)) (by kernel_rfl) (by kernel_rfl) an83 (plains 2) [] [(false, 1)] [.sl .Credit, .v .int] [.v .int] (fun x => (fun (a0 : List G.Credit) (a1 : Int) => szO a0 a1) x.1 x.2) rfl (by kernel_rfl)
    fun x r hb h => (e83 x).trans (laws_szCreditS.ok hb h)

def an32 : An := ⟨[], [], [], [], []⟩
noncomputable def C32 : Cx := ⟨Tryz.prog, tnT, fun f => lookC f [(33, ci33), (35, ci35), (81, ci81), (82, ci82), (83, ci83)], 36⟩
noncomputable def ci32 : CInfo := ⟨(plains 2), TyTup [.v .Server, .v .int], TyTup [.v .int], decTup [.v .Server, .v .int], fun x => (fun (a0 : G.Server) (a1 : Int) => szO a0 a1) x.1 x.2, flatTup [.v .int], [(false, 1)], []⟩
theorem e32 (x : TyTup [.v .Server, .v .int]) : evalF C32 Tryz.f32 (Tryz.f32.body.getD .skip) an32 (plains 2) [] [(false, 1)] [.v .int] (encTup [.v .Server, .v .int] x) = laws_szServer.raw x.1 x.2 := by kernel_rfl
theorem c32 : Contract Tryz.prog 32 ci32 :=
  evalF_ok (C := C32) (tnOk_of tn_mixed tn_ok _ _) (phi_cons c33 (phi_cons c35 (phi_cons c81 (phi_cons c82 (phi_cons c83 phi_nil))))) Tryz.func32 (by kernel_rfl : Tryz.f32.body = some (Tryz.f32.body.getD .skip)) (by kernel_rfl) (by kernel_rfl) an32 (plains 2) [] [(false, 1)] [.v .Server, .v .int] [.v .int] (fun x => (fun (a0 : G.Server) (a1 : Int) => szO a0 a1) x.1 x.2) rfl (by kernel_rfl)
    fun x r hb h => (e32 x).trans (laws_szServer.ok hb h)

def an85 : An := ⟨[], [], [], [], []⟩
noncomputable def C85 : Cx := ⟨Tryz.prog, tnT, fun f => lookC f [(84, ci84)], 12⟩
noncomputable def ci85 : CInfo := ⟨(plains 2), TyTup [.v .Wire, .v .int], TyTup [.v .int], decTup [.v .Wire, .v .int], fun x => (fun (a0 : G.Wire) (a1 : Int) => szO a0 a1) x.1 x.2, flatTup [.v .int], [(false, 1)], []⟩
theorem e85 (x : TyTup [.v .Wire, .v .int]) : evalF C85 Tryz.f85 (Tryz.f85.body.getD .skip) an85 (plains 2) [] [(false, 1)] [.v .int] (encTup [.v .Wire, .v .int] x) = laws_szWire.raw x.1 x.2 := by kernel_rfl
theorem c85 : Contract Tryz.prog 85 ci85 :=
  evalF_ok (C := C85) (tnOk_of tn_mixed tn_ok _ _) (phi_cons c84 phi_nil) Tryz.func85 (by kernel_rfl : Tryz.f85.body = some (Tryz.f85.body.getD .skip)) (by kernel_rfl) (by kernel_rfl) an85 (plains 2) [] [(false, 1)] [.v .Wire, .v .int] [.v .int] (fun x => (fun (a0 : G.Wire) (a1 : Int) => szO a0 a1) x.1 x.2) rfl (by kernel_rfl)
    fun x r hb h => (e85 x).trans (laws_szWire.ok hb h)

def an34 : An := ⟨[], [(0, ⟨[.slot 1 (.v .int)], [(4, 5), (12, 25)], []⟩)], [(5, ⟨[.slot 1 (.v .int), .slot 5 (.v .int)], [(4, 4), (12, 25)], []⟩)], [], []⟩
noncomputable def C34 : Cx := ⟨Tryz.prog, tnT, fun f => lookC f [(85, ci85)], 27⟩
noncomputable def ci34 : CInfo := ⟨(plains 2), TyTup [.sl .Wire, .v .int], TyTup [.v .int], decTup [.sl .Wire, .v .int], fun x => (fun (a0 : List G.Wire) (a1 : Int) => szO a0 a1) x.1 x.2, flatTup [.v .int], [(false, 1)], []⟩
theorem e34 (x : TyTup [.sl .Wire, .v .int]) : evalF C34 Tryz.f34 (Tryz.f34.body.getD .skip) an34 (plains 2) [] [(false, 1)] [.v .int] (encTup [.sl .Wire, .v .int] x) = laws_szWireS.raw x.1 x.2 := by kernel_rfl
theorem c34 : Contract Tryz.prog 34 ci34 :=
  evalF_ok (C := C34) (tnOk_of tn_mixed tn_ok _ _) (phi_cons c85 phi_nil) Tryz.func34 (by kernel_rfl : Tryz.f34.body = some (Tryz.f34.body.getD .skip)) (by kernel_rfl) (by kernel_rfl) an34 (plains 2) [] [(false, 1)] [.sl .Wire, .v .int] [.v .int] (fun x => (fun (a0 : List G.Wire) (a1 : Int) => szO a0 a1) x.1 x.2) rfl (by kernel_rfl)
    fun x r hb h => (e34 x).trans (laws_szWireS.ok hb h)

def an86 : An := ⟨[], [], [], [], []⟩
noncomputable def C86 : Cx := ⟨Tryz.prog, tnT, fun f => lookC f [(84, ci84)], 30⟩
noncomputable def ci86 : CInfo := ⟨(plains 2), TyTup [.v .Note, .v .int], TyTup [.v .int], decTup [.v .Note, .v .int], fun x => (fun (a0 : G.Note) (a1 : Int) => szO a0 a1) x.1 x.2, flatTup [.v .int], [(false, 1)], []⟩
theorem e86 (x : TyTup [.v .Note, .v .int]) : evalF C86 Tryz.f86 (Tryz.f86.body.getD .skip) an86 (plains 2) [] [(false, 1)] [.v .int] (encTup [.v .Note, .v .int] x) = laws_szNote.raw x.1 x.2 := by kernel_rfl
theorem c86 : Contract Tryz.prog 86 ci86 :=
  evalF_ok (C := C86) (tnOk_of tn_mixed tn_ok _ _) (phi_cons c84 phi_nil) Tryz.func86 (by kernel_rfl : Tryz.f86.body = some (Tryz.f86.body.getD .skip)) (by kernel_rfl) (by kernel_rfl) an86 (plains 2) [] [(false, 1)] [.v .Note, .v .int] [.v .int] (fun x => (fun (a0 : G.Note) (a1 : Int) => szO a0 a1) x.1 x.2) rfl (by kernel_rfl)
    fun x r hb h => (e86 x).trans (laws_szNote.ok hb h)

def an36 : An := ⟨[], [(0, ⟨[.slot 1 (.v .int)], [(4, 5), (12, 25)], []⟩)], [(5, ⟨[.slot 1 (.v .int), .slot 5 (.v .int)], [(4, 4), (12, 25)], []⟩)], [], []⟩
noncomputable def C36 : Cx := ⟨Tryz.prog, tnT, fun f => lookC f [(86, ci86)], 27⟩
noncomputable def ci36 : CInfo := ⟨(plains 2), TyTup [.sl .Note, .v .int], TyTup [.v .int], decTup [.sl .Note, .v .int], fun x => (fun (a0 : List G.Note) (a1 : Int) => szO a0 a1) x.1 x.2, flatTup [.v .int], [(false, 1)], []⟩
theorem e36 (x : TyTup [.sl .Note, .v .int]) : evalF C36 Tryz.f36 (Tryz.f36.body.getD .skip) an36 (plains 2) [] [(false, 1)] [.v .int] (encTup [.sl .Note, .v .int] x) = laws_szNoteS.raw x.1 x.2 := by kernel_rfl
theorem c36 : Contract Tryz.prog 36 ci36 :=
  evalF_ok (C := C36) (tnOk_of tn_mixed tn_ok _ _) (phi_cons c86 phi_nil) Tryz.func36 (by kernel_rfl : Tryz.f36.body = some (Tryz.f36.body.getD .skip)) (by kernel_rfl) (by kernel_rfl) an36 (plains 2) [] [(false, 1)] [.sl .Note, .v .int] [.v .int] (fun x => (fun (a0 : List G.Note) (a1 : Int) => szO a0 a1) x.1 x.2) rfl (by kernel_rfl)
    fun x r hb h => (e36 x).trans (laws_szNoteS.ok hb h)

def an11 : An := ⟨[], [], [], [], []⟩
noncomputable def C11 : Cx := ⟨Tryz.prog, tnT, fun f => lookC f [(31, ci31), (32, ci32), (33, ci33), (34, ci34), (35, ci35), (36, ci36)], 42⟩
noncomputable def ci11 : CInfo := ⟨(plains 2), TyTup [.v .World, .v .int], TyTup [.v .int], decTup [.v .World, .v .int], fun x => (fun (a0 : G.World) (a1 : Int) => szO a0 a1) x.1 x.2, flatTup [.v .int], [(false, 1)], []⟩
theorem e11 (x : TyTup [.v .World, .v .int]) : evalF C11 Tryz.f11 (Tryz.f11.body.getD .skip) an11 (plains 2) [] [(false, 1)] [.v .int] (encTup [.v .World, .v .int] x) = laws_szWorld.raw x.1 x.2 := by kernel_rfl
theorem c11 : Contract Tryz.prog 11 ci11 :=
  evalF_ok (C := C11) (tnOk_of tn_mixed tn_ok _ _) (phi_cons c31 (phi_cons c32 (phi_cons c33 (phi_cons c34 (phi_cons c35 (phi_cons c36 phi_nil)))))) Tryz.func11 (by kernel_rfl : Tryz.f11.body = some (Tryz.f11.body.getD .skip)) (by kernel_rfl) (by kernel_rfl) an11 (plains 2) [] [(false, 1)] [.v .World, .v .int] [.v .int] (fun x => (fun (a0 : G.World) (a1 : Int) => szO a0 a1) x.1 x.2) rfl (by kernel_rfl)
    fun x r hb h => (e11 x).trans (laws_szWorld.ok hb h)

def an102 : An := ⟨[], [(0, ⟨[.own 3 .byte], [(4, 4), (8, 20)], []⟩)], [(3, ⟨[.slot 4 (.v .int), .own 3 .byte], [(8, 20)], []⟩)], [], []⟩
noncomputable def C102 : Cx := ⟨Tryz.prog, tnT, fun f => lookC f [], 22⟩
noncomputable def ci102 : CInfo := ⟨(plains 1), TyTup [.sl .byte], TyTup [.sl .byte], decTup [.sl .byte], fun x => (fun (a0 : List UInt8) => cpy a0) x, flatTup [.sl .byte], [(false, 1)], [0]⟩
theorem e102 (x : TyTup [.sl .byte]) : evalF C102 Tryz.f102 (Tryz.f102.body.getD .skip) an102 (plains 1) [0] [(false, 1)] [.sl .byte] (encTup [.sl .byte] x) = laws_toByteS.raw x := by kernel_rfl
theorem c102 : Contract Tryz.prog 102 ci102 :=
  evalF_ok (C := C102) (tnOk_of tn_mixed tn_ok _ _) phi_nil Tryz.func102 (by kernel_rfl : Tryz.f102.body = some (Tryz.f102.body.getD .skip)) (by kernel_rfl) (by kernel_rfl) an102 (plains 1) [0] [(false, 1)] [.sl .byte] [.sl .byte] (fun x => (fun (a0 : List UInt8) => cpy a0) x) rfl (by kernel_rfl)
    fun x r hb h => (e102 x).trans (laws_toByteS.ok hb h)

def an27 : An := ⟨[], [], [], [], []⟩
noncomputable def C27 : Cx := ⟨Tryz.prog, tnT, fun f => lookC f [], 11⟩
noncomputable def ci27 : CInfo := ⟨(plains 1), TyTup [.v .Addr], TyTup [.v .Addr], decTup [.v .Addr], fun x => (fun (a0 : G.Addr) => cpy a0) x, flatTup [.v .Addr], [(true, 2)], []⟩
theorem e27 (x : TyTup [.v .Addr]) : evalF C27 Tryz.f27 (Tryz.f27.body.getD .skip) an27 (plains 1) [] [(true, 2)] [.v .Addr] (encTup [.v .Addr] x) = laws_toAddr.raw x := by kernel_rfl
theorem c27 : Contract Tryz.prog 27 ci27 :=
  evalF_ok (C := C27) (tnOk_of tn_mixed tn_ok _ _) phi_nil Tryz.func27 (by kernel_rfl : Tryz.f27.body = some (Tryz.f27.body.getD .skip)) (by kernel_rfl) (by kernel_rfl) an27 (plains 1) [] [(true, 2)] [.v .Addr] [.v .Addr] (fun x => (fun (a0 : G.Addr) => cpy a0) x) rfl (by kernel_rfl)
    fun x r hb h => (e27 x).trans (laws_toAddr.ok hb h)

def an143 : An := ⟨[], [], [], [], []⟩
noncomputable def C143 : Cx := ⟨Tryz.prog, tnT, fun f => lookC f [(102, ci102)], 44⟩
noncomputable def ci143 : CInfo := ⟨(plains 1), TyTup [.v .Frame], TyTup [.v .Frame], decTup [.v .Frame], fun x => (fun (a0 : G.Frame) => cpy a0) x, flatTup [.v .Frame], [(true, 11)], [2, 3, 5, 6, 9, 10]⟩
theorem e143 (x : TyTup [.v .Frame]) : evalF C143 Tryz.f143 (Tryz.f143.body.getD .skip) an143 (plains 1) [2, 3, 5, 6, 9, 10] [(true, 11)] [.v .Frame] (encTup [.v .Frame] x) = laws_toFrame.raw x := by kernel_rfl
theorem c143 : Contract Tryz.prog 143 ci143 :=
  evalF_ok (C := C143) (tnOk_of tn_mixed tn_ok _ _) (phi_cons c102 phi_nil) Tryz.func143 (by kernel_rfl : Tryz.f143.body = some (Tryz.f143.body.getD .skip)) (by kernel_rfl) (by kernel_rfl) an143 (plains 1) [2, 3, 5, 6, 9, 10] [(true, 11)] [.v .Frame] [.v .Frame] (fun x => (fun (a0 : G.Frame) => cpy a0) x) rfl (by kernel_rfl)
    fun x r hb h => (e143 x).trans (laws_toFrame.ok hb h)

def an205 : An := ⟨[], [(0, ⟨[.own 3 .int], [(4, 4), (8, 20)], []⟩)], [(3, ⟨[.slot 4 (.v .int), .own 3 .int], [(8, 20)], []⟩)], [], []⟩
noncomputable def C205 : Cx := ⟨Tryz.prog, tnT, fun f => lookC f [], 22⟩
noncomputable def ci205 : CInfo := ⟨(plains 1), TyTup [.sl .int], TyTup [.sl .int], decTup [.sl .int], fun x => (fun (a0 : List Int) => cpy a0) x, flatTup [.sl .int], [(false, 1)], [0]⟩
theorem e205 (x : TyTup [.sl .int]) : evalF C205 Tryz.f205 (Tryz.f205.body.getD .skip) an205 (plains 1) [0] [(false, 1)] [.sl .int] (encTup [.sl .int] x) = laws_toIntS.raw x := by kernel_rfl
theorem c205 : Contract Tryz.prog 205 ci205 :=
  evalF_ok (C := C205) (tnOk_of tn_mixed tn_ok _ _) phi_nil Tryz.func205 (by kernel_rfl : Tryz.f205.body = some (Tryz.f205.body.getD .skip)) (by kernel_rfl) (by kernel_rfl) an205 (plains 1) [0] [(false, 1)] [.sl .int] [.sl .int] (fun x => (fun (a0 : List Int) => cpy a0) x) rfl (by kernel_rfl)
    fun x r hb h => (e205 x).trans (laws_toIntS.ok hb h)

def an188 : An := ⟨[], [], [], [], []⟩
noncomputable def C188 : Cx := ⟨Tryz.prog, tnT, fun f => lookC f [(205, ci205)], 12⟩
noncomputable def ci188 : CInfo := ⟨(plains 1), TyTup [.v .Win], TyTup [.v .Win], decTup [.v .Win], fun x => (fun (a0 : G.Win) => cpy a0) x, flatTup [.v .Win], [(true, 2)], [1]⟩
theorem e188 (x : TyTup [.v .Win]) : evalF C188 Tryz.f188 (Tryz.f188.body.getD .skip) an188 (plains 1) [1] [(true, 2)] [.v .Win] (encTup [.v .Win] x) = laws_toWin.raw x := by kernel_rfl
theorem c188 : Contract Tryz.prog 188 ci188 :=
  evalF_ok (C := C188) (tnOk_of tn_mixed tn_ok _ _) (phi_cons c205 phi_nil) Tryz.func188 (by kernel_rfl : Tryz.f188.body = some (Tryz.f188.body.getD .skip)) (by kernel_rfl) (by kernel_rfl) an188 (plains 1) [1] [(true, 2)] [.v .Win] [.v .Win] (fun x => (fun (a0 : G.Win) => cpy a0) x) rfl (by kernel_rfl)
    fun x r hb h => (e188 x).trans (laws_toWin.ok hb h)

def an169 : An := ⟨[], [], [], [], []⟩
noncomputable def C169 : Cx := ⟨Tryz.prog, tnT, fun f => lookC f [(102, ci102), (188, ci188)], 19⟩
noncomputable def ci169 : CInfo := ⟨(plains 1), TyTup [.v .Ep], TyTup [.v .Ep], decTup [.v .Ep], fun x => (fun (a0 : G.Ep) => cpy a0) x, flatTup [.v .Ep], [(true, 5)], [1, 4]⟩
theorem e169 (x : TyTup [.v .Ep]) : evalF C169 Tryz.f169 (Tryz.f169.body.getD .skip) an169 (plains 1) [1, 4] [(true, 5)] [.v .Ep] (encTup [.v .Ep] x) = laws_toEp.raw x := by kernel_rfl
theorem c169 : Contract Tryz.prog 169 ci169 :=
  evalF_ok (C := C169) (tnOk_of tn_mixed tn_ok _ _) (phi_cons c102 (phi_cons c188 phi_nil)) Tryz.func169 (by kernel_rfl : Tryz.f169.body = some (Tryz.f169.body.getD .skip)) (by kernel_rfl) (by kernel_rfl) an169 (plains 1) [1, 4] [(true, 5)] [.v .Ep] [.v .Ep] (fun x => (fun (a0 : G.Ep) => cpy a0) x) rfl (by kernel_rfl)
    fun x r hb h => (e169 x).trans (laws_toEp.ok hb h)

def an144 : An := ⟨[], [], [], [], []⟩
noncomputable def C144 : Cx := ⟨Tryz.prog, tnT, fun f => lookC f [(102, ci102), (169, ci169)], 30⟩
noncomputable def ci144 : CInfo := ⟨(plains 1), TyTup [.v .Chan], TyTup [.v .Chan], decTup [.v .Chan], fun x => (fun (a0 : G.Chan) => cpy a0) x, flatTup [.v .Chan], [(true, 15)], [1, 3, 6, 8, 11, 14]⟩
theorem e144 (x : TyTup [.v .Chan]) : evalF C144 Tryz.f144 (Tryz.f144.body.getD .skip) an144 (plains 1) [1, 3, 6, 8, 11, 14] [(true, 15)] [.v .Chan] (encTup [.v .Chan] x) = laws_toChan.raw x := by kernel_rfl
theorem c144 : Contract Tryz.prog 144 ci144 :=
  evalF_ok (C := C144) (tnOk_of tn_mixed tn_ok _ _) (phi_cons c102 (phi_cons c169 phi_nil)) Tryz.func144 (by kernel_rfl : Tryz.f144.body = some (Tryz.f144.body.getD .skip)) (by kernel_rfl) (by kernel_rfl) an144 (plains 1) [1, 3, 6, 8, 11, 14] [(true, 15)] [.v .Chan] [.v .Chan] (fun x => (fun (a0 : G.Chan) => cpy a0) x) rfl (by kernel_rfl)
    fun x r hb h => (e144 x).trans (laws_toChan.ok hb h)

def an145 : An := ⟨[], [], [], [], []⟩
noncomputable def C145 : Cx := ⟨Tryz.prog, tnT, fun f => lookC f [], 17⟩
noncomputable def ci145 : CInfo := ⟨(plains 1), TyTup [.v .Timer], TyTup [.v .Timer], decTup [.v .Timer], fun x => (fun (a0 : G.Timer) => cpy a0) x, flatTup [.v .Timer], [(true, 4)], []⟩
theorem e145 (x : TyTup [.v .Timer]) : evalF C145 Tryz.f145 (Tryz.f145.body.getD .skip) an145 (plains 1) [] [(true, 4)] [.v .Timer] (encTup [.v .Timer] x) = laws_toTimer.raw x := by kernel_rfl
theorem c145 : Contract Tryz.prog 145 ci145 :=
  evalF_ok (C := C145) (tnOk_of tn_mixed tn_ok _ _) phi_nil Tryz.func145 (by kernel_rfl : Tryz.f145.body = some (Tryz.f145.body.getD .skip)) (by kernel_rfl) (by kernel_rfl) an145 (plains 1) [] [(true, 4)] [.v .Timer] [.v .Timer] (fun x => (fun (a0 : G.Timer) => cpy a0) x) rfl (by kernel_rfl)
    fun x r hb h => (e145 x).trans (laws_toTimer.ok hb h)

def an98 : An := ⟨[], [], [], [], []⟩
noncomputable def C98 : Cx := ⟨Tryz.prog, tnT, fun f => lookC f [(27, ci27), (102, ci102), (143, ci143), (144, ci144), (145, ci145)], 42⟩
noncomputable def ci98 : CInfo := ⟨(plains 1), TyTup [.v .Client], TyTup [.v .Client], decTup [.v .Client], fun x => (fun (a0 : G.Client) => cpy a0) x, flatTup [.v .Client], [(true, 41)], [1, 5, 8, 9, 11, 12, 15, 16, 18, 20, 23, 25, 28, 31]⟩
theorem e98 (x : TyTup [.v .Client]) : evalF C98 Tryz.f98 (Tryz.f98.body.getD .skip) an98 (plains 1) [1, 5, 8, 9, 11, 12, 15, 16, 18, 20, 23, 25, 28, 31] [(true, 41)] [.v .Client] (encTup [.v .Client] x) = laws_toClient.raw x := by kernel_rfl
theorem c98 : Contract Tryz.prog 98 ci98 :=
  evalF_ok (C := C98) (tnOk_of tn_mixed tn_ok _ _) (phi_cons c27 (phi_cons c102 (phi_cons c143 (phi_cons c144 (phi_cons c145 phi_nil))))) Tryz.func98 (by kernel_rfl : Tryz.f98.body = some (Tryz.f98.body.getD .skip)) (by kernel_rfl) (by kernel_rfl) an98 (plains 1) [1, 5, 8, 9, 11, 12, 15, 16, 18, 20, 23, 25, 28, 31] [(true, 41)] [.v .Client] [.v .Client] (fun x => (fun (a0 : G.Client) => cpy a0) x) rfl (by kernel_rfl)
    fun x r hb h => (e98 x).trans (laws_toClient.ok hb h)

def an44 : An := ⟨[], [(0, ⟨[.own 3 .Client], [(4, 4), (8, 21)], []⟩)], [(3, ⟨[.slot 4 (.v .int), .own 3 .Client], [(8, 21)], []⟩)], [], []⟩
noncomputable def C44 : Cx := ⟨Tryz.prog, tnT, fun f => lookC f [(98, ci98)], 23⟩
noncomputable def ci44 : CInfo := ⟨(plains 1), TyTup [.sl .Client], TyTup [.sl .Client], decTup [.sl .Client], fun x => (fun (a0 : List G.Client) => cpy a0) x, flatTup [.sl .Client], [(false, 1)], [0]⟩
theorem e44 (x : TyTup [.sl .Client]) : evalF C44 Tryz.f44 (Tryz.f44.body.getD .skip) an44 (plains 1) [0] [(false, 1)] [.sl .Client] (encTup [.sl .Client] x) = laws_toClientS.raw x := by kernel_rfl
theorem c44 : Contract Tryz.prog 44 ci44 :=
  evalF_ok (C := C44) (tnOk_of tn_mixed tn_ok _ _) (phi_cons c98 phi_nil) Tryz.func44 (by kernel_rfl : Tryz.f44.body = some (Tryz.f44.body.getD .skip)) (by kernel_rfl) (by kernel_rfl) an44 (plains 1) [0] [(false, 1)] [.sl .Client] [.sl .Client] (fun x => (fun (a0 : List G.Client) => cpy a0) x) rfl (by kernel_rfl)
    fun x r hb h => (e44 x).trans (laws_toClientS.ok hb h)

def an48 : An := ⟨[], [(0, ⟨[.own 3 .bs], [(4, 4), (8, 21)], []⟩)], [(3, ⟨[.slot 4 (.v .int), .own 3 .bs], [(8, 21)], []⟩)], [], []⟩
noncomputable def C48 : Cx := ⟨Tryz.prog, tnT, fun f => lookC f [(102, ci102)], 23⟩
noncomputable def ci48 : CInfo := ⟨(plains 1), TyTup [.sl .bs], TyTup [.sl .bs], decTup [.sl .bs], fun x => (fun (a0 : List (List UInt8)) => cpy a0) x, flatTup [.sl .bs], [(false, 1)], [0]⟩
theorem e48 (x : TyTup [.sl .bs]) : evalF C48 Tryz.f48 (Tryz.f48.body.getD .skip) an48 (plains 1) [0] [(false, 1)] [.sl .bs] (encTup [.sl .bs] x) = laws_toByteSS.raw x := by kernel_rfl
theorem c48 : Contract Tryz.prog 48 ci48 :=
  evalF_ok (C := C48) (tnOk_of tn_mixed tn_ok _ _) (phi_cons c102 phi_nil) Tryz.func48 (by kernel_rfl : Tryz.f48.body = some (Tryz.f48.body.getD .skip)) (by kernel_rfl) (by kernel_rfl) an48 (plains 1) [0] [(false, 1)] [.sl .bs] [.sl .bs] (fun x => (fun (a0 : List (List UInt8)) => cpy a0) x) rfl (by kernel_rfl)
    fun x r hb h => (e48 x).trans (laws_toByteSS.ok hb h)

def an99 : An := ⟨[], [], [], [], []⟩
noncomputable def C99 : Cx := ⟨Tryz.prog, tnT, fun f => lookC f [(102, ci102)], 9⟩
noncomputable def ci99 : CInfo := ⟨(plains 1), TyTup [.v .Jar], TyTup [.v .Jar], decTup [.v .Jar], fun x => (fun (a0 : G.Jar) => cpy a0) x, flatTup [.v .Jar], [(true, 1)], [0]⟩
theorem e99 (x : TyTup [.v .Jar]) : evalF C99 Tryz.f99 (Tryz.f99.body.getD .skip) an99 (plains 1) [0] [(true, 1)] [.v .Jar] (encTup [.v .Jar] x) = laws_toJar.raw x := by kernel_rfl
theorem c99 : Contract Tryz.prog 99 ci99 :=
  evalF_ok (C := C99) (tnOk_of tn_mixed tn_ok _ _) (phi_cons c102 phi_nil) Tryz.func99 (by kernel_rfl : Tryz.f99.body = some (Tryz.f99.body.getD .skip)) (by kernel_rfl) (by kernel_rfl) an99 (plains 1) [0] [(true, 1)] [.v .Jar] [.v .Jar] (fun x => (fun (a0 : G.Jar) => cpy a0) x) rfl (by kernel_rfl)
    fun x r hb h => (e99 x).trans (laws_toJar.ok hb h)

def an46 : An := ⟨[], [], [], [], []⟩
noncomputable def C46 : Cx := ⟨Tryz.prog, tnT, fun f => lookC f [(102, ci102)], 12⟩
noncomputable def ci46 : CInfo := ⟨(plains 1), TyTup [.v .Dice], TyTup [.v .Dice], decTup [.v .Dice], fun x => (fun (a0 : G.Dice) => cpy a0) x, flatTup [.v .Dice], [(true, 2)], [0]⟩
theorem e46 (x : TyTup [.v .Dice]) : evalF C46 Tryz.f46 (Tryz.f46.body.getD .skip) an46 (plains 1) [0] [(true, 2)] [.v .Dice] (encTup [.v .Dice] x) = laws_toDice.raw x := by kernel_rfl
theorem c46 : Contract Tryz.prog 46 ci46 :=
  evalF_ok (C := C46) (tnOk_of tn_mixed tn_ok _ _) (phi_cons c102 phi_nil) Tryz.func46 (by kernel_rfl : Tryz.f46.body = some (Tryz.f46.body.getD .skip)) (by kernel_rfl) (by kernel_rfl) an46 (plains 1) [0] [(true, 2)] [.v .Dice] [.v .Dice] (fun x => (fun (a0 : G.Dice) => cpy a0) x) rfl (by kernel_rfl)
    fun x r hb h => (e46 x).trans (laws_toDice.ok hb h)

def an212 : An := ⟨[], [], [], [], []⟩
noncomputable def C212 : Cx := ⟨Tryz.prog, tnT, fun f => lookC f [(27, ci27), (102, ci102)], 16⟩
noncomputable def ci212 : CInfo := ⟨(plains 1), TyTup [.v .Cand], TyTup [.v .Cand], decTup [.v .Cand], fun x => (fun (a0 : G.Cand) => cpy a0) x, flatTup [.v .Cand], [(true, 4)], [2]⟩
theorem e212 (x : TyTup [.v .Cand]) : evalF C212 Tryz.f212 (Tryz.f212.body.getD .skip) an212 (plains 1) [2] [(true, 4)] [.v .Cand] (encTup [.v .Cand] x) = laws_toCand.raw x := by kernel_rfl
theorem c212 : Contract Tryz.prog 212 ci212 :=
  evalF_ok (C := C212) (tnOk_of tn_mixed tn_ok _ _) (phi_cons c27 (phi_cons c102 phi_nil)) Tryz.func212 (by kernel_rfl : Tryz.f212.body = some (Tryz.f212.body.getD .skip)) (by kernel_rfl) (by kernel_rfl) an212 (plains 1) [2] [(true, 4)] [.v .Cand] [.v .Cand] (fun x => (fun (a0 : G.Cand) => cpy a0) x) rfl (by kernel_rfl)
    fun x r hb h => (e212 x).trans (laws_toCand.ok hb h)

def an206 : An := ⟨[], [(0, ⟨[.own 3 .Cand], [(4, 4), (8, 21)], []⟩)], [(3, ⟨[.slot 4 (.v .int), .own 3 .Cand], [(8, 21)], []⟩)], [], []⟩
noncomputable def C206 : Cx := ⟨Tryz.prog, tnT, fun f => lookC f [(212, ci212)], 23⟩
noncomputable def ci206 : CInfo := ⟨(plains 1), TyTup [.sl .Cand], TyTup [.sl .Cand], decTup [.sl .Cand], fun x => (fun (a0 : List G.Cand) => cpy a0) x, flatTup [.sl .Cand], [(false, 1)], [0]⟩
theorem e206 (x : TyTup [.sl .Cand]) : evalF C206 Tryz.f206 (Tryz.f206.body.getD .skip) an206 (plains 1) [0] [(false, 1)] [.sl .Cand] (encTup [.sl .Cand] x) = laws_toCandS.raw x := by kernel_rfl
theorem c206 : Contract Tryz.prog 206 ci206 :=
  evalF_ok (C := C206) (tnOk_of tn_mixed tn_ok _ _) (phi_cons c212 phi_nil) Tryz.func206 (by kernel_rfl : Tryz.f206.body = some (Tryz.f206.body.getD .skip)) (by kernel_rfl) (by kernel_rfl) an206 (plains 1) [0] [(false, 1)] [.sl .Cand] [.sl .Cand] (fun x => (fun (a0 : List G.Cand) => cpy a0) x) rfl (by kernel_rfl)
    fun x r hb h => (e206 x).trans (laws_toCandS.ok hb h)

def an189 : An := ⟨[], [], [], [], []⟩
noncomputable def C189 : Cx := ⟨Tryz.prog, tnT, fun f => lookC f [(27, ci27), (206, ci206)], 13⟩
noncomputable def ci189 : CInfo := ⟨(plains 1), TyTup [.v .Paths], TyTup [.v .Paths], decTup [.v .Paths], fun x => (fun (a0 : G.Paths) => cpy a0) x, flatTup [.v .Paths], [(true, 3)], [2]⟩
theorem e189 (x : TyTup [.v .Paths]) : evalF C189 Tryz.f189 (Tryz.f189.body.getD .skip) an189 (plains 1) [2] [(true, 3)] [.v .Paths] (encTup [.v .Paths] x) = laws_toPaths.raw x := by kernel_rfl
theorem c189 : Contract Tryz.prog 189 ci189 :=
  evalF_ok (C := C189) (tnOk_of tn_mixed tn_ok _ _) (phi_cons c27 (phi_cons c206 phi_nil)) Tryz.func189 (by kernel_rfl : Tryz.f189.body = some (Tryz.f189.body.getD .skip)) (by kernel_rfl) (by kernel_rfl) an189 (plains 1) [2] [(true, 3)] [.v .Paths] [.v .Paths] (fun x => (fun (a0 : G.Paths) => cpy a0) x) rfl (by kernel_rfl)
    fun x r hb h => (e189 x).trans (laws_toPaths.ok hb h)

def an170 : An := ⟨[], [], [], [], []⟩
noncomputable def C170 : Cx := ⟨Tryz.prog, tnT, fun f => lookC f [(102, ci102), (144, ci144), (189, ci189)], 33⟩
noncomputable def ci170 : CInfo := ⟨(plains 1), TyTup [.v .Sess], TyTup [.v .Sess], decTup [.v .Sess], fun x => (fun (a0 : G.Sess) => cpy a0) x, flatTup [.v .Sess], [(true, 24)], [1, 2, 4, 6, 9, 11, 14, 17, 20]⟩
theorem e170 (x : TyTup [.v .Sess]) : evalF C170 Tryz.f170 (Tryz.f170.body.getD .skip) an170 (plains 1) [1, 2, 4, 6, 9, 11, 14, 17, 20] [(true, 24)] [.v .Sess] (encTup [.v .Sess] x) = laws_toSess.raw x := by kernel_rfl
theorem c170 : Contract Tryz.prog 170 ci170 :=
  evalF_ok (C := C170) (tnOk_of tn_mixed tn_ok _ _) (phi_cons c102 (phi_cons c144 (phi_cons c189 phi_nil))) Tryz.func170 (by kernel_rfl : Tryz.f170.body = some (Tryz.f170.body.getD .skip)) (by kernel_rfl) (by kernel_rfl) an170 (plains 1) [1, 2, 4, 6, 9, 11, 14, 17, 20] [(true, 24)] [.v .Sess] [.v .Sess] (fun x => (fun (a0 : G.Sess) => cpy a0) x) rfl (by kernel_rfl)
    fun x r hb h => (e170 x).trans (laws_toSess.ok hb h)

def an146 : An := ⟨[], [(0, ⟨[.own 3 .Sess], [(4, 4), (8, 21)], []⟩)], [(3, ⟨[.slot 4 (.v .int), .own 3 .Sess], [(8, 21)], []⟩)], [], []⟩
noncomputable def C146 : Cx := ⟨Tryz.prog, tnT, fun f => lookC f [(170, ci170)], 23⟩
noncomputable def ci146 : CInfo := ⟨(plains 1), TyTup [.sl .Sess], TyTup [.sl .Sess], decTup [.sl .Sess], fun x => (fun (a0 : List G.Sess) => cpy a0) x, flatTup [.sl .Sess], [(false, 1)], [0]⟩
theorem e146 (x : TyTup [.sl .Sess]) : evalF C146 Tryz.f146 (Tryz.f146.body.getD .skip) an146 (plains 1) [0] [(false, 1)] [.sl .Sess] (encTup [.sl .Sess] x) = laws_toSessS.raw x := by kernel_rfl
theorem c146 : Contract Tryz.prog 146 ci146 :=
  evalF_ok (C := C146) (tnOk_of tn_mixed tn_ok _ _) (phi_cons c170 phi_nil) Tryz.func146 (by kernel_rfl : Tryz.f146.body = some (Tryz.f146.body.getD .skip)) (by kernel_rfl) (by kernel_rfl) an146 (plains 1) [0] [(false, 1)] [.sl .Sess] [.sl .Sess] (fun x => (fun (a0 : List G.Sess) => cpy a0) x) rfl (by kernel_rfl)
    fun x r hb h => (e146 x).trans (laws_toSessS.ok hb h)

def an100 : An := ⟨[], [], [], [], []⟩
noncomputable def C100 : Cx := ⟨Tryz.prog, tnT, fun f => lookC f [(146, ci146)], 12⟩
noncomputable def ci100 : CInfo := ⟨(plains 1), TyTup [.v .Tab], TyTup [.v .Tab], decTup [.v .Tab], fun x => (fun (a0 : G.Tab) => cpy a0) x, flatTup [.v .Tab], [(true, 2)], [1]⟩
theorem e100 (x : TyTup [.v .Tab]) : evalF C100 Tryz.f100 (Tryz.f100.body.getD .skip) an100 (plains 1) [1] [(true, 2)] [.v .Tab] (encTup [.v .Tab] x) = laws_toTab.raw x := by kernel_rfl
theorem c100 : Contract Tryz.prog 100 ci100 :=
  evalF_ok (C := C100) (tnOk_of tn_mixed tn_ok _ _) (phi_cons c146 phi_nil) Tryz.func100 (by kernel_rfl : Tryz.f100.body = some (Tryz.f100.body.getD .skip)) (by kernel_rfl) (by kernel_rfl) an100 (plains 1) [1] [(true, 2)] [.v .Tab] [.v .Tab] (fun x => (fun (a0 : G.Tab) => cpy a0) x) rfl (by kernel_rfl)
    fun x r hb h => (e100 x).trans (laws_toTab.ok hb h)

def an147 : An := ⟨[], [], [], [], []⟩
noncomputable def C147 : Cx := ⟨Tryz.prog, tnT, fun f => lookC f [(27, ci27)], 15⟩
noncomputable def ci147 : CInfo := ⟨(plains 1), TyTup [.v .Credit], TyTup [.v .Credit], decTup [.v .Credit], fun x => (fun (a0 : G.Credit) => cpy a0) x, flatTup [.v .Credit], [(true, 4)], []⟩
theorem e147 (x : TyTup [.v .Credit]) : evalF C147 Tryz.f147 (Tryz.f147.body.getD .skip) an147 (plains 1) [] [(true, 4)] [.v .Credit] (encTup [.v .Credit] x) = laws_toCredit.raw x := by kernel_rfl
theorem c147 : Contract Tryz.prog 147 ci147 :=
  evalF_ok (C := C147) (tnOk_of tn_mixed tn_ok _ _) (phi_cons c27 phi_nil) Tryz.func147 (by kernel_rfl : Tryz.f147.body = some (Tryz.f147.body.getD .skip)) (by kernel_rfl) (by kernel_rfl) an147 (plains 1) [] [(true, 4)] [.v .Credit] [.v .Credit] (fun x => (fun (a0 : G.Credit) => cpy a0) x) rfl (by kernel_rfl)
    fun x r hb h => (e147 x).trans (laws_toCredit.ok hb h)

def an101 : An := ⟨[], [(0, ⟨[.own 3 .Credit], [(4, 4), (8, 21)], []⟩)], [(3, ⟨[.slot 4 (.v .int), .own 3 .Credit], [(8, 21)], []⟩)], [], []⟩
noncomputable def C101 : Cx := ⟨Tryz.prog, tnT, fun f => lookC f [(147, ci147)], 23⟩
noncomputable def ci101 : CInfo := ⟨(plains 1), TyTup [.sl .Credit], TyTup [.sl .Credit], decTup [.sl .Credit], fun x => (fun (a0 : List G.Credit) => cpy a0) x, flatTup [.sl .Credit], [(false, 1)], [0]⟩
theorem e101 (x : TyTup [.sl .Credit]) : evalF C101 Tryz.f101 (Tryz.f101.body.getD .skip) an101 (plains 1) [0] [(false, 1)] [.sl .Credit] (encTup [.sl .Credit] x) = laws_toCreditS.raw x := by kernel_rfl
theorem c101 : Contract Tryz.prog 101 ci101 :=
  evalF_ok (C := C101) (tnOk_of tn_mixed tn_ok _ _) (phi_cons c147 phi_nil) Tryz.func101 (by kernel_rfl : Tryz.f101.body = some (Tryz.f101.body.getD .skip)) (by kernel_rfl) (by kernel_rfl) an101 (plains 1) [0] [(false, 1)] [.sl .Credit] [.sl .Credit] (fun x => (fun (a0 : List G.Credit) => cpy a0) x) rfl (by kernel_rfl)
    fun x r hb h => (e101 x).trans (laws_toCreditS.ok hb h)

def an45 : An := ⟨[], [], [], [], []⟩
noncomputable def C45 : Cx := ⟨Tryz.prog, tnT, fun f => lookC f [(46, ci46), (48, ci48), (99, ci99), (100, ci100), (101, ci101)], 25⟩
noncomputable def ci45 : CInfo := ⟨(plains 1), TyTup [.v .Server], TyTup [.v .Server], decTup [.v .Server], fun x => (fun (a0 : G.Server) => cpy a0) x, flatTup [.v .Server], [(true, 7)], [0, 1, 2, 5, 6]⟩
theorem e45 (x : TyTup [.v .Server]) : evalF C45 Tryz.f45 (Tryz.f45.body.getD .skip) an45 (plains 1) [0, 1, 2, 5, 6] [(true, 7)] [.v .Server] (encTup [.v .Server] x) = laws_toServer.raw x := by kernel_rfl
theorem c45 : Contract Tryz.prog 45 ci45 :=
  evalF_ok (C := C45) (tnOk_of tn_mixed tn_ok _ _) (phi_cons c46 (phi_cons c48 (phi_cons c99 (phi_cons c100 (phi_cons c101 phi_nil))))) Tryz.func45 (by kernel_rfl : Tryz.f45.body = some (Tryz.f45.body.getD .skip)) (by kernel_rfl) (by kernel_rfl) an45 (plains 1) [0, 1, 2, 5, 6] [(true, 7)] [.v .Server] [.v .Server] (fun x => (fun (a0 : G.Server) => cpy a0) x) rfl (by kernel_rfl)
    fun x r hb h => (e45 x).trans (laws_toServer.ok hb h)

def an103 : An := ⟨[], [], [], [], []⟩
noncomputable def C103 : Cx := ⟨Tryz.prog, tnT, fun f => lookC f [(27, ci27), (102, ci102)], 17⟩
noncomputable def ci103 : CInfo := ⟨(plains 1), TyTup [.v .Wire], TyTup [.v .Wire], decTup [.v .Wire], fun x => (fun (a0 : G.Wire) => cpy a0) x, flatTup [.v .Wire], [(true, 5)], [4]⟩
theorem e103 (x : TyTup [.v .Wire]) : evalF C103 Tryz.f103 (Tryz.f103.body.getD .skip) an103 (plains 1) [4] [(true, 5)] [.v .Wire] (encTup [.v .Wire] x) = laws_toWire.raw x := by kernel_rfl
theorem c103 : Contract Tryz.prog 103 ci103 :=
  evalF_ok (C := C103) (tnOk_of tn_mixed tn_ok _ _) (phi_cons c27 (phi_cons c102 phi_nil)) Tryz.func103 (by kernel_rfl : Tryz.f103.body = some (Tryz.f103.body.getD .skip)) (by kernel_rfl) (by kernel_rfl) an103 (plains 1) [4] [(true, 5)] [.v .Wire] [.v .Wire] (fun x => (fun (a0 : G.Wire) => cpy a0) x) rfl (by kernel_rfl)
    fun x r hb h => (e103 x).trans (laws_toWire.ok hb h)

def an47 : An := ⟨[], [(0, ⟨[.own 3 .Wire], [(4, 4), (8, 21)], []⟩)], [(3, ⟨[.slot 4 (.v .int), .own 3 .Wire], [(8, 21)], []⟩)], [], []⟩
noncomputable def C47 : Cx := ⟨Tryz.prog, tnT, fun f => lookC f [(103, ci103)], 23⟩
noncomputable def ci47 : CInfo := ⟨(plains 1), TyTup [.sl .Wire], TyTup [.sl .Wire], decTup [.sl .Wire], fun x => (fun (a0 : List G.Wire) => cpy a0) x, flatTup [.sl .Wire], [(false, 1)], [0]⟩
theorem e47 (x : TyTup [.sl .Wire]) : evalF C47 Tryz.f47 (Tryz.f47.body.getD .skip) an47 (plains 1) [0] [(false, 1)] [.sl .Wire] (encTup [.sl .Wire] x) = laws_toWireS.raw x := by kernel_rfl
theorem c47 : Contract Tryz.prog 47 ci47 :=
  evalF_ok (C := C47) (tnOk_of tn_mixed tn_ok _ _) (phi_cons c103 phi_nil) Tryz.func47 (by kernel_rfl : Tryz.f47.body = some (Tryz.f47.body.getD .skip)) (by kernel_rfl) (by kernel_rfl) an47 (plains 1) [0] [(false, 1)] [.sl .Wire] [.sl .Wire] (fun x => (fun (a0 : List G.Wire) => cpy a0) x) rfl (by kernel_rfl)
    fun x r hb h => (e47 x).trans (laws_toWireS.ok hb h)

def an104 : An := ⟨[], [], [], [], []⟩
noncomputable def C104 : Cx := ⟨Tryz.prog, tnT, fun f => lookC f [(27, ci27), (102, ci102)], 43⟩
noncomputable def ci104 : CInfo := ⟨(plains 1), TyTup [.v .Note], TyTup [.v .Note], decTup [.v .Note], fun x => (fun (a0 : G.Note) => cpy a0) x, flatTup [.v .Note], [(true, 12)], [3, 4, 7, 8]⟩
theorem e104 (x : TyTup [.v .Note]) : evalF C104 Tryz.f104 (Tryz.f104.body.getD .skip) an104 (plains 1) [3, 4, 7, 8] [(true, 12)] [.v .Note] (encTup [.v .Note] x) = laws_toNote.raw x := by kernel_rfl
theorem c104 : Contract Tryz.prog 104 ci104 :=
  evalF_ok (C := C104) (tnOk_of tn_mixed tn_ok _ _) (phi_cons c27 (phi_cons c102 phi_nil)) Tryz.func104 (by kernel_rfl : Tryz.f104.body = some (Tryz.f104.body.getD .skip)) (by kernel_rfl) (by kernel_rfl) an104 (plains 1) [3, 4, 7, 8] [(true, 12)] [.v .Note] [.v .Note] (fun x => (fun (a0 : G.Note) => cpy a0) x) rfl (by kernel_rfl)
    fun x r hb h => (e104 x).trans (laws_toNote.ok hb h)

def an49 : An := ⟨[], [(0, ⟨[.own 3 .Note], [(4, 4), (8, 21)], []⟩)], [(3, ⟨[.slot 4 (.v .int), .own 3 .Note], [(8, 21)], []⟩)], [], []⟩
noncomputable def C49 : Cx := ⟨Tryz.prog, tnT, fun f => lookC f [(104, ci104)], 23⟩
noncomputable def ci49 : CInfo := ⟨(plains 1), TyTup [.sl .Note], TyTup [.sl .Note], decTup [.sl .Note], fun x => (fun (a0 : List G.Note) => cpy a0) x, flatTup [.sl .Note], [(false, 1)], [0]⟩
theorem e49 (x : TyTup [.sl .Note]) : evalF C49 Tryz.f49 (Tryz.f49.body.getD .skip) an49 (plains 1) [0] [(false, 1)] [.sl .Note] (encTup [.sl .Note] x) = laws_toNoteS.raw x := by kernel_rfl
theorem c49 : Contract Tryz.prog 49 ci49 :=
  evalF_ok (C := C49) (tnOk_of tn_mixed tn_ok _ _) (phi_cons c104 phi_nil) Tryz.func49 (by kernel_rfl : Tryz.f49.body = some (Tryz.f49.body.getD .skip)) (by kernel_rfl) (by kernel_rfl) an49 (plains 1) [0] [(false, 1)] [.sl .Note] [.sl .Note] (fun x => (fun (a0 : List G.Note) => cpy a0) x) rfl (by kernel_rfl)
    fun x r hb h => (e49 x).trans (laws_toNoteS.ok hb h)

def an13 : An := ⟨[], [], [], [], []⟩
noncomputable def C13 : Cx := ⟨Tryz.prog, tnT, fun f => lookC f [(44, ci44), (45, ci45), (46, ci46), (47, ci47), (48, ci48), (49, ci49)], 32⟩
noncomputable def ci13 : CInfo := ⟨(plains 1), TyTup [.v .World], TyTup [.v .World], decTup [.v .World], fun x => (fun (a0 : G.World) => cpy a0) x, flatTup [.v .World], [(true, 14)], [1, 2, 3, 4, 7, 8, 9, 11, 12, 13]⟩
theorem e13 (x : TyTup [.v .World]) : evalF C13 Tryz.f13 (Tryz.f13.body.getD .skip) an13 (plains 1) [1, 2, 3, 4, 7, 8, 9, 11, 12, 13] [(true, 14)] [.v .World] (encTup [.v .World] x) = laws_toWorld.raw x := by kernel_rfl
theorem c13 : Contract Tryz.prog 13 ci13 :=
  evalF_ok (C := C13) (tnOk_of tn_mixed tn_ok _ _) (phi_cons c44 (phi_cons c45 (phi_cons c46 (phi_cons c47 (phi_cons c48 (phi_cons c49 phi_nil)))))) Tryz.func13 (by kernel_rfl : Tryz.f13.body = some (Tryz.f13.body.getD .skip)) (by kernel_rfl) (by kernel_rfl) an13 (plains 1) [1, 2, 3, 4, 7, 8, 9, 11, 12, 13] [(true, 14)] [.v .World] [.v .World] (fun x => (fun (a0 : G.World) => cpy a0) x) rfl (by kernel_rfl)
    fun x r hb h => (e13 x).trans (laws_toWorld.ok hb h)

def an37 : An := ⟨[], [], [], [(1, ⟨[.slot 6 (.v .bool)], [(7, 14)], []⟩)], []⟩
noncomputable def C37 : Cx := ⟨Tryz.prog, tnT, fun f => lookC f [], 15⟩
noncomputable def ci37 : CInfo := ⟨(plains 3), TyTup [.v .int, .v .int, .v .int], TyTup [.v .bool], decTup [.v .int, .v .int, .v .int], fun x => some ((fun (a0 : Int) (a1 : Int) (a2 : Int) => inR a0 a1 a2) x.1 x.2.1 x.2.2), flatTup [.v .bool], [(false, 1)], []⟩
theorem e37 (x : TyTup [.v .int, .v .int, .v .int]) : evalF C37 Tryz.f37 (Tryz.f37.body.getD .skip) an37 (plains 3) [] [(false, 1)] [.v .bool] (encTup [.v .int, .v .int, .v .int] x) = spec_l1In.raw x.1 x.2.1 x.2.2 := by kernel_rfl
theorem c37 : Contract Tryz.prog 37 ci37 :=
  evalF_ok (C := C37) (tnOk_of tn_mixed tn_ok _ _) phi_nil Tryz.func37 (by kernel_rfl : Tryz.f37.body = some (Tryz.f37.body.getD .skip)) (by kernel_rfl) (by kernel_rfl) an37 (plains 3) [] [(false, 1)] [.v .int, .v .int, .v .int] [.v .bool] (fun x => some ((fun (a0 : Int) (a1 : Int) (a2 : Int) => inR a0 a1 a2) x.1 x.2.1 x.2.2)) rfl (by kernel_rfl)
    fun x r hb h => (e37 x).trans ((spec_l1In.ok hb).trans h)

def an87 : An := ⟨[], [], [], [], []⟩
noncomputable def C87 : Cx := ⟨Tryz.prog, tnT, fun f => lookC f [], 7⟩
noncomputable def ci87 : CInfo := ⟨(plains 1), TyTup [.v .Jar], TyTup [.v .bool], decTup [.v .Jar], fun x => some ((fun (a0 : G.Jar) => jarOk a0) x), flatTup [.v .bool], [(false, 1)], []⟩
theorem e87 (x : TyTup [.v .Jar]) : evalF C87 Tryz.f87 (Tryz.f87.body.getD .skip) an87 (plains 1) [] [(false, 1)] [.v .bool] (encTup [.v .Jar] x) = spec_JarOk.raw x := by kernel_rfl
theorem c87 : Contract Tryz.prog 87 ci87 :=
  evalF_ok (C := C87) (tnOk_of tn_mixed tn_ok _ _) phi_nil Tryz.func87 (by kernel_rfl : Tryz.f87.body = some (Tryz.f87.body.getD .skip)) (by kernel_rfl) (by kernel_rfl) an87 (plains 1) [] [(false, 1)] [.v .Jar] [.v .bool] (fun x => some ((fun (a0 : G.Jar) => jarOk a0) x)) rfl (by kernel_rfl)
    fun x r hb h => (e87 x).trans ((spec_JarOk.ok hb).trans h)

def an39 : An := ⟨[], [], [], [(1, ⟨[.slot 2 (.v .bool)], [(3, 11)], []⟩)], []⟩
noncomputable def C39 : Cx := ⟨Tryz.prog, tnT, fun f => lookC f [(37, ci37)], 12⟩
noncomputable def ci39 : CInfo := ⟨(plains 1), TyTup [.v .Dice], TyTup [.v .bool], decTup [.v .Dice], fun x => some ((fun (a0 : G.Dice) => diceOk a0) x), flatTup [.v .bool], [(false, 1)], []⟩
theorem e39 (x : TyTup [.v .Dice]) : evalF C39 Tryz.f39 (Tryz.f39.body.getD .skip) an39 (plains 1) [] [(false, 1)] [.v .bool] (encTup [.v .Dice] x) = spec_DiceOk.raw x := by kernel_rfl
theorem c39 : Contract Tryz.prog 39 ci39 :=
  evalF_ok (C := C39) (tnOk_of tn_mixed tn_ok _ _) (phi_cons c37 phi_nil) Tryz.func39 (by kernel_rfl : Tryz.f39.body = some (Tryz.f39.body.getD .skip)) (by kernel_rfl) (by kernel_rfl) an39 (plains 1) [] [(false, 1)] [.v .Dice] [.v .bool] (fun x => some ((fun (a0 : G.Dice) => diceOk a0) x)) rfl (by kernel_rfl)
    fun x r hb h => (e39 x).trans ((spec_DiceOk.ok hb).trans h)

def an63 : An := ⟨[(1179655, ⟨[.slot 3 (.v .int)], [(19, 20)], []⟩)], [(0, ⟨[.slot 3 (.v .int)], [(4, 20)], []⟩)], [(3, ⟨[.slot 3 (.v .int), .slot 4 (.v .int)], [(5, 20)], []⟩)], [], []⟩
noncomputable def C63 : Cx := ⟨Tryz.prog, tnT, fun f => lookC f [], 22⟩
noncomputable def ci63 : CInfo := ⟨(plains 1), TyTup [.v .Tab], TyTup [.v .int], decTup [.v .Tab], fun x => (fun (a0 : G.Tab) => liveO a0) x, flatTup [.v .int], [(false, 1)], []⟩
theorem e63 (x : TyTup [.v .Tab]) : evalF C63 Tryz.f63 (Tryz.f63.body.getD .skip) an63 (plains 1) [] [(false, 1)] [.v .int] (encTup [.v .Tab] x) = spec_Live.raw x := by kernel_rfl
theorem c63 : Contract Tryz.prog 63 ci63 :=
  evalF_ok (C := C63) (tnOk_of tn_mixed tn_ok _ _) phi_nil Tryz.func63 (by kernel_rfl : Tryz.f63.body = some (Tryz.f63.body.getD .skip)) (by kernel_rfl) (by kernel_rfl) an63 (plains 1) [] [(false, 1)] [.v .Tab] [.v .int] (fun x => (fun (a0 : G.Tab) => liveO a0) x) rfl (by kernel_rfl)
    fun x r hb h => (e63 x).trans (spec_Live.ok hb h)

def an139 : An := ⟨[], [], [], [(1, ⟨[.slot 2 (.v .bool)], [(3, 29)], []⟩)], []⟩
noncomputable def C139 : Cx := ⟨Tryz.prog, tnT, fun f => lookC f [], 30⟩
noncomputable def ci139 : CInfo := ⟨(plains 1), TyTup [.v .Ep], TyTup [.v .bool], decTup [.v .Ep], fun x => some ((fun (a0 : G.Ep) => noEp a0) x), flatTup [.v .bool], [(false, 1)], []⟩
theorem e139 (x : TyTup [.v .Ep]) : evalF C139 Tryz.f139 (Tryz.f139.body.getD .skip) an139 (plains 1) [] [(false, 1)] [.v .bool] (encTup [.v .Ep] x) = spec_l14None.raw x := by kernel_rfl
theorem c139 : Contract Tryz.prog 139 ci139 :=
  evalF_ok (C := C139) (tnOk_of tn_mixed tn_ok _ _) phi_nil Tryz.func139 (by kernel_rfl : Tryz.f139.body = some (Tryz.f139.body.getD .skip)) (by kernel_rfl) (by kernel_rfl) an139 (plains 1) [] [(false, 1)] [.v .Ep] [.v .bool] (fun x => some ((fun (a0 : G.Ep) => noEp a0) x)) rfl (by kernel_rfl)
    fun x r hb h => (e139 x).trans ((spec_l14None.ok hb).trans h)

def an94 : An := ⟨[], [], [], [(1, ⟨[.slot 2 (.v .bool)], [(3, 37)], []⟩)], []⟩
noncomputable def C94 : Cx := ⟨Tryz.prog, tnT, fun f => lookC f [(139, ci139)], 38⟩
noncomputable def ci94 : CInfo := ⟨(plains 1), TyTup [.v .Chan], TyTup [.v .bool], decTup [.v .Chan], fun x => some ((fun (a0 : G.Chan) => noChan a0) x), flatTup [.v .bool], [(false, 1)], []⟩
theorem e94 (x : TyTup [.v .Chan]) : evalF C94 Tryz.f94 (Tryz.f94.body.getD .skip) an94 (plains 1) [] [(false, 1)] [.v .bool] (encTup [.v .Chan] x) = spec_l19NoChan.raw x := by kernel_rfl
theorem c94 : Contract Tryz.prog 94 ci94 :=
  evalF_ok (C := C94) (tnOk_of tn_mixed tn_ok _ _) (phi_cons c139 phi_nil) Tryz.func94 (by kernel_rfl : Tryz.f94.body = some (Tryz.f94.body.getD .skip)) (by kernel_rfl) (by kernel_rfl) an94 (plains 1) [] [(false, 1)] [.v .Chan] [.v .bool] (fun x => some ((fun (a0 : G.Chan) => noChan a0) x)) rfl (by kernel_rfl)
    fun x r hb h => (e94 x).trans ((spec_l19NoChan.ok hb).trans h)

def an124 : An := ⟨[], [], [], [], []⟩
noncomputable def C124 : Cx := ⟨Tryz.prog, tnT, fun f => lookC f [(37, ci37)], 12⟩
noncomputable def ci124 : CInfo := ⟨(plains 1), TyTup [.v .int], TyTup [.v .Addr], decTup [.v .int], fun x => some ((fun (a0 : Int) => near a0) x), flatTup [.v .Addr], [(true, 2)], []⟩
theorem e124 (x : TyTup [.v .int]) : evalF C124 Tryz.f124 (Tryz.f124.body.getD .skip) an124 (plains 1) [] [(true, 2)] [.v .Addr] (encTup [.v .int] x) = spec_Near.raw x := by kernel_rfl
theorem c124 : Contract Tryz.prog 124 ci124 :=
  evalF_ok (C := C124) (tnOk_of tn_mixed tn_ok _ _) (phi_cons c37 phi_nil) Tryz.func124 (by kernel_rfl : Tryz.f124.body = some (Tryz.f124.body.getD .skip)) (by kernel_rfl) (by kernel_rfl) an124 (plains 1) [] [(true, 2)] [.v .int] [.v .Addr] (fun x => some ((fun (a0 : Int) => near a0) x)) rfl (by kernel_rfl)
    fun x r hb h => (e124 x).trans ((spec_Near.ok hb).trans h)

def an187 : An := ⟨[], [], [], [], []⟩
noncomputable def C187 : Cx := ⟨Tryz.prog, tnT, fun f => lookC f [], 19⟩
noncomputable def ci187 : CInfo := ⟨(plains 2), TyTup [.v .Win, .v .int], TyTup [.v .bool], decTup [.v .Win, .v .int], fun x => (fun (a0 : G.Win) (a1 : Int) => bitO a0 a1) x.1 x.2, flatTup [.v .bool], [(false, 1)], []⟩
theorem e187 (x : TyTup [.v .Win, .v .int]) : evalF C187 Tryz.f187 (Tryz.f187.body.getD .skip) an187 (plains 2) [] [(false, 1)] [.v .bool] (encTup [.v .Win, .v .int] x) = spec_l8Bit.raw x.1 x.2 := by kernel_rfl
theorem c187 : Contract Tryz.prog 187 ci187 :=
  evalF_ok (C := C187) (tnOk_of tn_mixed tn_ok _ _) phi_nil Tryz.func187 (by kernel_rfl : Tryz.f187.body = some (Tryz.f187.body.getD .skip)) (by kernel_rfl) (by kernel_rfl) an187 (plains 2) [] [(false, 1)] [.v .Win, .v .int] [.v .bool] (fun x => (fun (a0 : G.Win) (a1 : Int) => bitO a0 a1) x.1 x.2) rfl (by kernel_rfl)
    fun x r hb h => (e187 x).trans (spec_l8Bit.ok hb h)

def an168 : An := ⟨[], [(0, ⟨[], [(2, 3), (15, 25)], []⟩), (2, ⟨[], [(2, 2), (4, 4), (39, 45)], []⟩)], [(4, ⟨[.slot 3 (.v .int)], [(2, 2), (15, 25)], []⟩), (11, ⟨[.slot 4 (.v .int)], [(2, 2), (39, 45)], []⟩)], [(1, ⟨[.slot 14 (.v .bool)], [(5, 13)], []⟩), (8, ⟨[.slot 35 (.v .bool)], [(26, 34)], []⟩)], []⟩
noncomputable def C168 : Cx := ⟨Tryz.prog, tnT, fun f => lookC f [(37, ci37), (187, ci187)], 46⟩
noncomputable def ci168 : CInfo := ⟨(plains 1), TyTup [.v .Win], TyTup [.v .bool], decTup [.v .Win], fun x => some ((fun (a0 : G.Win) => winOk a0) x), flatTup [.v .bool], [(false, 1)], []⟩
theorem e168 (x : TyTup [.v .Win]) : evalF C168 Tryz.f168 (Tryz.f168.body.getD .skip) an168 (plains 1) [] [(false, 1)] [.v .bool] (encTup [.v .Win] x) = spec_WinOk.raw x := by kernel_rfl
theorem c168 : Contract Tryz.prog 168 ci168 :=
  evalF_ok (C := C168) (tnOk_of tn_mixed tn_ok _ _) (phi_cons c37 (phi_cons c187 phi_nil)) Tryz.func168 (by kernel_rfl : Tryz.f168.body = some (Tryz.f168.body.getD .skip)) (by kernel_rfl) (by kernel_rfl) an168 (plains 1) [] [(false, 1)] [.v .Win] [.v .bool] (fun x => some ((fun (a0 : G.Win) => winOk a0) x)) rfl (by kernel_rfl)
    fun x r hb h => (e168 x).trans ((spec_WinOk.ok hb).trans h)

def an140 : An := ⟨[], [], [], [(1, ⟨[.slot 2 (.v .bool)], [(3, 21)], []⟩)], []⟩
noncomputable def C140 : Cx := ⟨Tryz.prog, tnT, fun f => lookC f [(37, ci37), (168, ci168)], 22⟩
noncomputable def ci140 : CInfo := ⟨(plains 1), TyTup [.v .Ep], TyTup [.v .bool], decTup [.v .Ep], fun x => some ((fun (a0 : G.Ep) => epOk a0) x), flatTup [.v .bool], [(false, 1)], []⟩
theorem e140 (x : TyTup [.v .Ep]) : evalF C140 Tryz.f140 (Tryz.f140.body.getD .skip) an140 (plains 1) [] [(false, 1)] [.v .bool] (encTup [.v .Ep] x) = spec_EpOk.raw x := by kernel_rfl
theorem c140 : Contract Tryz.prog 140 ci140 :=
  evalF_ok (C := C140) (tnOk_of tn_mixed tn_ok _ _) (phi_cons c37 (phi_cons c168 phi_nil)) Tryz.func140 (by kernel_rfl : Tryz.f140.body = some (Tryz.f140.body.getD .skip)) (by kernel_rfl) (by kernel_rfl) an140 (plains 1) [] [(false, 1)] [.v .Ep] [.v .bool] (fun x => some ((fun (a0 : G.Ep) => epOk a0) x)) rfl (by kernel_rfl)
    fun x r hb h => (e140 x).trans ((spec_EpOk.ok hb).trans h)

def an95 : An := ⟨[(1376261, ⟨[], [(2, 3), (22, 54)], []⟩), (1572871, ⟨[.slot 3 (.v .int)], [], []⟩)], [], [], [(1, ⟨[.slot 19 (.v .bool)], [(4, 18)], []⟩), (7, ⟨[.slot 45 (.v .bool)], [(25, 44)], []⟩), (9, ⟨[.slot 54 (.v .bool)], [(46, 53)], []⟩), (13, ⟨[.slot 2 (.v .bool)], [(59, 73)], []⟩)], []⟩
noncomputable def C95 : Cx := ⟨Tryz.prog, tnT, fun f => lookC f [(37, ci37), (139, ci139), (140, ci140)], 74⟩
noncomputable def ci95 : CInfo := ⟨(plains 1), TyTup [.v .Chan], TyTup [.v .bool], decTup [.v .Chan], fun x => (fun (a0 : G.Chan) => chanOkO a0) x, flatTup [.v .bool], [(false, 1)], []⟩
theorem e95 (x : TyTup [.v .Chan]) : evalF C95 Tryz.f95 (Tryz.f95.body.getD .skip) an95 (plains 1) [] [(false, 1)] [.v .bool] (encTup [.v .Chan] x) = spec_ChanOk.raw x := by kernel_rfl
theorem c95 : Contract Tryz.prog 95 ci95 :=
  evalF_ok (C := C95) (tnOk_of tn_mixed tn_ok _ _) (phi_cons c37 (phi_cons c139 (phi_cons c140 phi_nil))) Tryz.func95 (by kernel_rfl : Tryz.f95.body = some (Tryz.f95.body.getD .skip)) (by kernel_rfl) (by kernel_rfl) an95 (plains 1) [] [(false, 1)] [.v .Chan] [.v .bool] (fun x => (fun (a0 : G.Chan) => chanOkO a0) x) rfl (by kernel_rfl)
    fun x r hb h => (e95 x).trans (spec_ChanOk.ok hb h)

def an42 : An := ⟨[], [], [], [], []⟩
noncomputable def C42 : Cx := ⟨Tryz.prog, tnT, fun f => lookC f [], 10⟩
noncomputable def ci42 : CInfo := ⟨(plains 2), TyTup [.sl .byte, .sl .byte], TyTup [.v .bool], decTup [.sl .byte, .sl .byte], fun x => (fun (a0 : List UInt8) (a1 : List UInt8) => sameO a0 a1) x.1 x.2, flatTup [.v .bool], [(false, 1)], []⟩
theorem e42 (x : TyTup [.sl .byte, .sl .byte]) : evalF C42 Tryz.f42 (Tryz.f42.body.getD .skip) an42 (plains 2) [] [(false, 1)] [.v .bool] (encTup [.sl .byte, .sl .byte] x) = spec_l1Same.raw x.1 x.2 := by kernel_rfl
theorem c42 : Contract Tryz.prog 42 ci42 :=
  evalF_ok (C := C42) (tnOk_of tn_mixed tn_ok _ _) phi_nil Tryz.func42 (by kernel_rfl : Tryz.f42.body = some (Tryz.f42.body.getD .skip)) (by kernel_rfl) (by kernel_rfl) an42 (plains 2) [] [(false, 1)] [.sl .byte, .sl .byte] [.v .bool] (fun x => (fun (a0 : List UInt8) (a1 : List UInt8) => sameO a0 a1) x.1 x.2) rfl (by kernel_rfl)
    fun x r hb h => (e42 x).trans (spec_l1Same.ok hb h)

def an69 : An := ⟨[], [], [], [(1, ⟨[.slot 2 (.v .bool)], [(3, 10)], []⟩)], []⟩
noncomputable def C69 : Cx := ⟨Tryz.prog, tnT, fun f => lookC f [(37, ci37)], 11⟩
noncomputable def ci69 : CInfo := ⟨(plains 1), TyTup [.v .Addr], TyTup [.v .bool], decTup [.v .Addr], fun x => some ((fun (a0 : G.Addr) => addrOk a0) x), flatTup [.v .bool], [(false, 1)], []⟩
theorem e69 (x : TyTup [.v .Addr]) : evalF C69 Tryz.f69 (Tryz.f69.body.getD .skip) an69 (plains 1) [] [(false, 1)] [.v .bool] (encTup [.v .Addr] x) = spec_AddrOk.raw x := by kernel_rfl
theorem c69 : Contract Tryz.prog 69 ci69 :=
  evalF_ok (C := C69) (tnOk_of tn_mixed tn_ok _ _) (phi_cons c37 phi_nil) Tryz.func69 (by kernel_rfl : Tryz.f69.body = some (Tryz.f69.body.getD .skip)) (by kernel_rfl) (by kernel_rfl) an69 (plains 1) [] [(false, 1)] [.v .Addr] [.v .bool] (fun x => some ((fun (a0 : G.Addr) => addrOk a0) x)) rfl (by kernel_rfl)
    fun x r hb h => (e69 x).trans ((spec_AddrOk.ok hb).trans h)

def an125 : An := ⟨[], [(0, ⟨[], [(2, 5), (16, 64)], []⟩), (2, ⟨[], [(2, 2), (5, 5), (51, 64)], []⟩)], [(4, ⟨[.slot 3 (.v .int)], [(2, 2), (4, 5), (16, 64)], []⟩), (10, ⟨[.slot 5 (.v .int)], [(2, 2), (51, 64)], []⟩)], [(1, ⟨[.slot 15 (.v .bool)], [(6, 14)], []⟩), (7, ⟨[.slot 50 (.v .bool)], [(28, 49)], []⟩)], []⟩
noncomputable def C125 : Cx := ⟨Tryz.prog, tnT, fun f => lookC f [(37, ci37), (69, ci69)], 65⟩
noncomputable def ci125 : CInfo := ⟨(plains 1), TyTup [.v .Paths], TyTup [.v .bool], decTup [.v .Paths], fun x => some ((fun (a0 : G.Paths) => pathsOk a0) x), flatTup [.v .bool], [(false, 1)], []⟩
theorem e125 (x : TyTup [.v .Paths]) : evalF C125 Tryz.f125 (Tryz.f125.body.getD .skip) an125 (plains 1) [] [(false, 1)] [.v .bool] (encTup [.v .Paths] x) = spec_PathsOk.raw x := by kernel_rfl
theorem c125 : Contract Tryz.prog 125 ci125 :=
  evalF_ok (C := C125) (tnOk_of tn_mixed tn_ok _ _) (phi_cons c37 (phi_cons c69 phi_nil)) Tryz.func125 (by kernel_rfl : Tryz.f125.body = some (Tryz.f125.body.getD .skip)) (by kernel_rfl) (by kernel_rfl) an125 (plains 1) [] [(false, 1)] [.v .Paths] [.v .bool] (fun x => some ((fun (a0 : G.Paths) => pathsOk a0) x)) rfl (by kernel_rfl)
    fun x r hb h => (e125 x).trans ((spec_PathsOk.ok hb).trans h)

def an138 : An := ⟨[], [], [], [(1, ⟨[.slot 30 (.v .bool)], [(3, 29)], []⟩), (4, ⟨[.slot 2 (.v .bool)], [(33, 54)], []⟩), (5, ⟨[.slot 2 (.v .bool)], [(55, 76)], []⟩)], []⟩
noncomputable def C138 : Cx := ⟨Tryz.prog, tnT, fun f => lookC f [(37, ci37), (42, ci42), (94, ci94), (95, ci95), (124, ci124), (125, ci125)], 77⟩
noncomputable def ci138 : CInfo := ⟨(plains 1), TyTup [.v .Sess], TyTup [.v .bool], decTup [.v .Sess], fun x => (fun (a0 : G.Sess) => sessOkO a0) x, flatTup [.v .bool], [(false, 1)], []⟩
theorem e138 (x : TyTup [.v .Sess]) : evalF C138 Tryz.f138 (Tryz.f138.body.getD .skip) an138 (plains 1) [] [(false, 1)] [.v .bool] (encTup [.v .Sess] x) = spec_SessOk.raw x := by kernel_rfl
theorem c138 : Contract Tryz.prog 138 ci138 :=
  evalF_ok (C := C138) (tnOk_of tn_mixed tn_ok _ _) (phi_cons c37 (phi_cons c42 (phi_cons c94 (phi_cons c95 (phi_cons c124 (phi_cons c125 phi_nil)))))) Tryz.func138 (by kernel_rfl : Tryz.f138.body = some (Tryz.f138.body.getD .skip)) (by kernel_rfl) (by kernel_rfl) an138 (plains 1) [] [(false, 1)] [.v .Sess] [.v .bool] (fun x => (fun (a0 : G.Sess) => sessOkO a0) x) rfl (by kernel_rfl)
    fun x r hb h => (e138 x).trans (spec_SessOk.ok hb h)

def an65 : An := ⟨[], [(0, ⟨[], [(4, 21)], []⟩)], [(2, ⟨[.slot 5 (.v .int)], [(4, 4), (6, 21)], []⟩)], [], []⟩
noncomputable def C65 : Cx := ⟨Tryz.prog, tnT, fun f => lookC f [(42, ci42)], 22⟩
noncomputable def ci65 : CInfo := ⟨(plains 2), TyTup [.v .Tab, .sl .byte], TyTup [.v .int], decTup [.v .Tab, .sl .byte], fun x => (fun (a0 : G.Tab) (a1 : List UInt8) => findSnO a0 a1) x.1 x.2, flatTup [.v .int], [(false, 1)], []⟩
theorem e65 (x : TyTup [.v .Tab, .sl .byte]) : evalF C65 Tryz.f65 (Tryz.f65.body.getD .skip) an65 (plains 2) [] [(false, 1)] [.v .int] (encTup [.v .Tab, .sl .byte] x) = spec_FindSn.raw x.1 x.2 := by kernel_rfl
theorem c65 : Contract Tryz.prog 65 ci65 :=
  evalF_ok (C := C65) (tnOk_of tn_mixed tn_ok _ _) (phi_cons c42 phi_nil) Tryz.func65 (by kernel_rfl : Tryz.f65.body = some (Tryz.f65.body.getD .skip)) (by kernel_rfl) (by kernel_rfl) an65 (plains 2) [] [(false, 1)] [.v .Tab, .sl .byte] [.v .int] (fun x => (fun (a0 : G.Tab) (a1 : List UInt8) => findSnO a0 a1) x.1 x.2) rfl (by kernel_rfl)
    fun x r hb h => (e65 x).trans (spec_FindSn.ok hb h)

def an88 : An := ⟨[], [(0, ⟨[], [(2, 3), (21, 46)], []⟩)], [(4, ⟨[.slot 3 (.v .int)], [(2, 2), (21, 46)], []⟩)], [(1, ⟨[.slot 20 (.v .bool)], [(4, 19)], []⟩), (6, ⟨[.slot 46 (.v .bool)], [(28, 45)], []⟩)], []⟩
noncomputable def C88 : Cx := ⟨Tryz.prog, tnT, fun f => lookC f [(37, ci37), (63, ci63), (65, ci65), (138, ci138)], 47⟩
noncomputable def ci88 : CInfo := ⟨(plains 1), TyTup [.v .Tab], TyTup [.v .bool], decTup [.v .Tab], fun x => (fun (a0 : G.Tab) => tabOkO a0) x, flatTup [.v .bool], [(false, 1)], []⟩
theorem e88 (x : TyTup [.v .Tab]) : evalF C88 Tryz.f88 (Tryz.f88.body.getD .skip) an88 (plains 1) [] [(false, 1)] [.v .bool] (encTup [.v .Tab] x) = spec_TabOk.raw x := by kernel_rfl
theorem c88 : Contract Tryz.prog 88 ci88 :=
  evalF_ok (C := C88) (tnOk_of tn_mixed tn_ok _ _) (phi_cons c37 (phi_cons c63 (phi_cons c65 (phi_cons c138 phi_nil)))) Tryz.func88 (by kernel_rfl : Tryz.f88.body = some (Tryz.f88.body.getD .skip)) (by kernel_rfl) (by kernel_rfl) an88 (plains 1) [] [(false, 1)] [.v .Tab] [.v .bool] (fun x => (fun (a0 : G.Tab) => tabOkO a0) x) rfl (by kernel_rfl)
    fun x r hb h => (e88 x).trans (spec_TabOk.ok hb h)

def an89 : An := ⟨[], [(0, ⟨[], [(2, 4), (8, 60)], []⟩), (2, ⟨[], [(2, 2), (4, 4), (45, 60)], []⟩)], [(4, ⟨[.slot 3 (.v .int)], [(2, 2), (4, 4), (8, 60)], []⟩), (9, ⟨[.slot 4 (.v .int)], [(2, 2), (45, 60)], []⟩)], [(6, ⟨[.slot 44 (.v .bool)], [(14, 43)], []⟩)], []⟩
noncomputable def C89 : Cx := ⟨Tryz.prog, tnT, fun f => lookC f [(37, ci37), (69, ci69)], 61⟩
noncomputable def ci89 : CInfo := ⟨(plains 1), TyTup [.sl .Credit], TyTup [.v .bool], decTup [.sl .Credit], fun x => some ((fun (a0 : List G.Credit) => creditsOk a0) x), flatTup [.v .bool], [(false, 1)], []⟩
theorem e89 (x : TyTup [.sl .Credit]) : evalF C89 Tryz.f89 (Tryz.f89.body.getD .skip) an89 (plains 1) [] [(false, 1)] [.v .bool] (encTup [.sl .Credit] x) = spec_CreditsOk.raw x := by kernel_rfl
theorem c89 : Contract Tryz.prog 89 ci89 :=
  evalF_ok (C := C89) (tnOk_of tn_mixed tn_ok _ _) (phi_cons c37 (phi_cons c69 phi_nil)) Tryz.func89 (by kernel_rfl : Tryz.f89.body = some (Tryz.f89.body.getD .skip)) (by kernel_rfl) (by kernel_rfl) an89 (plains 1) [] [(false, 1)] [.sl .Credit] [.v .bool] (fun x => some ((fun (a0 : List G.Credit) => creditsOk a0) x)) rfl (by kernel_rfl)
    fun x r hb h => (e89 x).trans ((spec_CreditsOk.ok hb).trans h)

def an90 : An := ⟨[], [], [], [], []⟩
noncomputable def C90 : Cx := ⟨Tryz.prog, tnT, fun f => lookC f [(37, ci37)], 6⟩
noncomputable def ci90 : CInfo := ⟨(plains 1), TyTup [.sl .byte], TyTup [.v .bool], decTup [.sl .byte], fun x => some ((fun (a0 : List UInt8) => pskOk a0) x), flatTup [.v .bool], [(false, 1)], []⟩
theorem e90 (x : TyTup [.sl .byte]) : evalF C90 Tryz.f90 (Tryz.f90.body.getD .skip) an90 (plains 1) [] [(false, 1)] [.v .bool] (encTup [.sl .byte] x) = spec_PskOk.raw x := by kernel_rfl
theorem c90 : Contract Tryz.prog 90 ci90 :=
  evalF_ok (C := C90) (tnOk_of tn_mixed tn_ok _ _) (phi_cons c37 phi_nil) Tryz.func90 (by kernel_rfl : Tryz.f90.body = some (Tryz.f90.body.getD .skip)) (by kernel_rfl) (by kernel_rfl) an90 (plains 1) [] [(false, 1)] [.sl .byte] [.v .bool] (fun x => some ((fun (a0 : List UInt8) => pskOk a0) x)) rfl (by kernel_rfl)
    fun x r hb h => (e90 x).trans ((spec_PskOk.ok hb).trans h)

def an38 : An := ⟨[], [(0, ⟨[], [(2, 3), (34, 47)], []⟩), (2, ⟨[], [(2, 2), (4, 4), (48, 66)], []⟩)], [(4, ⟨[.slot 3 (.v .int)], [(2, 2), (34, 47)], []⟩), (9, ⟨[.slot 4 (.v .int)], [(2, 2), (48, 66)], []⟩)], [(1, ⟨[.slot 33 (.v .bool)], [(5, 32)], []⟩)], []⟩
noncomputable def C38 : Cx := ⟨Tryz.prog, tnT, fun f => lookC f [(37, ci37), (39, ci39), (87, ci87), (88, ci88), (89, ci89), (90, ci90)], 67⟩
noncomputable def ci38 : CInfo := ⟨(plains 1), TyTup [.v .Server], TyTup [.v .bool], decTup [.v .Server], fun x => (fun (a0 : G.Server) => serverOkO a0) x, flatTup [.v .bool], [(false, 1)], []⟩
theorem e38 (x : TyTup [.v .Server]) : evalF C38 Tryz.f38 (Tryz.f38.body.getD .skip) an38 (plains 1) [] [(false, 1)] [.v .bool] (encTup [.v .Server] x) = spec_ServerOk.raw x := by kernel_rfl
theorem c38 : Contract Tryz.prog 38 ci38 :=
  evalF_ok (C := C38) (tnOk_of tn_mixed tn_ok _ _) (phi_cons c37 (phi_cons c39 (phi_cons c87 (phi_cons c88 (phi_cons c89 (phi_cons c90 phi_nil)))))) Tryz.func38 (by kernel_rfl : Tryz.f38.body = some (Tryz.f38.body.getD .skip)) (by kernel_rfl) (by kernel_rfl) an38 (plains 1) [] [(false, 1)] [.v .Server] [.v .bool] (fun x => (fun (a0 : G.Server) => serverOkO a0) x) rfl (by kernel_rfl)
    fun x r hb h => (e38 x).trans (spec_ServerOk.ok hb h)

def an91 : An := ⟨[], [], [], [(1, ⟨[.slot 2 (.v .bool)], [(3, 16)], []⟩)], []⟩
noncomputable def C91 : Cx := ⟨Tryz.prog, tnT, fun f => lookC f [(69, ci69)], 17⟩
noncomputable def ci91 : CInfo := ⟨(plains 1), TyTup [.v .Wire], TyTup [.v .bool], decTup [.v .Wire], fun x => some ((fun (a0 : G.Wire) => wireOk a0) x), flatTup [.v .bool], [(false, 1)], []⟩
theorem e91 (x : TyTup [.v .Wire]) : evalF C91 Tryz.f91 (Tryz.f91.body.getD .skip) an91 (plains 1) [] [(false, 1)] [.v .bool] (encTup [.v .Wire] x) = spec_WireOk.raw x := by kernel_rfl
theorem c91 : Contract Tryz.prog 91 ci91 :=
  evalF_ok (C := C91) (tnOk_of tn_mixed tn_ok _ _) (phi_cons c69 phi_nil) Tryz.func91 (by kernel_rfl : Tryz.f91.body = some (Tryz.f91.body.getD .skip)) (by kernel_rfl) (by kernel_rfl) an91 (plains 1) [] [(false, 1)] [.v .Wire] [.v .bool] (fun x => some ((fun (a0 : G.Wire) => wireOk a0) x)) rfl (by kernel_rfl)
    fun x r hb h => (e91 x).trans ((spec_WireOk.ok hb).trans h)

def an40 : An := ⟨[], [(0, ⟨[], [(2, 15)], []⟩)], [(2, ⟨[.slot 3 (.v .int)], [(2, 2), (4, 15)], []⟩)], [], []⟩
noncomputable def C40 : Cx := ⟨Tryz.prog, tnT, fun f => lookC f [(91, ci91)], 19⟩
noncomputable def ci40 : CInfo := ⟨(plains 1), TyTup [.sl .Wire], TyTup [.v .bool], decTup [.sl .Wire], fun x => some ((fun (a0 : List G.Wire) => wiresOk a0) x), flatTup [.v .bool], [(false, 1)], []⟩
theorem e40 (x : TyTup [.sl .Wire]) : evalF C40 Tryz.f40 (Tryz.f40.body.getD .skip) an40 (plains 1) [] [(false, 1)] [.v .bool] (encTup [.sl .Wire] x) = spec_WiresOk.raw x := by kernel_rfl
theorem c40 : Contract Tryz.prog 40 ci40 :=
  evalF_ok (C := C40) (tnOk_of tn_mixed tn_ok _ _) (phi_cons c91 phi_nil) Tryz.func40 (by kernel_rfl : Tryz.f40.body = some (Tryz.f40.body.getD .skip)) (by kernel_rfl) (by kernel_rfl) an40 (plains 1) [] [(false, 1)] [.sl .Wire] [.v .bool] (fun x => some ((fun (a0 : List G.Wire) => wiresOk a0) x)) rfl (by kernel_rfl)
    fun x r hb h => (e40 x).trans ((spec_WiresOk.ok hb).trans h)

def an92 : An := ⟨[], [], [], [(3, ⟨[.slot 2 (.v .bool)], [(9, 36)], []⟩)], []⟩
noncomputable def C92 : Cx := ⟨Tryz.prog, tnT, fun f => lookC f [(37, ci37)], 37⟩
noncomputable def ci92 : CInfo := ⟨(plains 1), TyTup [.v .Timer], TyTup [.v .bool], decTup [.v .Timer], fun x => some ((fun (a0 : G.Timer) => timerOk a0) x), flatTup [.v .bool], [(false, 1)], []⟩
theorem e92 (x : TyTup [.v .Timer]) : evalF C92 Tryz.f92 (Tryz.f92.body.getD .skip) an92 (plains 1) [] [(false, 1)] [.v .bool] (encTup [.v .Timer] x) = spec_TimerOk.raw x := by kernel_rfl
theorem c92 : Contract Tryz.prog 92 ci92 :=
  evalF_ok (C := C92) (tnOk_of tn_mixed tn_ok _ _) (phi_cons c37 phi_nil) Tryz.func92 (by kernel_rfl : Tryz.f92.body = some (Tryz.f92.body.getD .skip)) (by kernel_rfl) (by kernel_rfl) an92 (plains 1) [] [(false, 1)] [.v .Timer] [.v .bool] (fun x => some ((fun (a0 : G.Timer) => timerOk a0) x)) rfl (by kernel_rfl)
    fun x r hb h => (e92 x).trans ((spec_TimerOk.ok hb).trans h)

def an93 : An := ⟨[], [], [], [(1, ⟨[.slot 2 (.v .bool)], [(3, 61)], []⟩)], []⟩
noncomputable def C93 : Cx := ⟨Tryz.prog, tnT, fun f => lookC f [], 62⟩
noncomputable def ci93 : CInfo := ⟨(plains 1), TyTup [.v .Frame], TyTup [.v .bool], decTup [.v .Frame], fun x => some ((fun (a0 : G.Frame) => noFrame a0) x), flatTup [.v .bool], [(false, 1)], []⟩
theorem e93 (x : TyTup [.v .Frame]) : evalF C93 Tryz.f93 (Tryz.f93.body.getD .skip) an93 (plains 1) [] [(false, 1)] [.v .bool] (encTup [.v .Frame] x) = spec_l19NoFrame.raw x := by kernel_rfl
theorem c93 : Contract Tryz.prog 93 ci93 :=
  evalF_ok (C := C93) (tnOk_of tn_mixed tn_ok _ _) phi_nil Tryz.func93 (by kernel_rfl : Tryz.f93.body = some (Tryz.f93.body.getD .skip)) (by kernel_rfl) (by kernel_rfl) an93 (plains 1) [] [(false, 1)] [.v .Frame] [.v .bool] (fun x => some ((fun (a0 : G.Frame) => noFrame a0) x)) rfl (by kernel_rfl)
    fun x r hb h => (e93 x).trans ((spec_l19NoFrame.ok hb).trans h)

def an141 : An := ⟨[], [], [], [], []⟩
noncomputable def C141 : Cx := ⟨Tryz.prog, tnT, fun f => lookC f [(37, ci37)], 5⟩
noncomputable def ci141 : CInfo := ⟨(plains 1), TyTup [.v .int], TyTup [.v .bool], decTup [.v .int], fun x => some ((fun (a0 : Int) => isSealed a0) x), flatTup [.v .bool], [(false, 1)], []⟩
theorem e141 (x : TyTup [.v .int]) : evalF C141 Tryz.f141 (Tryz.f141.body.getD .skip) an141 (plains 1) [] [(false, 1)] [.v .bool] (encTup [.v .int] x) = spec_Sealed.raw x := by kernel_rfl
theorem c141 : Contract Tryz.prog 141 ci141 :=
  evalF_ok (C := C141) (tnOk_of tn_mixed tn_ok _ _) (phi_cons c37 phi_nil) Tryz.func141 (by kernel_rfl : Tryz.f141.body = some (Tryz.f141.body.getD .skip)) (by kernel_rfl) (by kernel_rfl) an141 (plains 1) [] [(false, 1)] [.v .int] [.v .bool] (fun x => some ((fun (a0 : Int) => isSealed a0) x)) rfl (by kernel_rfl)
    fun x r hb h => (e141 x).trans ((spec_Sealed.ok hb).trans h)

def an142 : An := ⟨[], [], [], [(3, ⟨[.slot 14 (.v .bool)], [(9, 13)], []⟩)], []⟩
noncomputable def C142 : Cx := ⟨Tryz.prog, tnT, fun f => lookC f [], 19⟩
noncomputable def ci142 : CInfo := ⟨(plains 2), TyTup [.v .int, .v .int], TyTup [.v .bool], decTup [.v .int, .v .int], fun x => some ((fun (a0 : Int) (a1 : Int) => bodyOk a0 a1) x.1 x.2), flatTup [.v .bool], [(false, 1)], []⟩
theorem e142 (x : TyTup [.v .int, .v .int]) : evalF C142 Tryz.f142 (Tryz.f142.body.getD .skip) an142 (plains 2) [] [(false, 1)] [.v .bool] (encTup [.v .int, .v .int] x) = spec_l7Body.raw x.1 x.2 := by kernel_rfl
theorem c142 : Contract Tryz.prog 142 ci142 :=
  evalF_ok (C := C142) (tnOk_of tn_mixed tn_ok _ _) phi_nil Tryz.func142 (by kernel_rfl : Tryz.f142.body = some (Tryz.f142.body.getD .skip)) (by kernel_rfl) (by kernel_rfl) an142 (plains 2) [] [(false, 1)] [.v .int, .v .int] [.v .bool] (fun x => some ((fun (a0 : Int) (a1 : Int) => bodyOk a0 a1) x.1 x.2)) rfl (by kernel_rfl)
    fun x r hb h => (e142 x).trans ((spec_l7Body.ok hb).trans h)

def an96 : An := ⟨[], [], [], [(2, ⟨[.slot 2 (.v .bool)], [(6, 61)], []⟩), (3, ⟨[.slot 87 (.v .bool)], [(62, 86)], []⟩), (7, ⟨[.slot 2 (.v .bool)], [(92, 117)], []⟩), (9, ⟨[.slot 2 (.v .bool)], [(120, 145)], []⟩), (11, ⟨[.slot 2 (.v .bool)], [(148, 173)], []⟩)], []⟩
noncomputable def C96 : Cx := ⟨Tryz.prog, tnT, fun f => lookC f [(37, ci37), (141, ci141), (142, ci142)], 174⟩
noncomputable def ci96 : CInfo := ⟨(plains 1), TyTup [.v .Frame], TyTup [.v .bool], decTup [.v .Frame], fun x => some ((fun (a0 : G.Frame) => frameOk a0) x), flatTup [.v .bool], [(false, 1)], []⟩
theorem e96 (x : TyTup [.v .Frame]) : evalF C96 Tryz.f96 (Tryz.f96.body.getD .skip) an96 (plains 1) [] [(false, 1)] [.v .bool] (encTup [.v .Frame] x) = spec_FrameOk.raw x := by kernel_rfl
theorem c96 : Contract Tryz.prog 96 ci96 :=
  evalF_ok (C := C96) (tnOk_of tn_mixed tn_ok _ _) (phi_cons c37 (phi_cons c141 (phi_cons c142 phi_nil))) Tryz.func96 (by kernel_rfl : Tryz.f96.body = some (Tryz.f96.body.getD .skip)) (by kernel_rfl) (by kernel_rfl) an96 (plains 1) [] [(false, 1)] [.v .Frame] [.v .bool] (fun x => some ((fun (a0 : G.Frame) => frameOk a0) x)) rfl (by kernel_rfl)
    fun x r hb h => (e96 x).trans ((spec_FrameOk.ok hb).trans h)

def an41 : An := ⟨[], [], [], [(1, ⟨[.slot 36 (.v .bool)], [(3, 35)], []⟩), (4, ⟨[.slot 2 (.v .bool)], [(40, 70)], []⟩), (8, ⟨[.slot 2 (.v .bool)], [(78, 108)], []⟩), (9, ⟨[.slot 122 (.v .bool)], [(109, 121)], []⟩), (12, ⟨[.slot 2 (.v .bool)], [(126, 133)], []⟩), (13, ⟨[.slot 2 (.v .bool)], [(134, 203)], []⟩)], []⟩
noncomputable def C41 : Cx := ⟨Tryz.prog, tnT, fun f => lookC f [(37, ci37), (42, ci42), (69, ci69), (90, ci90), (92, ci92), (93, ci93), (94, ci94), (95, ci95), (96, ci96)], 204⟩
noncomputable def ci41 : CInfo := ⟨(plains 1), TyTup [.v .Client], TyTup [.v .bool], decTup [.v .Client], fun x => (fun (a0 : G.Client) => clientOkO a0) x, flatTup [.v .bool], [(false, 1)], []⟩
theorem e41 (x : TyTup [.v .Client]) : evalF C41 Tryz.f41 (Tryz.f41.body.getD .skip) an41 (plains 1) [] [(false, 1)] [.v .bool] (encTup [.v .Client] x) = spec_ClientOk.raw x := by kernel_rfl
theorem c41 : Contract Tryz.prog 41 ci41 :=
  evalF_ok (C := C41) (tnOk_of tn_mixed tn_ok _ _) (phi_cons c37 (phi_cons c42 (phi_cons c69 (phi_cons c90 (phi_cons c92 (phi_cons c93 (phi_cons c94 (phi_cons c95 (phi_cons c96 phi_nil))))))))) Tryz.func41 (by kernel_rfl : Tryz.f41.body = some (Tryz.f41.body.getD .skip)) (by kernel_rfl) (by kernel_rfl) an41 (plains 1) [] [(false, 1)] [.v .Client] [.v .bool] (fun x => (fun (a0 : G.Client) => clientOkO a0) x) rfl (by kernel_rfl)
    fun x r hb h => (e41 x).trans (spec_ClientOk.ok hb h)

def an97 : An := ⟨[], [], [], [(1, ⟨[.slot 4 (.v .bool)], [(5, 11)], []⟩)], []⟩
noncomputable def C97 : Cx := ⟨Tryz.prog, tnT, fun f => lookC f [], 12⟩
noncomputable def ci97 : CInfo := ⟨(plains 2), TyTup [.v .int, .v .int], TyTup [.v .bool], decTup [.v .int, .v .int], fun x => some ((fun (a0 : Int) (a1 : Int) => isLen a0 a1) x.1 x.2), flatTup [.v .bool], [(false, 1)], []⟩
theorem e97 (x : TyTup [.v .int, .v .int]) : evalF C97 Tryz.f97 (Tryz.f97.body.getD .skip) an97 (plains 2) [] [(false, 1)] [.v .bool] (encTup [.v .int, .v .int] x) = spec_l18Len.raw x.1 x.2 := by kernel_rfl
theorem c97 : Contract Tryz.prog 97 ci97 :=
  evalF_ok (C := C97) (tnOk_of tn_mixed tn_ok _ _) phi_nil Tryz.func97 (by kernel_rfl : Tryz.f97.body = some (Tryz.f97.body.getD .skip)) (by kernel_rfl) (by kernel_rfl) an97 (plains 2) [] [(false, 1)] [.v .int, .v .int] [.v .bool] (fun x => some ((fun (a0 : Int) (a1 : Int) => isLen a0 a1) x.1 x.2)) rfl (by kernel_rfl)
    fun x r hb h => (e97 x).trans ((spec_l18Len.ok hb).trans h)

def an43 : An := ⟨[], [], [], [(1, ⟨[.slot 2 (.v .bool)], [(3, 59)], []⟩)], []⟩
noncomputable def C43 : Cx := ⟨Tryz.prog, tnT, fun f => lookC f [(37, ci37), (69, ci69), (97, ci97)], 60⟩
noncomputable def ci43 : CInfo := ⟨(plains 1), TyTup [.v .Note], TyTup [.v .bool], decTup [.v .Note], fun x => some ((fun (a0 : G.Note) => noteOk a0) x), flatTup [.v .bool], [(false, 1)], []⟩
theorem e43 (x : TyTup [.v .Note]) : evalF C43 Tryz.f43 (Tryz.f43.body.getD .skip) an43 (plains 1) [] [(false, 1)] [.v .bool] (encTup [.v .Note] x) = spec_NoteOk.raw x := by kernel_rfl
theorem c43 : Contract Tryz.prog 43 ci43 :=
  evalF_ok (C := C43) (tnOk_of tn_mixed tn_ok _ _) (phi_cons c37 (phi_cons c69 (phi_cons c97 phi_nil))) Tryz.func43 (by kernel_rfl : Tryz.f43.body = some (Tryz.f43.body.getD .skip)) (by kernel_rfl) (by kernel_rfl) an43 (plains 1) [] [(false, 1)] [.v .Note] [.v .bool] (fun x => some ((fun (a0 : G.Note) => noteOk a0) x)) rfl (by kernel_rfl)
    fun x r hb h => (e43 x).trans ((spec_NoteOk.ok hb).trans h)

def an12 : An := ⟨[], [(0, ⟨[], [(2, 3), (47, 84)], []⟩), (2, ⟨[], [(2, 2), (4, 4), (85, 98)], []⟩), (4, ⟨[], [(2, 2), (5, 5), (99, 112)], []⟩)], [(4, ⟨[.slot 3 (.v .int)], [(2, 2), (47, 84)], []⟩), (9, ⟨[.slot 4 (.v .int)], [(2, 2), (85, 98)], []⟩), (14, ⟨[.slot 5 (.v .int)], [(2, 2), (99, 112)], []⟩)], [(1, ⟨[.slot 46 (.v .bool)], [(6, 45)], []⟩), (6, ⟨[.slot 84 (.v .bool)], [(51, 83)], []⟩)], []⟩
noncomputable def C12 : Cx := ⟨Tryz.prog, tnT, fun f => lookC f [(37, ci37), (38, ci38), (39, ci39), (40, ci40), (41, ci41), (42, ci42), (43, ci43)], 113⟩
noncomputable def ci12 : CInfo := ⟨(plains 1), TyTup [.v .World], TyTup [.v .bool], decTup [.v .World], fun x => (fun (a0 : G.World) => worldOkO a0) x, flatTup [.v .bool], [(false, 1)], []⟩
theorem e12 (x : TyTup [.v .World]) : evalF C12 Tryz.f12 (Tryz.f12.body.getD .skip) an12 (plains 1) [] [(false, 1)] [.v .bool] (encTup [.v .World] x) = spec_WorldOk.raw x := by kernel_rfl
theorem c12 : Contract Tryz.prog 12 ci12 :=
  evalF_ok (C := C12) (tnOk_of tn_mixed tn_ok _ _) (phi_cons c37 (phi_cons c38 (phi_cons c39 (phi_cons c40 (phi_cons c41 (phi_cons c42 (phi_cons c43 phi_nil))))))) Tryz.func12 (by kernel_rfl : Tryz.f12.body = some (Tryz.f12.body.getD .skip)) (by kernel_rfl) (by kernel_rfl) an12 (plains 1) [] [(false, 1)] [.v .World] [.v .bool] (fun x => (fun (a0 : G.World) => worldOkO a0) x) rfl (by kernel_rfl)
    fun x r hb h => (e12 x).trans (spec_WorldOk.ok hb h)

def an20 : An := ⟨[], [], [], [(1, ⟨[.slot 15 (.v .bool)], [(8, 14)], []⟩), (5, ⟨[.slot 45 (.v .bool)], [(29, 44)], []⟩), (11, ⟨[.slot 4 (.v .bool)], [(68, 100)], []⟩), (12, ⟨[.slot 4 (.v .bool)], [(101, 166)], []⟩)], []⟩
noncomputable def C20 : Cx := ⟨Tryz.prog, tnT, fun f => lookC f [(12, ci12), (37, ci37), (42, ci42), (65, ci65)], 167⟩
noncomputable def ci20 : CInfo := ⟨(plains 2), TyTup [.v .World, .v .int], TyTup [.v .bool], decTup [.v .World, .v .int], fun x => (fun (a0 : G.World) (a1 : Int) => epochsFitO a0 a1) x.1 x.2, flatTup [.v .bool], [(false, 1)], []⟩
theorem e20 (x : TyTup [.v .World, .v .int]) : evalF C20 Tryz.f20 (Tryz.f20.body.getD .skip) an20 (plains 2) [] [(false, 1)] [.v .bool] (encTup [.v .World, .v .int] x) = spec_EpochsFit.raw x.1 x.2 := by kernel_rfl
theorem c20 : Contract Tryz.prog 20 ci20 :=
  evalF_ok (C := C20) (tnOk_of tn_mixed tn_ok _ _) (phi_cons c12 (phi_cons c37 (phi_cons c42 (phi_cons c65 phi_nil)))) Tryz.func20 (by kernel_rfl : Tryz.f20.body = some (Tryz.f20.body.getD .skip)) (by kernel_rfl) (by kernel_rfl) an20 (plains 2) [] [(false, 1)] [.v .World, .v .int] [.v .bool] (fun x => (fun (a0 : G.World) (a1 : Int) => epochsFitO a0 a1) x.1 x.2) rfl (by kernel_rfl)
    fun x r hb h => (e20 x).trans (spec_EpochsFit.ok hb h)

def an22 : An := ⟨[], [], [], [(1, ⟨[.slot 17 (.v .bool)], [(9, 16)], []⟩), (5, ⟨[.slot 47 (.v .bool)], [(31, 46)], []⟩), (8, ⟨[.slot 84 (.v .bool)], [(55, 83)], []⟩), (11, ⟨[.slot 4 (.v .bool)], [(85, 119)], []⟩)], []⟩
noncomputable def C22 : Cx := ⟨Tryz.prog, tnT, fun f => lookC f [(20, ci20), (37, ci37), (65, ci65)], 120⟩
noncomputable def ci22 : CInfo := ⟨(plains 2), TyTup [.v .World, .v .int], TyTup [.v .bool], decTup [.v .World, .v .int], fun x => (fun (a0 : G.World) (a1 : Int) => linkedO a0 a1) x.1 x.2, flatTup [.v .bool], [(false, 1)], []⟩
theorem e22 (x : TyTup [.v .World, .v .int]) : evalF C22 Tryz.f22 (Tryz.f22.body.getD .skip) an22 (plains 2) [] [(false, 1)] [.v .bool] (encTup [.v .World, .v .int] x) = spec_Linked.raw x.1 x.2 := by kernel_rfl
theorem c22 : Contract Tryz.prog 22 ci22 :=
  evalF_ok (C := C22) (tnOk_of tn_mixed tn_ok _ _) (phi_cons c20 (phi_cons c37 (phi_cons c65 phi_nil))) Tryz.func22 (by kernel_rfl : Tryz.f22.body = some (Tryz.f22.body.getD .skip)) (by kernel_rfl) (by kernel_rfl) an22 (plains 2) [] [(false, 1)] [.v .World, .v .int] [.v .bool] (fun x => (fun (a0 : G.World) (a1 : Int) => linkedO a0 a1) x.1 x.2) rfl (by kernel_rfl)
    fun x r hb h => (e22 x).trans (spec_Linked.ok hb h)

def an70 : An := ⟨[], [], [], [], []⟩
noncomputable def C70 : Cx := ⟨Tryz.prog, tnT, fun f => lookC f [(124, ci124)], 2⟩
noncomputable def ci70 : CInfo := ⟨(plains 0), TyTup [], TyTup [.v .Addr], decTup [], fun x => some (hub), flatTup [.v .Addr], [(true, 2)], []⟩
theorem e70 (x : TyTup []) : evalF C70 Tryz.f70 (Tryz.f70.body.getD .skip) an70 (plains 0) [] [(true, 2)] [.v .Addr] (encTup [] x) = spec_Hub.raw := by kernel_rfl
theorem c70 : Contract Tryz.prog 70 ci70 :=
  evalF_ok (C := C70) (tnOk_of tn_mixed tn_ok _ _) (phi_cons c124 phi_nil) Tryz.func70 (by kernel_rfl : Tryz.f70.body = some (Tryz.f70.body.getD .skip)) (by kernel_rfl) (by kernel_rfl) an70 (plains 0) [] [(true, 2)] [] [.v .Addr] (fun x => some (hub)) rfl (by kernel_rfl)
    fun x r hb h => (e70 x).trans ((spec_Hub.ok hb).trans h)

def an126 : An := ⟨[], [], [], [], []⟩
noncomputable def C126 : Cx := ⟨Tryz.prog, tnT, fun f => lookC f [], 12⟩
noncomputable def ci126 : CInfo := ⟨(plains 1), TyTup [.v .Cand], TyTup [.v .Cand], decTup [.v .Cand], fun x => (fun (a0 : G.Cand) => candCopyO a0) x, flatTup [.v .Cand], [(true, 4)], [2]⟩
theorem e126 (x : TyTup [.v .Cand]) : evalF C126 Tryz.f126 (Tryz.f126.body.getD .skip) an126 (plains 1) [2] [(true, 4)] [.v .Cand] (encTup [.v .Cand] x) = spec_l16Cand.raw x := by kernel_rfl
theorem c126 : Contract Tryz.prog 126 ci126 :=
  evalF_ok (C := C126) (tnOk_of tn_mixed tn_ok _ _) phi_nil Tryz.func126 (by kernel_rfl : Tryz.f126.body = some (Tryz.f126.body.getD .skip)) (by kernel_rfl) (by kernel_rfl) an126 (plains 1) [2] [(true, 4)] [.v .Cand] [.v .Cand] (fun x => (fun (a0 : G.Cand) => candCopyO a0) x) rfl (by kernel_rfl)
    fun x r hb h => (e126 x).trans (spec_l16Cand.ok hb h)

def an71 : An := ⟨[], [(0, ⟨[.box 4 .Cand [2]], [(5, 6), (11, 31)], []⟩)], [(4, ⟨[.slot 6 (.v .int), .box 4 .Cand [2]], [(5, 5), (11, 31)], []⟩)], [], []⟩
noncomputable def C71 : Cx := ⟨Tryz.prog, tnT, fun f => lookC f [(125, ci125), (126, ci126)], 33⟩
noncomputable def ci71 : CInfo := ⟨(plains 2), TyTup [.v .Paths, .v .Addr], TyTup [.v .Cand, .v .bool], decTup [.v .Paths, .v .Addr], fun x => (fun (a0 : G.Paths) (a1 : G.Addr) => candOfO a0 a1) x.1 x.2, flatTup [.v .Cand, .v .bool], [(true, 4), (false, 1)], [2]⟩
theorem e71 (x : TyTup [.v .Paths, .v .Addr]) : evalF C71 Tryz.f71 (Tryz.f71.body.getD .skip) an71 (plains 2) [2] [(true, 4), (false, 1)] [.v .Cand, .v .bool] (encTup [.v .Paths, .v .Addr] x) = spec_CandOf.raw x.1 x.2 := by kernel_rfl
theorem c71 : Contract Tryz.prog 71 ci71 :=
  evalF_ok (C := C71) (tnOk_of tn_mixed tn_ok _ _) (phi_cons c125 (phi_cons c126 phi_nil)) Tryz.func71 (by kernel_rfl : Tryz.f71.body = some (Tryz.f71.body.getD .skip)) (by kernel_rfl) (by kernel_rfl) an71 (plains 2) [2] [(true, 4), (false, 1)] [.v .Paths, .v .Addr] [.v .Cand, .v .bool] (fun x => (fun (a0 : G.Paths) (a1 : G.Addr) => candOfO a0 a1) x.1 x.2) rfl (by kernel_rfl)
    fun x r hb h => (e71 x).trans (spec_CandOf.ok hb h)

def an127 : An := ⟨[], [(0, ⟨[], [(4, 19)], []⟩)], [(2, ⟨[.slot 5 (.v .int)], [(4, 4), (6, 19)], []⟩)], [], []⟩
noncomputable def C127 : Cx := ⟨Tryz.prog, tnT, fun f => lookC f [], 20⟩
noncomputable def ci127 : CInfo := ⟨(plains 2), TyTup [.sl .Credit, .v .Addr], TyTup [.v .int], decTup [.sl .Credit, .v .Addr], fun x => some ((fun (a0 : List G.Credit) (a1 : G.Addr) => cAt a0 a1) x.1 x.2), flatTup [.v .int], [(false, 1)], []⟩
theorem e127 (x : TyTup [.sl .Credit, .v .Addr]) : evalF C127 Tryz.f127 (Tryz.f127.body.getD .skip) an127 (plains 2) [] [(false, 1)] [.v .int] (encTup [.sl .Credit, .v .Addr] x) = spec_l17At.raw x.1 x.2 := by kernel_rfl
theorem c127 : Contract Tryz.prog 127 ci127 :=
  evalF_ok (C := C127) (tnOk_of tn_mixed tn_ok _ _) phi_nil Tryz.func127 (by kernel_rfl : Tryz.f127.body = some (Tryz.f127.body.getD .skip)) (by kernel_rfl) (by kernel_rfl) an127 (plains 2) [] [(false, 1)] [.sl .Credit, .v .Addr] [.v .int] (fun x => some ((fun (a0 : List G.Credit) (a1 : G.Addr) => cAt a0 a1) x.1 x.2)) rfl (by kernel_rfl)
    fun x r hb h => (e127 x).trans ((spec_l17At.ok hb).trans h)

def an72 : An := ⟨[], [], [], [], []⟩
noncomputable def C72 : Cx := ⟨Tryz.prog, tnT, fun f => lookC f [(89, ci89), (127, ci127)], 23⟩
noncomputable def ci72 : CInfo := ⟨(plains 2), TyTup [.sl .Credit, .v .Addr], TyTup [.v .bool], decTup [.sl .Credit, .v .Addr], fun x => some ((fun (a0 : List G.Credit) (a1 : G.Addr) => creditFor a0 a1) x.1 x.2), flatTup [.v .bool], [(false, 1)], []⟩
theorem e72 (x : TyTup [.sl .Credit, .v .Addr]) : evalF C72 Tryz.f72 (Tryz.f72.body.getD .skip) an72 (plains 2) [] [(false, 1)] [.v .bool] (encTup [.sl .Credit, .v .Addr] x) = spec_CreditFor.raw x.1 x.2 := by kernel_rfl
theorem c72 : Contract Tryz.prog 72 ci72 :=
  evalF_ok (C := C72) (tnOk_of tn_mixed tn_ok _ _) (phi_cons c89 (phi_cons c127 phi_nil)) Tryz.func72 (by kernel_rfl : Tryz.f72.body = some (Tryz.f72.body.getD .skip)) (by kernel_rfl) (by kernel_rfl) an72 (plains 2) [] [(false, 1)] [.sl .Credit, .v .Addr] [.v .bool] (fun x => some ((fun (a0 : List G.Credit) (a1 : G.Addr) => creditFor a0 a1) x.1 x.2)) rfl (by kernel_rfl)
    fun x r hb h => (e72 x).trans ((spec_CreditFor.ok hb).trans h)

def an26 : An := ⟨[], [], [], [(1, ⟨[.slot 41 (.v .bool)], [(10, 40)], []⟩), (5, ⟨[.slot 6 (.v .bool)], [(67, 89)], []⟩)], []⟩
noncomputable def C26 : Cx := ⟨Tryz.prog, tnT, fun f => lookC f [(22, ci22), (65, ci65), (69, ci69), (70, ci70), (71, ci71), (72, ci72)], 90⟩
noncomputable def ci26 : CInfo := ⟨(plains 3), TyTup [.v .World, .v .int, .v .Addr], TyTup [.v .bool], decTup [.v .World, .v .int, .v .Addr], fun x => (fun (a0 : G.World) (a1 : Int) (a2 : G.Addr) => canMoveO a0 a1 a2) x.1 x.2.1 x.2.2, flatTup [.v .bool], [(false, 1)], []⟩
theorem e26 (x : TyTup [.v .World, .v .int, .v .Addr]) : evalF C26 Tryz.f26 (Tryz.f26.body.getD .skip) an26 (plains 3) [] [(false, 1)] [.v .bool] (encTup [.v .World, .v .int, .v .Addr] x) = spec_CanMove.raw x.1 x.2.1 x.2.2 := by kernel_rfl
theorem c26 : Contract Tryz.prog 26 ci26 :=
  evalF_ok (C := C26) (tnOk_of tn_mixed tn_ok _ _) (phi_cons c22 (phi_cons c65 (phi_cons c69 (phi_cons c70 (phi_cons c71 (phi_cons c72 phi_nil)))))) Tryz.func26 (by kernel_rfl : Tryz.f26.body = some (Tryz.f26.body.getD .skip)) (by kernel_rfl) (by kernel_rfl) an26 (plains 3) [] [(false, 1)] [.v .World, .v .int, .v .Addr] [.v .bool] (fun x => (fun (a0 : G.World) (a1 : Int) (a2 : G.Addr) => canMoveO a0 a1 a2) x.1 x.2.1 x.2.2) rfl (by kernel_rfl)
    fun x r hb h => (e26 x).trans (spec_CanMove.ok hb h)

def an50 : An := ⟨[], [], [], [(1, ⟨[.slot 6 (.v .bool)], [(7, 14)], []⟩)], []⟩
noncomputable def C50 : Cx := ⟨Tryz.prog, tnT, fun f => lookC f [], 15⟩
noncomputable def ci50 : CInfo := ⟨(plains 3), TyTup [.v .int, .v .int, .v .int], TyTup [.v .bool], decTup [.v .int, .v .int, .v .int], fun x => some ((fun (a0 : Int) (a1 : Int) (a2 : Int) => inR a0 a1 a2) x.1 x.2.1 x.2.2), flatTup [.v .bool], [(false, 1)], []⟩
theorem e50 (x : TyTup [.v .int, .v .int, .v .int]) : evalF C50 Tryz.f50 (Tryz.f50.body.getD .skip) an50 (plains 3) [] [(false, 1)] [.v .bool] (encTup [.v .int, .v .int, .v .int] x) = impl_within.raw x.1 x.2.1 x.2.2 := by kernel_rfl
theorem c50 : Contract Tryz.prog 50 ci50 :=
  evalF_ok (C := C50) (tnOk_of tn_mixed tn_ok _ _) phi_nil Tryz.func50 (by kernel_rfl : Tryz.f50.body = some (Tryz.f50.body.getD .skip)) (by kernel_rfl) (by kernel_rfl) an50 (plains 3) [] [(false, 1)] [.v .int, .v .int, .v .int] [.v .bool] (fun x => some ((fun (a0 : Int) (a1 : Int) (a2 : Int) => inR a0 a1 a2) x.1 x.2.1 x.2.2)) rfl (by kernel_rfl)
    fun x r hb h => (e50 x).trans ((impl_within.ok hb).trans h)

def an105 : An := ⟨[], [], [], [], []⟩
noncomputable def C105 : Cx := ⟨Tryz.prog, tnT, fun f => lookC f [], 7⟩
noncomputable def ci105 : CInfo := ⟨(plains 1), TyTup [.v .Jar], TyTup [.v .bool], decTup [.v .Jar], fun x => some ((fun (a0 : G.Jar) => jarOk a0) x), flatTup [.v .bool], [(false, 1)], []⟩
theorem e105 (x : TyTup [.v .Jar]) : evalF C105 Tryz.f105 (Tryz.f105.body.getD .skip) an105 (plains 1) [] [(false, 1)] [.v .bool] (encTup [.v .Jar] x) = impl_JarOk.raw x := by kernel_rfl
theorem c105 : Contract Tryz.prog 105 ci105 :=
  evalF_ok (C := C105) (tnOk_of tn_mixed tn_ok _ _) phi_nil Tryz.func105 (by kernel_rfl : Tryz.f105.body = some (Tryz.f105.body.getD .skip)) (by kernel_rfl) (by kernel_rfl) an105 (plains 1) [] [(false, 1)] [.v .Jar] [.v .bool] (fun x => some ((fun (a0 : G.Jar) => jarOk a0) x)) rfl (by kernel_rfl)
    fun x r hb h => (e105 x).trans ((impl_JarOk.ok hb).trans h)

def an52 : An := ⟨[], [], [], [(1, ⟨[.slot 2 (.v .bool)], [(3, 11)], []⟩)], []⟩
noncomputable def C52 : Cx := ⟨Tryz.prog, tnT, fun f => lookC f [(50, ci50)], 12⟩
noncomputable def ci52 : CInfo := ⟨(plains 1), TyTup [.v .Dice], TyTup [.v .bool], decTup [.v .Dice], fun x => some ((fun (a0 : G.Dice) => diceOk a0) x), flatTup [.v .bool], [(false, 1)], []⟩
theorem e52 (x : TyTup [.v .Dice]) : evalF C52 Tryz.f52 (Tryz.f52.body.getD .skip) an52 (plains 1) [] [(false, 1)] [.v .bool] (encTup [.v .Dice] x) = impl_DiceOk.raw x := by kernel_rfl
theorem c52 : Contract Tryz.prog 52 ci52 :=
  evalF_ok (C := C52) (tnOk_of tn_mixed tn_ok _ _) (phi_cons c50 phi_nil) Tryz.func52 (by kernel_rfl : Tryz.f52.body = some (Tryz.f52.body.getD .skip)) (by kernel_rfl) (by kernel_rfl) an52 (plains 1) [] [(false, 1)] [.v .Dice] [.v .bool] (fun x => some ((fun (a0 : G.Dice) => diceOk a0) x)) rfl (by kernel_rfl)
    fun x r hb h => (e52 x).trans ((impl_DiceOk.ok hb).trans h)

def an64 : An := ⟨[(983047, ⟨[.slot 3 (.v .int)], [(16, 17)], []⟩)], [(0, ⟨[.slot 3 (.v .int)], [(5, 5), (9, 18)], []⟩)], [(3, ⟨[.slot 3 (.v .int), .slot 9 (.v .int)], [(5, 5), (10, 18)], []⟩)], [], []⟩
noncomputable def C64 : Cx := ⟨Tryz.prog, tnT, fun f => lookC f [], 20⟩
noncomputable def ci64 : CInfo := ⟨(plains 1), TyTup [.v .Tab], TyTup [.v .int], decTup [.v .Tab], fun x => (fun (a0 : G.Tab) => liveO a0) x, flatTup [.v .int], [(false, 1)], []⟩
theorem e64 (x : TyTup [.v .Tab]) : evalF C64 Tryz.f64 (Tryz.f64.body.getD .skip) an64 (plains 1) [] [(false, 1)] [.v .int] (encTup [.v .Tab] x) = impl_Live.raw x := by kernel_rfl
theorem c64 : Contract Tryz.prog 64 ci64 :=
  evalF_ok (C := C64) (tnOk_of tn_mixed tn_ok _ _) phi_nil Tryz.func64 (by kernel_rfl : Tryz.f64.body = some (Tryz.f64.body.getD .skip)) (by kernel_rfl) (by kernel_rfl) an64 (plains 1) [] [(false, 1)] [.v .Tab] [.v .int] (fun x => (fun (a0 : G.Tab) => liveO a0) x) rfl (by kernel_rfl)
    fun x r hb h => (e64 x).trans (impl_Live.ok hb h)

def an112 : An := ⟨[], [], [], [], []⟩
noncomputable def C112 : Cx := ⟨Tryz.prog, tnT, fun f => lookC f [], 6⟩
noncomputable def ci112 : CInfo := ⟨(plains 1), TyTup [.sl .byte], TyTup [.v .bool], decTup [.sl .byte], fun x => some ((fun (a0 : List UInt8) => isNonce a0) x), flatTup [.v .bool], [(false, 1)], []⟩
theorem e112 (x : TyTup [.sl .byte]) : evalF C112 Tryz.f112 (Tryz.f112.body.getD .skip) an112 (plains 1) [] [(false, 1)] [.v .bool] (encTup [.sl .byte] x) = impl_isNonce.raw x := by kernel_rfl
theorem c112 : Contract Tryz.prog 112 ci112 :=
  evalF_ok (C := C112) (tnOk_of tn_mixed tn_ok _ _) phi_nil Tryz.func112 (by kernel_rfl : Tryz.f112.body = some (Tryz.f112.body.getD .skip)) (by kernel_rfl) (by kernel_rfl) an112 (plains 1) [] [(false, 1)] [.sl .byte] [.v .bool] (fun x => some ((fun (a0 : List UInt8) => isNonce a0) x)) rfl (by kernel_rfl)
    fun x r hb h => (e112 x).trans ((impl_isNonce.ok hb).trans h)

def an55 : An := ⟨[], [], [], [], []⟩
noncomputable def C55 : Cx := ⟨Tryz.prog, tnT, fun f => lookC f [], 10⟩
noncomputable def ci55 : CInfo := ⟨(plains 2), TyTup [.sl .byte, .sl .byte], TyTup [.v .bool], decTup [.sl .byte, .sl .byte], fun x => (fun (a0 : List UInt8) (a1 : List UInt8) => sameO a0 a1) x.1 x.2, flatTup [.v .bool], [(false, 1)], []⟩
theorem e55 (x : TyTup [.sl .byte, .sl .byte]) : evalF C55 Tryz.f55 (Tryz.f55.body.getD .skip) an55 (plains 2) [] [(false, 1)] [.v .bool] (encTup [.sl .byte, .sl .byte] x) = bytes_Equal.raw x.1 x.2 := by kernel_rfl
theorem c55 : Contract Tryz.prog 55 ci55 :=
  evalF_ok (C := C55) (tnOk_of tn_mixed tn_ok _ _) phi_nil Tryz.func55 (by kernel_rfl : Tryz.f55.body = some (Tryz.f55.body.getD .skip)) (by kernel_rfl) (by kernel_rfl) an55 (plains 2) [] [(false, 1)] [.sl .byte, .sl .byte] [.v .bool] (fun x => (fun (a0 : List UInt8) (a1 : List UInt8) => sameO a0 a1) x.1 x.2) rfl (by kernel_rfl)
    fun x r hb h => (e55 x).trans (bytes_Equal.ok hb h)

def an172 : An := ⟨[], [(0, ⟨[], [(4, 6), (14, 25)], []⟩)], [(4, ⟨[.slot 14 (.v .int)], [(4, 6), (15, 25)], []⟩)], [], []⟩
noncomputable def C172 : Cx := ⟨Tryz.prog, tnT, fun f => lookC f [], 26⟩
noncomputable def ci172 : CInfo := ⟨(plains 2), TyTup [.sl .int, .sl .int], TyTup [.v .bool], decTup [.sl .int, .sl .int], fun x => some ((fun (a0 : List Int) (a1 : List Int) => sameI a0 a1) x.1 x.2), flatTup [.v .bool], [(false, 1)], []⟩
theorem e172 (x : TyTup [.sl .int, .sl .int]) : evalF C172 Tryz.f172 (Tryz.f172.body.getD .skip) an172 (plains 2) [] [(false, 1)] [.v .bool] (encTup [.sl .int, .sl .int] x) = impl_sameInts.raw x.1 x.2 := by kernel_rfl
theorem c172 : Contract Tryz.prog 172 ci172 :=
  evalF_ok (C := C172) (tnOk_of tn_mixed tn_ok _ _) phi_nil Tryz.func172 (by kernel_rfl : Tryz.f172.body = some (Tryz.f172.body.getD .skip)) (by kernel_rfl) (by kernel_rfl) an172 (plains 2) [] [(false, 1)] [.sl .int, .sl .int] [.v .bool] (fun x => some ((fun (a0 : List Int) (a1 : List Int) => sameI a0 a1) x.1 x.2)) rfl (by kernel_rfl)
    fun x r hb h => (e172 x).trans ((impl_sameInts.ok hb).trans h)

def an149 : An := ⟨[], [], [], [(1, ⟨[.slot 4 (.v .bool)], [(5, 41)], []⟩)], []⟩
noncomputable def C149 : Cx := ⟨Tryz.prog, tnT, fun f => lookC f [(55, ci55), (172, ci172)], 42⟩
noncomputable def ci149 : CInfo := ⟨(plains 2), TyTup [.v .Ep, .v .Ep], TyTup [.v .bool], decTup [.v .Ep, .v .Ep], fun x => (fun (a0 : G.Ep) (a1 : G.Ep) => sameEpO a0 a1) x.1 x.2, flatTup [.v .bool], [(false, 1)], []⟩
theorem e149 (x : TyTup [.v .Ep, .v .Ep]) : evalF C149 Tryz.f149 (Tryz.f149.body.getD .skip) an149 (plains 2) [] [(false, 1)] [.v .bool] (encTup [.v .Ep, .v .Ep] x) = impl_sameEp.raw x.1 x.2 := by kernel_rfl
theorem c149 : Contract Tryz.prog 149 ci149 :=
  evalF_ok (C := C149) (tnOk_of tn_mixed tn_ok _ _) (phi_cons c55 (phi_cons c172 phi_nil)) Tryz.func149 (by kernel_rfl : Tryz.f149.body = some (Tryz.f149.body.getD .skip)) (by kernel_rfl) (by kernel_rfl) an149 (plains 2) [] [(false, 1)] [.v .Ep, .v .Ep] [.v .bool] (fun x => (fun (a0 : G.Ep) (a1 : G.Ep) => sameEpO a0 a1) x.1 x.2) rfl (by kernel_rfl)
    fun x r hb h => (e149 x).trans (impl_sameEp.ok hb h)

def an111 : An := ⟨[], [], [], [(1, ⟨[.slot 2 (.v .bool)], [(3, 39)], []⟩)], []⟩
noncomputable def C111 : Cx := ⟨Tryz.prog, tnT, fun f => lookC f [(149, ci149)], 40⟩
noncomputable def ci111 : CInfo := ⟨(plains 1), TyTup [.v .Chan], TyTup [.v .bool], decTup [.v .Chan], fun x => (fun (a0 : G.Chan) => noChanO a0) x, flatTup [.v .bool], [(false, 1)], []⟩
theorem e111 (x : TyTup [.v .Chan]) : evalF C111 Tryz.f111 (Tryz.f111.body.getD .skip) an111 (plains 1) [] [(false, 1)] [.v .bool] (encTup [.v .Chan] x) = impl_isZeroChan.raw x := by kernel_rfl
theorem c111 : Contract Tryz.prog 111 ci111 :=
  evalF_ok (C := C111) (tnOk_of tn_mixed tn_ok _ _) (phi_cons c149 phi_nil) Tryz.func111 (by kernel_rfl : Tryz.f111.body = some (Tryz.f111.body.getD .skip)) (by kernel_rfl) (by kernel_rfl) an111 (plains 1) [] [(false, 1)] [.v .Chan] [.v .bool] (fun x => (fun (a0 : G.Chan) => noChanO a0) x) rfl (by kernel_rfl)
    fun x r hb h => (e111 x).trans (impl_isZeroChan.ok hb h)

def an151 : An := ⟨[], [], [], [(1, ⟨[.slot 2 (.v .bool)], [(3, 8)], []⟩)], []⟩
noncomputable def C151 : Cx := ⟨Tryz.prog, tnT, fun f => lookC f [], 9⟩
noncomputable def ci151 : CInfo := ⟨(plains 1), TyTup [.v .int], TyTup [.v .bool], decTup [.v .int], fun x => some ((fun (a0 : Int) => isRole a0) x), flatTup [.v .bool], [(false, 1)], []⟩
theorem e151 (x : TyTup [.v .int]) : evalF C151 Tryz.f151 (Tryz.f151.body.getD .skip) an151 (plains 1) [] [(false, 1)] [.v .bool] (encTup [.v .int] x) = impl_isRole.raw x := by kernel_rfl
theorem c151 : Contract Tryz.prog 151 ci151 :=
  evalF_ok (C := C151) (tnOk_of tn_mixed tn_ok _ _) phi_nil Tryz.func151 (by kernel_rfl : Tryz.f151.body = some (Tryz.f151.body.getD .skip)) (by kernel_rfl) (by kernel_rfl) an151 (plains 1) [] [(false, 1)] [.v .int] [.v .bool] (fun x => some ((fun (a0 : Int) => isRole a0) x)) rfl (by kernel_rfl)
    fun x r hb h => (e151 x).trans ((impl_isRole.ok hb).trans h)

def an190 : An := ⟨[], [(0, ⟨[], [(4, 4), (6, 6), (9, 16)], []⟩)], [(2, ⟨[.slot 9 (.v .int)], [(4, 4), (6, 6), (10, 16)], []⟩)], [], []⟩
noncomputable def C190 : Cx := ⟨Tryz.prog, tnT, fun f => lookC f [(50, ci50)], 21⟩
noncomputable def ci190 : CInfo := ⟨(plains 2), TyTup [.sl .int, .v .int], TyTup [.v .bool], decTup [.sl .int, .v .int], fun x => some ((fun (a0 : List Int) (a1 : Int) => areWords a0 a1) x.1 x.2), flatTup [.v .bool], [(false, 1)], []⟩
theorem e190 (x : TyTup [.sl .int, .v .int]) : evalF C190 Tryz.f190 (Tryz.f190.body.getD .skip) an190 (plains 2) [] [(false, 1)] [.v .bool] (encTup [.sl .int, .v .int] x) = impl_areWords.raw x.1 x.2 := by kernel_rfl
theorem c190 : Contract Tryz.prog 190 ci190 :=
  evalF_ok (C := C190) (tnOk_of tn_mixed tn_ok _ _) (phi_cons c50 phi_nil) Tryz.func190 (by kernel_rfl : Tryz.f190.body = some (Tryz.f190.body.getD .skip)) (by kernel_rfl) (by kernel_rfl) an190 (plains 2) [] [(false, 1)] [.sl .int, .v .int] [.v .bool] (fun x => some ((fun (a0 : List Int) (a1 : Int) => areWords a0 a1) x.1 x.2)) rfl (by kernel_rfl)
    fun x r hb h => (e190 x).trans ((impl_areWords.ok hb).trans h)

def an191 : An := ⟨[], [], [], [], []⟩
noncomputable def C191 : Cx := ⟨Tryz.prog, tnT, fun f => lookC f [], 17⟩
noncomputable def ci191 : CInfo := ⟨(plains 2), TyTup [.v .Win, .v .int], TyTup [.v .bool], decTup [.v .Win, .v .int], fun x => (fun (a0 : G.Win) (a1 : Int) => bitO a0 a1) x.1 x.2, flatTup [.v .bool], [(false, 1)], []⟩
theorem e191 (x : TyTup [.v .Win, .v .int]) : evalF C191 Tryz.f191 (Tryz.f191.body.getD .skip) an191 (plains 2) [] [(false, 1)] [.v .bool] (encTup [.v .Win, .v .int] x) = impl_hasBit.raw x.1 x.2 := by kernel_rfl
theorem c191 : Contract Tryz.prog 191 ci191 :=
  evalF_ok (C := C191) (tnOk_of tn_mixed tn_ok _ _) phi_nil Tryz.func191 (by kernel_rfl : Tryz.f191.body = some (Tryz.f191.body.getD .skip)) (by kernel_rfl) (by kernel_rfl) an191 (plains 2) [] [(false, 1)] [.v .Win, .v .int] [.v .bool] (fun x => (fun (a0 : G.Win) (a1 : Int) => bitO a0 a1) x.1 x.2) rfl (by kernel_rfl)
    fun x r hb h => (e191 x).trans (impl_hasBit.ok hb h)

def an175 : An := ⟨[], [(0, ⟨[], [(2, 3), (17, 23)], []⟩)], [(4, ⟨[.slot 3 (.v .int)], [(2, 2), (17, 23)], []⟩)], [(1, ⟨[.slot 13 (.v .bool)], [(4, 12)], []⟩), (8, ⟨[.slot 2 (.v .bool)], [(24, 32)], []⟩)], []⟩
noncomputable def C175 : Cx := ⟨Tryz.prog, tnT, fun f => lookC f [(50, ci50), (190, ci190), (191, ci191)], 33⟩
noncomputable def ci175 : CInfo := ⟨(plains 1), TyTup [.v .Win], TyTup [.v .bool], decTup [.v .Win], fun x => some ((fun (a0 : G.Win) => winOk a0) x), flatTup [.v .bool], [(false, 1)], []⟩
theorem e175 (x : TyTup [.v .Win]) : evalF C175 Tryz.f175 (Tryz.f175.body.getD .skip) an175 (plains 1) [] [(false, 1)] [.v .bool] (encTup [.v .Win] x) = impl_WinOk.raw x := by kernel_rfl
theorem c175 : Contract Tryz.prog 175 ci175 :=
  evalF_ok (C := C175) (tnOk_of tn_mixed tn_ok _ _) (phi_cons c50 (phi_cons c190 (phi_cons c191 phi_nil))) Tryz.func175 (by kernel_rfl : Tryz.f175.body = some (Tryz.f175.body.getD .skip)) (by kernel_rfl) (by kernel_rfl) an175 (plains 1) [] [(false, 1)] [.v .Win] [.v .bool] (fun x => some ((fun (a0 : G.Win) => winOk a0) x)) rfl (by kernel_rfl)
    fun x r hb h => (e175 x).trans ((impl_WinOk.ok hb).trans h)

def an152 : An := ⟨[], [], [], [(1, ⟨[.slot 2 (.v .bool)], [(3, 21)], []⟩)], []⟩
noncomputable def C152 : Cx := ⟨Tryz.prog, tnT, fun f => lookC f [(50, ci50), (175, ci175)], 22⟩
noncomputable def ci152 : CInfo := ⟨(plains 1), TyTup [.v .Ep], TyTup [.v .bool], decTup [.v .Ep], fun x => some ((fun (a0 : G.Ep) => epOk a0) x), flatTup [.v .bool], [(false, 1)], []⟩
theorem e152 (x : TyTup [.v .Ep]) : evalF C152 Tryz.f152 (Tryz.f152.body.getD .skip) an152 (plains 1) [] [(false, 1)] [.v .bool] (encTup [.v .Ep] x) = impl_EpOk.raw x := by kernel_rfl
theorem c152 : Contract Tryz.prog 152 ci152 :=
  evalF_ok (C := C152) (tnOk_of tn_mixed tn_ok _ _) (phi_cons c50 (phi_cons c175 phi_nil)) Tryz.func152 (by kernel_rfl : Tryz.f152.body = some (Tryz.f152.body.getD .skip)) (by kernel_rfl) (by kernel_rfl) an152 (plains 1) [] [(false, 1)] [.v .Ep] [.v .bool] (fun x => some ((fun (a0 : G.Ep) => epOk a0) x)) rfl (by kernel_rfl)
    fun x r hb h => (e152 x).trans ((impl_EpOk.ok hb).trans h)

def an153 : An := ⟨[], [], [], [(2, ⟨[.slot 2 (.v .bool)], [(6, 14)], []⟩), (3, ⟨[.slot 28 (.v .bool)], [(15, 27)], []⟩), (5, ⟨[.slot 2 (.v .bool)], [(29, 41)], []⟩)], []⟩
noncomputable def C153 : Cx := ⟨Tryz.prog, tnT, fun f => lookC f [(50, ci50), (149, ci149), (152, ci152)], 42⟩
noncomputable def ci153 : CInfo := ⟨(plains 1), TyTup [.v .Chan], TyTup [.v .bool], decTup [.v .Chan], fun x => (fun (a0 : G.Chan) => oldOkO a0) x, flatTup [.v .bool], [(false, 1)], []⟩
theorem e153 (x : TyTup [.v .Chan]) : evalF C153 Tryz.f153 (Tryz.f153.body.getD .skip) an153 (plains 1) [] [(false, 1)] [.v .bool] (encTup [.v .Chan] x) = impl_oldOk.raw x := by kernel_rfl
theorem c153 : Contract Tryz.prog 153 ci153 :=
  evalF_ok (C := C153) (tnOk_of tn_mixed tn_ok _ _) (phi_cons c50 (phi_cons c149 (phi_cons c152 phi_nil))) Tryz.func153 (by kernel_rfl : Tryz.f153.body = some (Tryz.f153.body.getD .skip)) (by kernel_rfl) (by kernel_rfl) an153 (plains 1) [] [(false, 1)] [.v .Chan] [.v .bool] (fun x => (fun (a0 : G.Chan) => oldOkO a0) x) rfl (by kernel_rfl)
    fun x r hb h => (e153 x).trans (impl_oldOk.ok hb h)

def an115 : An := ⟨[], [], [], [(1, ⟨[.slot 23 (.v .bool)], [(3, 22)], []⟩), (3, ⟨[.slot 2 (.v .bool)], [(24, 44)], []⟩)], []⟩
noncomputable def C115 : Cx := ⟨Tryz.prog, tnT, fun f => lookC f [(112, ci112), (151, ci151), (152, ci152), (153, ci153)], 45⟩
noncomputable def ci115 : CInfo := ⟨(plains 1), TyTup [.v .Chan], TyTup [.v .bool], decTup [.v .Chan], fun x => (fun (a0 : G.Chan) => chanOkO a0) x, flatTup [.v .bool], [(false, 1)], []⟩
theorem e115 (x : TyTup [.v .Chan]) : evalF C115 Tryz.f115 (Tryz.f115.body.getD .skip) an115 (plains 1) [] [(false, 1)] [.v .bool] (encTup [.v .Chan] x) = impl_ChanOk.raw x := by kernel_rfl
theorem c115 : Contract Tryz.prog 115 ci115 :=
  evalF_ok (C := C115) (tnOk_of tn_mixed tn_ok _ _) (phi_cons c112 (phi_cons c151 (phi_cons c152 (phi_cons c153 phi_nil)))) Tryz.func115 (by kernel_rfl : Tryz.f115.body = some (Tryz.f115.body.getD .skip)) (by kernel_rfl) (by kernel_rfl) an115 (plains 1) [] [(false, 1)] [.v .Chan] [.v .bool] (fun x => (fun (a0 : G.Chan) => chanOkO a0) x) rfl (by kernel_rfl)
    fun x r hb h => (e115 x).trans (impl_ChanOk.ok hb h)

def an73 : An := ⟨[], [], [], [(1, ⟨[.slot 2 (.v .bool)], [(3, 10)], []⟩)], []⟩
noncomputable def C73 : Cx := ⟨Tryz.prog, tnT, fun f => lookC f [(50, ci50)], 11⟩
noncomputable def ci73 : CInfo := ⟨(plains 1), TyTup [.v .Addr], TyTup [.v .bool], decTup [.v .Addr], fun x => some ((fun (a0 : G.Addr) => addrOk a0) x), flatTup [.v .bool], [(false, 1)], []⟩
theorem e73 (x : TyTup [.v .Addr]) : evalF C73 Tryz.f73 (Tryz.f73.body.getD .skip) an73 (plains 1) [] [(false, 1)] [.v .bool] (encTup [.v .Addr] x) = impl_AddrOk.raw x := by kernel_rfl
theorem c73 : Contract Tryz.prog 73 ci73 :=
  evalF_ok (C := C73) (tnOk_of tn_mixed tn_ok _ _) (phi_cons c50 phi_nil) Tryz.func73 (by kernel_rfl : Tryz.f73.body = some (Tryz.f73.body.getD .skip)) (by kernel_rfl) (by kernel_rfl) an73 (plains 1) [] [(false, 1)] [.v .Addr] [.v .bool] (fun x => some ((fun (a0 : G.Addr) => addrOk a0) x)) rfl (by kernel_rfl)
    fun x r hb h => (e73 x).trans ((impl_AddrOk.ok hb).trans h)

def an171 : An := ⟨[], [(0, ⟨[], [(2, 4), (6, 6), (20, 63)], []⟩), (2, ⟨[], [(2, 2), (6, 6), (53, 62)], []⟩)], [(4, ⟨[.slot 20 (.v .int)], [(2, 4), (6, 6), (21, 63)], []⟩), (9, ⟨[.slot 53 (.v .int)], [(2, 2), (6, 6), (54, 62)], []⟩)], [(1, ⟨[.slot 16 (.v .bool)], [(7, 15)], []⟩), (6, ⟨[.slot 47 (.v .bool)], [(25, 46)], []⟩)], []⟩
noncomputable def C171 : Cx := ⟨Tryz.prog, tnT, fun f => lookC f [(50, ci50), (73, ci73), (112, ci112)], 64⟩
noncomputable def ci171 : CInfo := ⟨(plains 1), TyTup [.v .Paths], TyTup [.v .bool], decTup [.v .Paths], fun x => some ((fun (a0 : G.Paths) => pathsOk a0) x), flatTup [.v .bool], [(false, 1)], []⟩
theorem e171 (x : TyTup [.v .Paths]) : evalF C171 Tryz.f171 (Tryz.f171.body.getD .skip) an171 (plains 1) [] [(false, 1)] [.v .bool] (encTup [.v .Paths] x) = impl_PathsOk.raw x := by kernel_rfl
theorem c171 : Contract Tryz.prog 171 ci171 :=
  evalF_ok (C := C171) (tnOk_of tn_mixed tn_ok _ _) (phi_cons c50 (phi_cons c73 (phi_cons c112 phi_nil))) Tryz.func171 (by kernel_rfl : Tryz.f171.body = some (Tryz.f171.body.getD .skip)) (by kernel_rfl) (by kernel_rfl) an171 (plains 1) [] [(false, 1)] [.v .Paths] [.v .bool] (fun x => some ((fun (a0 : G.Paths) => pathsOk a0) x)) rfl (by kernel_rfl)
    fun x r hb h => (e171 x).trans ((impl_PathsOk.ok hb).trans h)

def an148 : An := ⟨[], [], [], [(1, ⟨[.slot 24 (.v .bool)], [(3, 23)], []⟩), (4, ⟨[.slot 2 (.v .bool)], [(27, 48)], []⟩), (5, ⟨[.slot 2 (.v .bool)], [(49, 75)], []⟩)], []⟩
noncomputable def C148 : Cx := ⟨Tryz.prog, tnT, fun f => lookC f [(50, ci50), (55, ci55), (111, ci111), (112, ci112), (115, ci115), (171, ci171)], 76⟩
noncomputable def ci148 : CInfo := ⟨(plains 1), TyTup [.v .Sess], TyTup [.v .bool], decTup [.v .Sess], fun x => (fun (a0 : G.Sess) => sessOkO a0) x, flatTup [.v .bool], [(false, 1)], []⟩
theorem e148 (x : TyTup [.v .Sess]) : evalF C148 Tryz.f148 (Tryz.f148.body.getD .skip) an148 (plains 1) [] [(false, 1)] [.v .bool] (encTup [.v .Sess] x) = impl_SessOk.raw x := by kernel_rfl
theorem c148 : Contract Tryz.prog 148 ci148 :=
  evalF_ok (C := C148) (tnOk_of tn_mixed tn_ok _ _) (phi_cons c50 (phi_cons c55 (phi_cons c111 (phi_cons c112 (phi_cons c115 (phi_cons c171 phi_nil)))))) Tryz.func148 (by kernel_rfl : Tryz.f148.body = some (Tryz.f148.body.getD .skip)) (by kernel_rfl) (by kernel_rfl) an148 (plains 1) [] [(false, 1)] [.v .Sess] [.v .bool] (fun x => (fun (a0 : G.Sess) => sessOkO a0) x) rfl (by kernel_rfl)
    fun x r hb h => (e148 x).trans (impl_SessOk.ok hb h)

def an78 : An := ⟨[], [(0, ⟨[], [(4, 6), (10, 20)], []⟩)], [(2, ⟨[.slot 10 (.v .int)], [(4, 6), (11, 20)], []⟩)], [], []⟩
noncomputable def C78 : Cx := ⟨Tryz.prog, tnT, fun f => lookC f [(55, ci55)], 21⟩
noncomputable def ci78 : CInfo := ⟨(plains 2), TyTup [.v .Tab, .sl .byte], TyTup [.v .int], decTup [.v .Tab, .sl .byte], fun x => (fun (a0 : G.Tab) (a1 : List UInt8) => findSnO a0 a1) x.1 x.2, flatTup [.v .int], [(false, 1)], []⟩
theorem e78 (x : TyTup [.v .Tab, .sl .byte]) : evalF C78 Tryz.f78 (Tryz.f78.body.getD .skip) an78 (plains 2) [] [(false, 1)] [.v .int] (encTup [.v .Tab, .sl .byte] x) = impl_FindSn.raw x.1 x.2 := by kernel_rfl
theorem c78 : Contract Tryz.prog 78 ci78 :=
  evalF_ok (C := C78) (tnOk_of tn_mixed tn_ok _ _) (phi_cons c55 phi_nil) Tryz.func78 (by kernel_rfl : Tryz.f78.body = some (Tryz.f78.body.getD .skip)) (by kernel_rfl) (by kernel_rfl) an78 (plains 2) [] [(false, 1)] [.v .Tab, .sl .byte] [.v .int] (fun x => (fun (a0 : G.Tab) (a1 : List UInt8) => findSnO a0 a1) x.1 x.2) rfl (by kernel_rfl)
    fun x r hb h => (e78 x).trans (impl_FindSn.ok hb h)

def an106 : An := ⟨[], [(0, ⟨[], [(2, 4), (25, 41)], []⟩)], [(4, ⟨[.slot 25 (.v .int)], [(2, 4), (26, 41)], []⟩)], [(1, ⟨[.slot 21 (.v .bool)], [(5, 20)], []⟩), (6, ⟨[.slot 40 (.v .bool)], [(30, 39)], []⟩)], []⟩
noncomputable def C106 : Cx := ⟨Tryz.prog, tnT, fun f => lookC f [(50, ci50), (64, ci64), (78, ci78), (148, ci148)], 42⟩
noncomputable def ci106 : CInfo := ⟨(plains 1), TyTup [.v .Tab], TyTup [.v .bool], decTup [.v .Tab], fun x => (fun (a0 : G.Tab) => tabOkO a0) x, flatTup [.v .bool], [(false, 1)], []⟩
theorem e106 (x : TyTup [.v .Tab]) : evalF C106 Tryz.f106 (Tryz.f106.body.getD .skip) an106 (plains 1) [] [(false, 1)] [.v .bool] (encTup [.v .Tab] x) = impl_TabOk.raw x := by kernel_rfl
theorem c106 : Contract Tryz.prog 106 ci106 :=
  evalF_ok (C := C106) (tnOk_of tn_mixed tn_ok _ _) (phi_cons c50 (phi_cons c64 (phi_cons c78 (phi_cons c148 phi_nil)))) Tryz.func106 (by kernel_rfl : Tryz.f106.body = some (Tryz.f106.body.getD .skip)) (by kernel_rfl) (by kernel_rfl) an106 (plains 1) [] [(false, 1)] [.v .Tab] [.v .bool] (fun x => (fun (a0 : G.Tab) => tabOkO a0) x) rfl (by kernel_rfl)
    fun x r hb h => (e106 x).trans (impl_TabOk.ok hb h)

def an129 : An := ⟨[], [(0, ⟨[], [(4, 6), (9, 19)], []⟩)], [(2, ⟨[.slot 9 (.v .int)], [(4, 6), (10, 19)], []⟩)], [], []⟩
noncomputable def C129 : Cx := ⟨Tryz.prog, tnT, fun f => lookC f [], 20⟩
noncomputable def ci129 : CInfo := ⟨(plains 2), TyTup [.sl .Credit, .v .Addr], TyTup [.v .int], decTup [.sl .Credit, .v .Addr], fun x => some ((fun (a0 : List G.Credit) (a1 : G.Addr) => cAt a0 a1) x.1 x.2), flatTup [.v .int], [(false, 1)], []⟩
theorem e129 (x : TyTup [.sl .Credit, .v .Addr]) : evalF C129 Tryz.f129 (Tryz.f129.body.getD .skip) an129 (plains 2) [] [(false, 1)] [.v .int] (encTup [.sl .Credit, .v .Addr] x) = impl_creditAt.raw x.1 x.2 := by kernel_rfl
theorem c129 : Contract Tryz.prog 129 ci129 :=
  evalF_ok (C := C129) (tnOk_of tn_mixed tn_ok _ _) phi_nil Tryz.func129 (by kernel_rfl : Tryz.f129.body = some (Tryz.f129.body.getD .skip)) (by kernel_rfl) (by kernel_rfl) an129 (plains 2) [] [(false, 1)] [.sl .Credit, .v .Addr] [.v .int] (fun x => some ((fun (a0 : List G.Credit) (a1 : G.Addr) => cAt a0 a1) x.1 x.2)) rfl (by kernel_rfl)
    fun x r hb h => (e129 x).trans ((impl_creditAt.ok hb).trans h)

def an107 : An := ⟨[], [(0, ⟨[], [(2, 4), (10, 42)], []⟩)], [(4, ⟨[.slot 10 (.v .int)], [(2, 4), (11, 42)], []⟩)], [(6, ⟨[.slot 41 (.v .bool)], [(15, 40)], []⟩)], []⟩
noncomputable def C107 : Cx := ⟨Tryz.prog, tnT, fun f => lookC f [(50, ci50), (73, ci73), (129, ci129)], 43⟩
noncomputable def ci107 : CInfo := ⟨(plains 1), TyTup [.sl .Credit], TyTup [.v .bool], decTup [.sl .Credit], fun x => some ((fun (a0 : List G.Credit) => creditsOk a0) x), flatTup [.v .bool], [(false, 1)], []⟩
theorem e107 (x : TyTup [.sl .Credit]) : evalF C107 Tryz.f107 (Tryz.f107.body.getD .skip) an107 (plains 1) [] [(false, 1)] [.v .bool] (encTup [.sl .Credit] x) = impl_CreditsOk.raw x := by kernel_rfl
theorem c107 : Contract Tryz.prog 107 ci107 :=
  evalF_ok (C := C107) (tnOk_of tn_mixed tn_ok _ _) (phi_cons c50 (phi_cons c73 (phi_cons c129 phi_nil))) Tryz.func107 (by kernel_rfl : Tryz.f107.body = some (Tryz.f107.body.getD .skip)) (by kernel_rfl) (by kernel_rfl) an107 (plains 1) [] [(false, 1)] [.sl .Credit] [.v .bool] (fun x => some ((fun (a0 : List G.Credit) => creditsOk a0) x)) rfl (by kernel_rfl)
    fun x r hb h => (e107 x).trans ((impl_CreditsOk.ok hb).trans h)

def an108 : An := ⟨[], [], [], [], []⟩
noncomputable def C108 : Cx := ⟨Tryz.prog, tnT, fun f => lookC f [(50, ci50)], 6⟩
noncomputable def ci108 : CInfo := ⟨(plains 1), TyTup [.sl .byte], TyTup [.v .bool], decTup [.sl .byte], fun x => some ((fun (a0 : List UInt8) => pskOk a0) x), flatTup [.v .bool], [(false, 1)], []⟩
theorem e108 (x : TyTup [.sl .byte]) : evalF C108 Tryz.f108 (Tryz.f108.body.getD .skip) an108 (plains 1) [] [(false, 1)] [.v .bool] (encTup [.sl .byte] x) = impl_PskOk.raw x := by kernel_rfl
theorem c108 : Contract Tryz.prog 108 ci108 :=
  evalF_ok (C := C108) (tnOk_of tn_mixed tn_ok _ _) (phi_cons c50 phi_nil) Tryz.func108 (by kernel_rfl : Tryz.f108.body = some (Tryz.f108.body.getD .skip)) (by kernel_rfl) (by kernel_rfl) an108 (plains 1) [] [(false, 1)] [.sl .byte] [.v .bool] (fun x => some ((fun (a0 : List UInt8) => pskOk a0) x)) rfl (by kernel_rfl)
    fun x r hb h => (e108 x).trans ((impl_PskOk.ok hb).trans h)

def an51 : An := ⟨[], [(0, ⟨[], [(2, 2), (4, 4), (39, 46)], []⟩), (2, ⟨[], [(2, 2), (6, 6), (51, 61)], []⟩)], [(4, ⟨[.slot 39 (.v .int)], [(2, 2), (4, 4), (40, 46)], []⟩), (10, ⟨[.slot 51 (.v .int)], [(2, 2), (6, 6), (52, 61)], []⟩)], [(1, ⟨[.slot 35 (.v .bool)], [(7, 34)], []⟩)], []⟩
noncomputable def C51 : Cx := ⟨Tryz.prog, tnT, fun f => lookC f [(50, ci50), (52, ci52), (105, ci105), (106, ci106), (107, ci107), (108, ci108)], 62⟩
noncomputable def ci51 : CInfo := ⟨(plains 1), TyTup [.v .Server], TyTup [.v .bool], decTup [.v .Server], fun x => (fun (a0 : G.Server) => serverOkO a0) x, flatTup [.v .bool], [(false, 1)], []⟩
theorem e51 (x : TyTup [.v .Server]) : evalF C51 Tryz.f51 (Tryz.f51.body.getD .skip) an51 (plains 1) [] [(false, 1)] [.v .bool] (encTup [.v .Server] x) = impl_ServerOk.raw x := by kernel_rfl
theorem c51 : Contract Tryz.prog 51 ci51 :=
  evalF_ok (C := C51) (tnOk_of tn_mixed tn_ok _ _) (phi_cons c50 (phi_cons c52 (phi_cons c105 (phi_cons c106 (phi_cons c107 (phi_cons c108 phi_nil)))))) Tryz.func51 (by kernel_rfl : Tryz.f51.body = some (Tryz.f51.body.getD .skip)) (by kernel_rfl) (by kernel_rfl) an51 (plains 1) [] [(false, 1)] [.v .Server] [.v .bool] (fun x => (fun (a0 : G.Server) => serverOkO a0) x) rfl (by kernel_rfl)
    fun x r hb h => (e51 x).trans (impl_ServerOk.ok hb h)

def an109 : An := ⟨[], [], [], [(1, ⟨[.slot 2 (.v .bool)], [(3, 16)], []⟩)], []⟩
noncomputable def C109 : Cx := ⟨Tryz.prog, tnT, fun f => lookC f [(73, ci73)], 17⟩
noncomputable def ci109 : CInfo := ⟨(plains 1), TyTup [.v .Wire], TyTup [.v .bool], decTup [.v .Wire], fun x => some ((fun (a0 : G.Wire) => wireOk a0) x), flatTup [.v .bool], [(false, 1)], []⟩
theorem e109 (x : TyTup [.v .Wire]) : evalF C109 Tryz.f109 (Tryz.f109.body.getD .skip) an109 (plains 1) [] [(false, 1)] [.v .bool] (encTup [.v .Wire] x) = impl_WireOk.raw x := by kernel_rfl
theorem c109 : Contract Tryz.prog 109 ci109 :=
  evalF_ok (C := C109) (tnOk_of tn_mixed tn_ok _ _) (phi_cons c73 phi_nil) Tryz.func109 (by kernel_rfl : Tryz.f109.body = some (Tryz.f109.body.getD .skip)) (by kernel_rfl) (by kernel_rfl) an109 (plains 1) [] [(false, 1)] [.v .Wire] [.v .bool] (fun x => some ((fun (a0 : G.Wire) => wireOk a0) x)) rfl (by kernel_rfl)
    fun x r hb h => (e109 x).trans ((impl_WireOk.ok hb).trans h)

def an53 : An := ⟨[], [(0, ⟨[], [(2, 2), (4, 4), (7, 14)], []⟩)], [(2, ⟨[.slot 7 (.v .int)], [(2, 2), (4, 4), (8, 14)], []⟩)], [], []⟩
noncomputable def C53 : Cx := ⟨Tryz.prog, tnT, fun f => lookC f [(109, ci109)], 18⟩
noncomputable def ci53 : CInfo := ⟨(plains 1), TyTup [.sl .Wire], TyTup [.v .bool], decTup [.sl .Wire], fun x => some ((fun (a0 : List G.Wire) => wiresOk a0) x), flatTup [.v .bool], [(false, 1)], []⟩
theorem e53 (x : TyTup [.sl .Wire]) : evalF C53 Tryz.f53 (Tryz.f53.body.getD .skip) an53 (plains 1) [] [(false, 1)] [.v .bool] (encTup [.sl .Wire] x) = impl_WiresOk.raw x := by kernel_rfl
theorem c53 : Contract Tryz.prog 53 ci53 :=
  evalF_ok (C := C53) (tnOk_of tn_mixed tn_ok _ _) (phi_cons c109 phi_nil) Tryz.func53 (by kernel_rfl : Tryz.f53.body = some (Tryz.f53.body.getD .skip)) (by kernel_rfl) (by kernel_rfl) an53 (plains 1) [] [(false, 1)] [.sl .Wire] [.v .bool] (fun x => some ((fun (a0 : List G.Wire) => wiresOk a0) x)) rfl (by kernel_rfl)
    fun x r hb h => (e53 x).trans ((impl_WiresOk.ok hb).trans h)

def an110 : An := ⟨[], [], [], [(1, ⟨[.slot 4 (.v .bool)], [(5, 79)], []⟩)], []⟩
noncomputable def C110 : Cx := ⟨Tryz.prog, tnT, fun f => lookC f [(55, ci55)], 80⟩
noncomputable def ci110 : CInfo := ⟨(plains 2), TyTup [.v .Frame, .v .Frame], TyTup [.v .bool], decTup [.v .Frame, .v .Frame], fun x => (fun (a0 : G.Frame) (a1 : G.Frame) => sameFrameO a0 a1) x.1 x.2, flatTup [.v .bool], [(false, 1)], []⟩
theorem e110 (x : TyTup [.v .Frame, .v .Frame]) : evalF C110 Tryz.f110 (Tryz.f110.body.getD .skip) an110 (plains 2) [] [(false, 1)] [.v .bool] (encTup [.v .Frame, .v .Frame] x) = impl_sameFrame.raw x.1 x.2 := by kernel_rfl
theorem c110 : Contract Tryz.prog 110 ci110 :=
  evalF_ok (C := C110) (tnOk_of tn_mixed tn_ok _ _) (phi_cons c55 phi_nil) Tryz.func110 (by kernel_rfl : Tryz.f110.body = some (Tryz.f110.body.getD .skip)) (by kernel_rfl) (by kernel_rfl) an110 (plains 2) [] [(false, 1)] [.v .Frame, .v .Frame] [.v .bool] (fun x => (fun (a0 : G.Frame) (a1 : G.Frame) => sameFrameO a0 a1) x.1 x.2) rfl (by kernel_rfl)
    fun x r hb h => (e110 x).trans (impl_sameFrame.ok hb h)

def an113 : An := ⟨[], [], [], [(3, ⟨[.slot 3 (.v .bool)], [(10, 27)], []⟩), (4, ⟨[.slot 2 (.v .bool)], [(28, 38)], []⟩)], []⟩
noncomputable def C113 : Cx := ⟨Tryz.prog, tnT, fun f => lookC f [(50, ci50)], 39⟩
noncomputable def ci113 : CInfo := ⟨(plains 1), TyTup [.v .Timer], TyTup [.v .bool], decTup [.v .Timer], fun x => some ((fun (a0 : G.Timer) => timerOk a0) x), flatTup [.v .bool], [(false, 1)], []⟩
theorem e113 (x : TyTup [.v .Timer]) : evalF C113 Tryz.f113 (Tryz.f113.body.getD .skip) an113 (plains 1) [] [(false, 1)] [.v .bool] (encTup [.v .Timer] x) = impl_TimerOk.raw x := by kernel_rfl
theorem c113 : Contract Tryz.prog 113 ci113 :=
  evalF_ok (C := C113) (tnOk_of tn_mixed tn_ok _ _) (phi_cons c50 phi_nil) Tryz.func113 (by kernel_rfl : Tryz.f113.body = some (Tryz.f113.body.getD .skip)) (by kernel_rfl) (by kernel_rfl) an113 (plains 1) [] [(false, 1)] [.v .Timer] [.v .bool] (fun x => some ((fun (a0 : G.Timer) => timerOk a0) x)) rfl (by kernel_rfl)
    fun x r hb h => (e113 x).trans ((impl_TimerOk.ok hb).trans h)

def an173 : An := ⟨[], [], [], [], []⟩
noncomputable def C173 : Cx := ⟨Tryz.prog, tnT, fun f => lookC f [(50, ci50)], 5⟩
noncomputable def ci173 : CInfo := ⟨(plains 1), TyTup [.v .int], TyTup [.v .bool], decTup [.v .int], fun x => some ((fun (a0 : Int) => isSealed a0) x), flatTup [.v .bool], [(false, 1)], []⟩
theorem e173 (x : TyTup [.v .int]) : evalF C173 Tryz.f173 (Tryz.f173.body.getD .skip) an173 (plains 1) [] [(false, 1)] [.v .bool] (encTup [.v .int] x) = impl_Sealed.raw x := by kernel_rfl
theorem c173 : Contract Tryz.prog 173 ci173 :=
  evalF_ok (C := C173) (tnOk_of tn_mixed tn_ok _ _) (phi_cons c50 phi_nil) Tryz.func173 (by kernel_rfl : Tryz.f173.body = some (Tryz.f173.body.getD .skip)) (by kernel_rfl) (by kernel_rfl) an173 (plains 1) [] [(false, 1)] [.v .int] [.v .bool] (fun x => some ((fun (a0 : Int) => isSealed a0) x)) rfl (by kernel_rfl)
    fun x r hb h => (e173 x).trans ((impl_Sealed.ok hb).trans h)

def an174 : An := ⟨[(655366, ⟨[.slot 10 (.v .bool)], [(12, 12)], []⟩)], [], [], [], []⟩
noncomputable def C174 : Cx := ⟨Tryz.prog, tnT, fun f => lookC f [], 17⟩
noncomputable def ci174 : CInfo := ⟨(plains 2), TyTup [.v .int, .v .int], TyTup [.v .bool], decTup [.v .int, .v .int], fun x => some ((fun (a0 : Int) (a1 : Int) => bodyOk a0 a1) x.1 x.2), flatTup [.v .bool], [(false, 1)], []⟩
theorem e174 (x : TyTup [.v .int, .v .int]) : evalF C174 Tryz.f174 (Tryz.f174.body.getD .skip) an174 (plains 2) [] [(false, 1)] [.v .bool] (encTup [.v .int, .v .int] x) = impl_bodyOk.raw x.1 x.2 := by kernel_rfl
theorem c174 : Contract Tryz.prog 174 ci174 :=
  evalF_ok (C := C174) (tnOk_of tn_mixed tn_ok _ _) phi_nil Tryz.func174 (by kernel_rfl : Tryz.f174.body = some (Tryz.f174.body.getD .skip)) (by kernel_rfl) (by kernel_rfl) an174 (plains 2) [] [(false, 1)] [.v .int, .v .int] [.v .bool] (fun x => some ((fun (a0 : Int) (a1 : Int) => bodyOk a0 a1) x.1 x.2)) rfl (by kernel_rfl)
    fun x r hb h => (e174 x).trans ((impl_bodyOk.ok hb).trans h)

def an150 : An := ⟨[(524293, ⟨[.slot 4 (.v .bool), .box 3 .Frame []], [(12, 158)], []⟩), (1703944, ⟨[.slot 4 (.v .bool), .box 3 .Frame []], [(30, 158)], []⟩), (3997707, ⟨[.slot 4 (.v .bool), .box 3 .Frame []], [(65, 158)], []⟩), (7405582, ⟨[.slot 4 (.v .bool), .box 3 .Frame [2, 5, 6]], [(117, 158)], []⟩)], [], [], [(5, ⟨[.slot 4 (.v .bool)], [(18, 25)], []⟩), (8, ⟨[.slot 4 (.v .bool)], [(42, 60)], []⟩), (11, ⟨[.slot 4 (.v .bool)], [(83, 112)], []⟩), (14, ⟨[.slot 4 (.v .bool)], [(132, 158)], []⟩), (15, ⟨[.slot 2 (.v .bool)], [(159, 164)], []⟩)], []⟩
noncomputable def C150 : Cx := ⟨Tryz.prog, tnT, fun f => lookC f [(50, ci50), (110, ci110), (112, ci112), (173, ci173), (174, ci174)], 165⟩
noncomputable def ci150 : CInfo := ⟨(plains 1), TyTup [.v .Frame], TyTup [.v .bool], decTup [.v .Frame], fun x => (fun (a0 : G.Frame) => frameOkO a0) x, flatTup [.v .bool], [(false, 1)], []⟩
theorem e150 (x : TyTup [.v .Frame]) : evalF C150 Tryz.f150 (Tryz.f150.body.getD .skip) an150 (plains 1) [] [(false, 1)] [.v .bool] (encTup [.v .Frame] x) = impl_FrameOk.raw x := by kernel_rfl
theorem c150 : Contract Tryz.prog 150 ci150 :=
  evalF_ok (C := C150) (tnOk_of tn_mixed tn_ok _ _) (phi_cons c50 (phi_cons c110 (phi_cons c112 (phi_cons c173 (phi_cons c174 phi_nil))))) Tryz.func150 (by kernel_rfl : Tryz.f150.body = some (Tryz.f150.body.getD .skip)) (by kernel_rfl) (by kernel_rfl) an150 (plains 1) [] [(false, 1)] [.v .Frame] [.v .bool] (fun x => (fun (a0 : G.Frame) => frameOkO a0) x) rfl (by kernel_rfl)
    fun x r hb h => (e150 x).trans (impl_FrameOk.ok hb h)

def an114 : An := ⟨[], [], [], [(1, ⟨[.slot 35 (.v .bool)], [(3, 34)], []⟩), (3, ⟨[.slot 2 (.v .bool)], [(36, 73)], []⟩)], []⟩
noncomputable def C114 : Cx := ⟨Tryz.prog, tnT, fun f => lookC f [(55, ci55), (112, ci112), (115, ci115), (150, ci150)], 74⟩
noncomputable def ci114 : CInfo := ⟨(plains 1), TyTup [.v .Client], TyTup [.v .bool], decTup [.v .Client], fun x => (fun (a0 : G.Client) => finishOkO a0) x, flatTup [.v .bool], [(false, 1)], []⟩
theorem e114 (x : TyTup [.v .Client]) : evalF C114 Tryz.f114 (Tryz.f114.body.getD .skip) an114 (plains 1) [] [(false, 1)] [.v .bool] (encTup [.v .Client] x) = impl_finishOk.raw x := by kernel_rfl
theorem c114 : Contract Tryz.prog 114 ci114 :=
  evalF_ok (C := C114) (tnOk_of tn_mixed tn_ok _ _) (phi_cons c55 (phi_cons c112 (phi_cons c115 (phi_cons c150 phi_nil)))) Tryz.func114 (by kernel_rfl : Tryz.f114.body = some (Tryz.f114.body.getD .skip)) (by kernel_rfl) (by kernel_rfl) an114 (plains 1) [] [(false, 1)] [.v .Client] [.v .bool] (fun x => (fun (a0 : G.Client) => finishOkO a0) x) rfl (by kernel_rfl)
    fun x r hb h => (e114 x).trans (impl_finishOk.ok hb h)

def an54 : An := ⟨[], [], [], [(1, ⟨[.slot 20 (.v .bool)], [(5, 19)], []⟩), (7, ⟨[.slot 2 (.v .bool)], [(33, 58)], []⟩), (9, ⟨[.slot 2 (.v .bool)], [(61, 92)], []⟩), (11, ⟨[.slot 2 (.v .bool)], [(95, 117)], []⟩), (13, ⟨[.slot 2 (.v .bool)], [(120, 160)], []⟩)], []⟩
noncomputable def C54 : Cx := ⟨Tryz.prog, tnT, fun f => lookC f [(50, ci50), (73, ci73), (108, ci108), (110, ci110), (111, ci111), (112, ci112), (113, ci113), (114, ci114), (115, ci115)], 161⟩
noncomputable def ci54 : CInfo := ⟨(plains 1), TyTup [.v .Client], TyTup [.v .bool], decTup [.v .Client], fun x => (fun (a0 : G.Client) => clientOkO a0) x, flatTup [.v .bool], [(false, 1)], []⟩
theorem e54 (x : TyTup [.v .Client]) : evalF C54 Tryz.f54 (Tryz.f54.body.getD .skip) an54 (plains 1) [] [(false, 1)] [.v .bool] (encTup [.v .Client] x) = impl_ClientOk.raw x := by kernel_rfl
theorem c54 : Contract Tryz.prog 54 ci54 :=
  evalF_ok (C := C54) (tnOk_of tn_mixed tn_ok _ _) (phi_cons c50 (phi_cons c73 (phi_cons c108 (phi_cons c110 (phi_cons c111 (phi_cons c112 (phi_cons c113 (phi_cons c114 (phi_cons c115 phi_nil))))))))) Tryz.func54 (by kernel_rfl : Tryz.f54.body = some (Tryz.f54.body.getD .skip)) (by kernel_rfl) (by kernel_rfl) an54 (plains 1) [] [(false, 1)] [.v .Client] [.v .bool] (fun x => (fun (a0 : G.Client) => clientOkO a0) x) rfl (by kernel_rfl)
    fun x r hb h => (e54 x).trans (impl_ClientOk.ok hb h)

def an116 : An := ⟨[], [], [], [(1, ⟨[.slot 4 (.v .bool)], [(5, 13)], []⟩)], []⟩
noncomputable def C116 : Cx := ⟨Tryz.prog, tnT, fun f => lookC f [], 14⟩
noncomputable def ci116 : CInfo := ⟨(plains 2), TyTup [.sl .byte, .v .int], TyTup [.v .bool], decTup [.sl .byte, .v .int], fun x => some ((fun (a0 : List UInt8) (a1 : Int) => emptyOr a0 a1) x.1 x.2), flatTup [.v .bool], [(false, 1)], []⟩
theorem e116 (x : TyTup [.sl .byte, .v .int]) : evalF C116 Tryz.f116 (Tryz.f116.body.getD .skip) an116 (plains 2) [] [(false, 1)] [.v .bool] (encTup [.sl .byte, .v .int] x) = impl_emptyOr.raw x.1 x.2 := by kernel_rfl
theorem c116 : Contract Tryz.prog 116 ci116 :=
  evalF_ok (C := C116) (tnOk_of tn_mixed tn_ok _ _) phi_nil Tryz.func116 (by kernel_rfl : Tryz.f116.body = some (Tryz.f116.body.getD .skip)) (by kernel_rfl) (by kernel_rfl) an116 (plains 2) [] [(false, 1)] [.sl .byte, .v .int] [.v .bool] (fun x => some ((fun (a0 : List UInt8) (a1 : Int) => emptyOr a0 a1) x.1 x.2)) rfl (by kernel_rfl)
    fun x r hb h => (e116 x).trans ((impl_emptyOr.ok hb).trans h)

def an56 : An := ⟨[], [], [], [(1, ⟨[.slot 2 (.v .bool)], [(3, 56)], []⟩)], []⟩
noncomputable def C56 : Cx := ⟨Tryz.prog, tnT, fun f => lookC f [(50, ci50), (73, ci73), (116, ci116)], 57⟩
noncomputable def ci56 : CInfo := ⟨(plains 1), TyTup [.v .Note], TyTup [.v .bool], decTup [.v .Note], fun x => some ((fun (a0 : G.Note) => noteOk a0) x), flatTup [.v .bool], [(false, 1)], []⟩
theorem e56 (x : TyTup [.v .Note]) : evalF C56 Tryz.f56 (Tryz.f56.body.getD .skip) an56 (plains 1) [] [(false, 1)] [.v .bool] (encTup [.v .Note] x) = impl_NoteOk.raw x := by kernel_rfl
theorem c56 : Contract Tryz.prog 56 ci56 :=
  evalF_ok (C := C56) (tnOk_of tn_mixed tn_ok _ _) (phi_cons c50 (phi_cons c73 (phi_cons c116 phi_nil))) Tryz.func56 (by kernel_rfl : Tryz.f56.body = some (Tryz.f56.body.getD .skip)) (by kernel_rfl) (by kernel_rfl) an56 (plains 1) [] [(false, 1)] [.v .Note] [.v .bool] (fun x => some ((fun (a0 : G.Note) => noteOk a0) x)) rfl (by kernel_rfl)
    fun x r hb h => (e56 x).trans ((impl_NoteOk.ok hb).trans h)

def an14 : An := ⟨[], [(0, ⟨[], [(2, 4), (51, 78)], []⟩), (2, ⟨[], [(2, 2), (6, 6), (82, 89)], []⟩), (4, ⟨[], [(2, 2), (8, 8), (93, 100)], []⟩)], [(6, ⟨[.slot 51 (.v .int)], [(2, 4), (52, 78)], []⟩), (12, ⟨[.slot 82 (.v .int)], [(2, 2), (6, 6), (83, 89)], []⟩), (18, ⟨[.slot 93 (.v .int)], [(2, 2), (8, 8), (94, 100)], []⟩)], [(1, ⟨[.slot 31 (.v .bool)], [(9, 30)], []⟩), (3, ⟨[.slot 47 (.v .bool)], [(32, 46)], []⟩), (8, ⟨[.slot 77 (.v .bool)], [(56, 76)], []⟩)], []⟩
noncomputable def C14 : Cx := ⟨Tryz.prog, tnT, fun f => lookC f [(50, ci50), (51, ci51), (52, ci52), (53, ci53), (54, ci54), (55, ci55), (56, ci56)], 101⟩
noncomputable def ci14 : CInfo := ⟨(plains 1), TyTup [.v .World], TyTup [.v .bool], decTup [.v .World], fun x => (fun (a0 : G.World) => worldOkO a0) x, flatTup [.v .bool], [(false, 1)], []⟩
theorem e14 (x : TyTup [.v .World]) : evalF C14 Tryz.f14 (Tryz.f14.body.getD .skip) an14 (plains 1) [] [(false, 1)] [.v .bool] (encTup [.v .World] x) = impl_WorldOk.raw x := by kernel_rfl
theorem c14 : Contract Tryz.prog 14 ci14 :=
  evalF_ok (C := C14) (tnOk_of tn_mixed tn_ok _ _) (phi_cons c50 (phi_cons c51 (phi_cons c52 (phi_cons c53 (phi_cons c54 (phi_cons c55 (phi_cons c56 phi_nil))))))) Tryz.func14 (by kernel_rfl : Tryz.f14.body = some (Tryz.f14.body.getD .skip)) (by kernel_rfl) (by kernel_rfl) an14 (plains 1) [] [(false, 1)] [.v .World] [.v .bool] (fun x => (fun (a0 : G.World) => worldOkO a0) x) rfl (by kernel_rfl)
    fun x r hb h => (e14 x).trans (impl_WorldOk.ok hb h)

def an66 : An := ⟨[], [], [], [(3, ⟨[.slot 38 (.v .bool)], [(22, 37)], []⟩)], []⟩
noncomputable def C66 : Cx := ⟨Tryz.prog, tnT, fun f => lookC f [(78, ci78)], 49⟩
noncomputable def ci66 : CInfo := ⟨(plains 2), TyTup [.v .World, .v .int], TyTup [.v .Client, .v .Sess, .v .bool], decTup [.v .World, .v .int], fun x => (fun (a0 : G.World) (a1 : Int) => sessionOfO a0 a1) x.1 x.2, flatTup [.v .Client, .v .Sess, .v .bool], [(true, 41), (true, 24), (false, 1)], []⟩
theorem e66 (x : TyTup [.v .World, .v .int]) : evalF C66 Tryz.f66 (Tryz.f66.body.getD .skip) an66 (plains 2) [] [(true, 41), (true, 24), (false, 1)] [.v .Client, .v .Sess, .v .bool] (encTup [.v .World, .v .int] x) = impl_sessionOf.raw x.1 x.2 := by kernel_rfl
theorem c66 : Contract Tryz.prog 66 ci66 :=
  evalF_ok (C := C66) (tnOk_of tn_mixed tn_ok _ _) (phi_cons c78 phi_nil) Tryz.func66 (by kernel_rfl : Tryz.f66.body = some (Tryz.f66.body.getD .skip)) (by kernel_rfl) (by kernel_rfl) an66 (plains 2) [] [(true, 41), (true, 24), (false, 1)] [.v .World, .v .int] [.v .Client, .v .Sess, .v .bool] (fun x => (fun (a0 : G.World) (a1 : Int) => sessionOfO a0 a1) x.1 x.2) rfl (by kernel_rfl)
    fun x r hb h => (e66 x).trans (impl_sessionOf.ok hb h)

def an21 : An := ⟨[], [], [], [(1, ⟨[.slot 18 (.v .bool)], [(11, 17)], []⟩), (9, ⟨[.slot 51 (.v .bool)], [(40, 50)], []⟩), (10, ⟨[.slot 4 (.v .bool)], [(52, 65)], []⟩), (12, ⟨[.slot 4 (.v .bool)], [(69, 116)], []⟩)], []⟩
noncomputable def C21 : Cx := ⟨Tryz.prog, tnT, fun f => lookC f [(14, ci14), (50, ci50), (55, ci55), (66, ci66)], 117⟩
noncomputable def ci21 : CInfo := ⟨(plains 2), TyTup [.v .World, .v .int], TyTup [.v .bool], decTup [.v .World, .v .int], fun x => (fun (a0 : G.World) (a1 : Int) => epochsFitO a0 a1) x.1 x.2, flatTup [.v .bool], [(false, 1)], []⟩
theorem e21 (x : TyTup [.v .World, .v .int]) : evalF C21 Tryz.f21 (Tryz.f21.body.getD .skip) an21 (plains 2) [] [(false, 1)] [.v .bool] (encTup [.v .World, .v .int] x) = impl_EpochsFit.raw x.1 x.2 := by kernel_rfl
theorem c21 : Contract Tryz.prog 21 ci21 :=
  evalF_ok (C := C21) (tnOk_of tn_mixed tn_ok _ _) (phi_cons c14 (phi_cons c50 (phi_cons c55 (phi_cons c66 phi_nil)))) Tryz.func21 (by kernel_rfl : Tryz.f21.body = some (Tryz.f21.body.getD .skip)) (by kernel_rfl) (by kernel_rfl) an21 (plains 2) [] [(false, 1)] [.v .World, .v .int] [.v .bool] (fun x => (fun (a0 : G.World) (a1 : Int) => epochsFitO a0 a1) x.1 x.2) rfl (by kernel_rfl)
    fun x r hb h => (e21 x).trans (impl_EpochsFit.ok hb h)

def an23 : An := ⟨[(3670025, ⟨[.slot 8 (.v .int)], [(57, 62)], []⟩)], [], [], [(1, ⟨[.slot 17 (.v .bool)], [(9, 16)], []⟩), (4, ⟨[.slot 44 (.v .bool)], [(25, 43)], []⟩), (9, ⟨[.slot 71 (.v .bool)], [(63, 70)], []⟩), (11, ⟨[.slot 4 (.v .bool)], [(72, 84)], []⟩)], []⟩
noncomputable def C23 : Cx := ⟨Tryz.prog, tnT, fun f => lookC f [(21, ci21), (50, ci50), (66, ci66)], 85⟩
noncomputable def ci23 : CInfo := ⟨(plains 2), TyTup [.v .World, .v .int], TyTup [.v .bool], decTup [.v .World, .v .int], fun x => (fun (a0 : G.World) (a1 : Int) => linkedO a0 a1) x.1 x.2, flatTup [.v .bool], [(false, 1)], []⟩
theorem e23 (x : TyTup [.v .World, .v .int]) : evalF C23 Tryz.f23 (Tryz.f23.body.getD .skip) an23 (plains 2) [] [(false, 1)] [.v .bool] (encTup [.v .World, .v .int] x) = impl_Linked.raw x.1 x.2 := by kernel_rfl
theorem c23 : Contract Tryz.prog 23 ci23 :=
  evalF_ok (C := C23) (tnOk_of tn_mixed tn_ok _ _) (phi_cons c21 (phi_cons c50 (phi_cons c66 phi_nil))) Tryz.func23 (by kernel_rfl : Tryz.f23.body = some (Tryz.f23.body.getD .skip)) (by kernel_rfl) (by kernel_rfl) an23 (plains 2) [] [(false, 1)] [.v .World, .v .int] [.v .bool] (fun x => (fun (a0 : G.World) (a1 : Int) => linkedO a0 a1) x.1 x.2) rfl (by kernel_rfl)
    fun x r hb h => (e23 x).trans (impl_Linked.ok hb h)

def an128 : An := ⟨[], [], [], [], []⟩
noncomputable def C128 : Cx := ⟨Tryz.prog, tnT, fun f => lookC f [(50, ci50)], 12⟩
noncomputable def ci128 : CInfo := ⟨(plains 1), TyTup [.v .int], TyTup [.v .Addr], decTup [.v .int], fun x => some ((fun (a0 : Int) => near a0) x), flatTup [.v .Addr], [(true, 2)], []⟩
theorem e128 (x : TyTup [.v .int]) : evalF C128 Tryz.f128 (Tryz.f128.body.getD .skip) an128 (plains 1) [] [(true, 2)] [.v .Addr] (encTup [.v .int] x) = impl_Near.raw x := by kernel_rfl
theorem c128 : Contract Tryz.prog 128 ci128 :=
  evalF_ok (C := C128) (tnOk_of tn_mixed tn_ok _ _) (phi_cons c50 phi_nil) Tryz.func128 (by kernel_rfl : Tryz.f128.body = some (Tryz.f128.body.getD .skip)) (by kernel_rfl) (by kernel_rfl) an128 (plains 1) [] [(true, 2)] [.v .int] [.v .Addr] (fun x => some ((fun (a0 : Int) => near a0) x)) rfl (by kernel_rfl)
    fun x r hb h => (e128 x).trans ((impl_Near.ok hb).trans h)

def an74 : An := ⟨[], [], [], [], []⟩
noncomputable def C74 : Cx := ⟨Tryz.prog, tnT, fun f => lookC f [(128, ci128)], 2⟩
noncomputable def ci74 : CInfo := ⟨(plains 0), TyTup [], TyTup [.v .Addr], decTup [], fun x => some (hub), flatTup [.v .Addr], [(true, 2)], []⟩
theorem e74 (x : TyTup []) : evalF C74 Tryz.f74 (Tryz.f74.body.getD .skip) an74 (plains 0) [] [(true, 2)] [.v .Addr] (encTup [] x) = impl_Hub.raw := by kernel_rfl
theorem c74 : Contract Tryz.prog 74 ci74 :=
  evalF_ok (C := C74) (tnOk_of tn_mixed tn_ok _ _) (phi_cons c128 phi_nil) Tryz.func74 (by kernel_rfl : Tryz.f74.body = some (Tryz.f74.body.getD .skip)) (by kernel_rfl) (by kernel_rfl) an74 (plains 0) [] [(true, 2)] [] [.v .Addr] (fun x => some (hub)) rfl (by kernel_rfl)
    fun x r hb h => (e74 x).trans ((impl_Hub.ok hb).trans h)

def an75 : An := ⟨[], [(0, ⟨[], [(4, 6), (10, 20)], []⟩)], [(2, ⟨[.slot 10 (.v .int)], [(4, 6), (11, 20)], []⟩)], [], []⟩
noncomputable def C75 : Cx := ⟨Tryz.prog, tnT, fun f => lookC f [], 21⟩
noncomputable def ci75 : CInfo := ⟨(plains 2), TyTup [.v .Paths, .v .Addr], TyTup [.v .int], decTup [.v .Paths, .v .Addr], fun x => (fun (a0 : G.Paths) (a1 : G.Addr) => candAtO a0 a1) x.1 x.2, flatTup [.v .int], [(false, 1)], []⟩
theorem e75 (x : TyTup [.v .Paths, .v .Addr]) : evalF C75 Tryz.f75 (Tryz.f75.body.getD .skip) an75 (plains 2) [] [(false, 1)] [.v .int] (encTup [.v .Paths, .v .Addr] x) = impl_candAt.raw x.1 x.2 := by kernel_rfl
theorem c75 : Contract Tryz.prog 75 ci75 :=
  evalF_ok (C := C75) (tnOk_of tn_mixed tn_ok _ _) phi_nil Tryz.func75 (by kernel_rfl : Tryz.f75.body = some (Tryz.f75.body.getD .skip)) (by kernel_rfl) (by kernel_rfl) an75 (plains 2) [] [(false, 1)] [.v .Paths, .v .Addr] [.v .int] (fun x => (fun (a0 : G.Paths) (a1 : G.Addr) => candAtO a0 a1) x.1 x.2) rfl (by kernel_rfl)
    fun x r hb h => (e75 x).trans (impl_candAt.ok hb h)

def an76 : An := ⟨[], [], [], [], []⟩
noncomputable def C76 : Cx := ⟨Tryz.prog, tnT, fun f => lookC f [(107, ci107), (129, ci129)], 23⟩
noncomputable def ci76 : CInfo := ⟨(plains 2), TyTup [.sl .Credit, .v .Addr], TyTup [.v .bool], decTup [.sl .Credit, .v .Addr], fun x => some ((fun (a0 : List G.Credit) (a1 : G.Addr) => creditFor a0 a1) x.1 x.2), flatTup [.v .bool], [(false, 1)], []⟩
theorem e76 (x : TyTup [.sl .Credit, .v .Addr]) : evalF C76 Tryz.f76 (Tryz.f76.body.getD .skip) an76 (plains 2) [] [(false, 1)] [.v .bool] (encTup [.sl .Credit, .v .Addr] x) = impl_CreditFor.raw x.1 x.2 := by kernel_rfl
theorem c76 : Contract Tryz.prog 76 ci76 :=
  evalF_ok (C := C76) (tnOk_of tn_mixed tn_ok _ _) (phi_cons c107 (phi_cons c129 phi_nil)) Tryz.func76 (by kernel_rfl : Tryz.f76.body = some (Tryz.f76.body.getD .skip)) (by kernel_rfl) (by kernel_rfl) an76 (plains 2) [] [(false, 1)] [.sl .Credit, .v .Addr] [.v .bool] (fun x => some ((fun (a0 : List G.Credit) (a1 : G.Addr) => creditFor a0 a1) x.1 x.2)) rfl (by kernel_rfl)
    fun x r hb h => (e76 x).trans ((impl_CreditFor.ok hb).trans h)

def an28 : An := ⟨[], [], [], [(1, ⟨[.slot 34 (.v .bool)], [(10, 33)], []⟩), (4, ⟨[.slot 60 (.v .bool)], [(42, 59)], []⟩), (6, ⟨[.slot 6 (.v .bool)], [(61, 72)], []⟩)], []⟩
noncomputable def C28 : Cx := ⟨Tryz.prog, tnT, fun f => lookC f [(23, ci23), (66, ci66), (73, ci73), (74, ci74), (75, ci75), (76, ci76)], 73⟩
noncomputable def ci28 : CInfo := ⟨(plains 3), TyTup [.v .World, .v .int, .v .Addr], TyTup [.v .bool], decTup [.v .World, .v .int, .v .Addr], fun x => (fun (a0 : G.World) (a1 : Int) (a2 : G.Addr) => canMoveO a0 a1 a2) x.1 x.2.1 x.2.2, flatTup [.v .bool], [(false, 1)], []⟩
theorem e28 (x : TyTup [.v .World, .v .int, .v .Addr]) : evalF C28 Tryz.f28 (Tryz.f28.body.getD .skip) an28 (plains 3) [] [(false, 1)] [.v .bool] (encTup [.v .World, .v .int, .v .Addr] x) = impl_CanMove.raw x.1 x.2.1 x.2.2 := by kernel_rfl
theorem c28 : Contract Tryz.prog 28 ci28 :=
  evalF_ok (C := C28) (tnOk_of tn_mixed tn_ok _ _) (phi_cons c23 (phi_cons c66 (phi_cons c73 (phi_cons c74 (phi_cons c75 (phi_cons c76 phi_nil)))))) Tryz.func28 (by kernel_rfl : Tryz.f28.body = some (Tryz.f28.body.getD .skip)) (by kernel_rfl) (by kernel_rfl) an28 (plains 3) [] [(false, 1)] [.v .World, .v .int, .v .Addr] [.v .bool] (fun x => (fun (a0 : G.World) (a1 : Int) (a2 : G.Addr) => canMoveO a0 a1 a2) x.1 x.2.1 x.2.2) rfl (by kernel_rfl)
    fun x r hb h => (e28 x).trans (impl_CanMove.ok hb h)

def an121 : An := ⟨[], [(0, ⟨[], [(4, 5), (11, 25)], []⟩)], [(4, ⟨[.slot 5 (.v .int)], [(4, 4), (11, 25)], []⟩)], [], []⟩
noncomputable def C121 : Cx := ⟨Tryz.prog, tnT, fun f => lookC f [], 26⟩
noncomputable def ci121 : CInfo := ⟨(plains 2), TyTup [.sl .byte, .sl .byte], TyTup [.v .bool], decTup [.sl .byte, .sl .byte], fun x => some ((fun (a0 : List UInt8) (a1 : List UInt8) => eqq a0 a1) x.1 x.2), flatTup [.v .bool], [(false, 1)], []⟩
theorem e121 (x : TyTup [.sl .byte, .sl .byte]) : evalF C121 Tryz.f121 (Tryz.f121.body.getD .skip) an121 (plains 2) [] [(false, 1)] [.v .bool] (encTup [.sl .byte, .sl .byte] x) = laws_eqByteS.raw x.1 x.2 := by kernel_rfl
theorem c121 : Contract Tryz.prog 121 ci121 :=
  evalF_ok (C := C121) (tnOk_of tn_mixed tn_ok _ _) phi_nil Tryz.func121 (by kernel_rfl : Tryz.f121.body = some (Tryz.f121.body.getD .skip)) (by kernel_rfl) (by kernel_rfl) an121 (plains 2) [] [(false, 1)] [.sl .byte, .sl .byte] [.v .bool] (fun x => some ((fun (a0 : List UInt8) (a1 : List UInt8) => eqq a0 a1) x.1 x.2)) rfl (by kernel_rfl)
    fun x r hb h => (e121 x).trans ((laws_eqByteS.ok hb).trans h)

def an154 : An := ⟨[], [], [], [], []⟩
noncomputable def C154 : Cx := ⟨Tryz.prog, tnT, fun f => lookC f [], 15⟩
noncomputable def ci154 : CInfo := ⟨(plains 2), TyTup [.v .Addr, .v .Addr], TyTup [.v .bool], decTup [.v .Addr, .v .Addr], fun x => some ((fun (a0 : G.Addr) (a1 : G.Addr) => eqq a0 a1) x.1 x.2), flatTup [.v .bool], [(false, 1)], []⟩
theorem e154 (x : TyTup [.v .Addr, .v .Addr]) : evalF C154 Tryz.f154 (Tryz.f154.body.getD .skip) an154 (plains 2) [] [(false, 1)] [.v .bool] (encTup [.v .Addr, .v .Addr] x) = laws_eqAddr.raw x.1 x.2 := by kernel_rfl
theorem c154 : Contract Tryz.prog 154 ci154 :=
  evalF_ok (C := C154) (tnOk_of tn_mixed tn_ok _ _) phi_nil Tryz.func154 (by kernel_rfl : Tryz.f154.body = some (Tryz.f154.body.getD .skip)) (by kernel_rfl) (by kernel_rfl) an154 (plains 2) [] [(false, 1)] [.v .Addr, .v .Addr] [.v .bool] (fun x => some ((fun (a0 : G.Addr) (a1 : G.Addr) => eqq a0 a1) x.1 x.2)) rfl (by kernel_rfl)
    fun x r hb h => (e154 x).trans ((laws_eqAddr.ok hb).trans h)

def an155 : An := ⟨[], [], [], [], []⟩
noncomputable def C155 : Cx := ⟨Tryz.prog, tnT, fun f => lookC f [(121, ci121)], 66⟩
noncomputable def ci155 : CInfo := ⟨(plains 2), TyTup [.v .Frame, .v .Frame], TyTup [.v .bool], decTup [.v .Frame, .v .Frame], fun x => some ((fun (a0 : G.Frame) (a1 : G.Frame) => eqq a0 a1) x.1 x.2), flatTup [.v .bool], [(false, 1)], []⟩
theorem e155 (x : TyTup [.v .Frame, .v .Frame]) : evalF C155 Tryz.f155 (Tryz.f155.body.getD .skip) an155 (plains 2) [] [(false, 1)] [.v .bool] (encTup [.v .Frame, .v .Frame] x) = laws_eqFrame.raw x.1 x.2 := by kernel_rfl
theorem c155 : Contract Tryz.prog 155 ci155 :=
  evalF_ok (C := C155) (tnOk_of tn_mixed tn_ok _ _) (phi_cons c121 phi_nil) Tryz.func155 (by kernel_rfl : Tryz.f155.body = some (Tryz.f155.body.getD .skip)) (by kernel_rfl) (by kernel_rfl) an155 (plains 2) [] [(false, 1)] [.v .Frame, .v .Frame] [.v .bool] (fun x => some ((fun (a0 : G.Frame) (a1 : G.Frame) => eqq a0 a1) x.1 x.2)) rfl (by kernel_rfl)
    fun x r hb h => (e155 x).trans ((laws_eqFrame.ok hb).trans h)

def an207 : An := ⟨[], [(0, ⟨[], [(4, 5), (11, 25)], []⟩)], [(4, ⟨[.slot 5 (.v .int)], [(4, 4), (11, 25)], []⟩)], [], []⟩
noncomputable def C207 : Cx := ⟨Tryz.prog, tnT, fun f => lookC f [], 26⟩
noncomputable def ci207 : CInfo := ⟨(plains 2), TyTup [.sl .int, .sl .int], TyTup [.v .bool], decTup [.sl .int, .sl .int], fun x => some ((fun (a0 : List Int) (a1 : List Int) => eqq a0 a1) x.1 x.2), flatTup [.v .bool], [(false, 1)], []⟩
theorem e207 (x : TyTup [.sl .int, .sl .int]) : evalF C207 Tryz.f207 (Tryz.f207.body.getD .skip) an207 (plains 2) [] [(false, 1)] [.v .bool] (encTup [.sl .int, .sl .int] x) = laws_eqIntS.raw x.1 x.2 := by kernel_rfl
theorem c207 : Contract Tryz.prog 207 ci207 :=
  evalF_ok (C := C207) (tnOk_of tn_mixed tn_ok _ _) phi_nil Tryz.func207 (by kernel_rfl : Tryz.f207.body = some (Tryz.f207.body.getD .skip)) (by kernel_rfl) (by kernel_rfl) an207 (plains 2) [] [(false, 1)] [.sl .int, .sl .int] [.v .bool] (fun x => some ((fun (a0 : List Int) (a1 : List Int) => eqq a0 a1) x.1 x.2)) rfl (by kernel_rfl)
    fun x r hb h => (e207 x).trans ((laws_eqIntS.ok hb).trans h)

def an192 : An := ⟨[], [], [], [], []⟩
noncomputable def C192 : Cx := ⟨Tryz.prog, tnT, fun f => lookC f [(207, ci207)], 16⟩
noncomputable def ci192 : CInfo := ⟨(plains 2), TyTup [.v .Win, .v .Win], TyTup [.v .bool], decTup [.v .Win, .v .Win], fun x => some ((fun (a0 : G.Win) (a1 : G.Win) => eqq a0 a1) x.1 x.2), flatTup [.v .bool], [(false, 1)], []⟩
theorem e192 (x : TyTup [.v .Win, .v .Win]) : evalF C192 Tryz.f192 (Tryz.f192.body.getD .skip) an192 (plains 2) [] [(false, 1)] [.v .bool] (encTup [.v .Win, .v .Win] x) = laws_eqWin.raw x.1 x.2 := by kernel_rfl
theorem c192 : Contract Tryz.prog 192 ci192 :=
  evalF_ok (C := C192) (tnOk_of tn_mixed tn_ok _ _) (phi_cons c207 phi_nil) Tryz.func192 (by kernel_rfl : Tryz.f192.body = some (Tryz.f192.body.getD .skip)) (by kernel_rfl) (by kernel_rfl) an192 (plains 2) [] [(false, 1)] [.v .Win, .v .Win] [.v .bool] (fun x => some ((fun (a0 : G.Win) (a1 : G.Win) => eqq a0 a1) x.1 x.2)) rfl (by kernel_rfl)
    fun x r hb h => (e192 x).trans ((laws_eqWin.ok hb).trans h)

def an176 : An := ⟨[], [], [], [], []⟩
noncomputable def C176 : Cx := ⟨Tryz.prog, tnT, fun f => lookC f [(121, ci121), (192, ci192)], 27⟩
noncomputable def ci176 : CInfo := ⟨(plains 2), TyTup [.v .Ep, .v .Ep], TyTup [.v .bool], decTup [.v .Ep, .v .Ep], fun x => some ((fun (a0 : G.Ep) (a1 : G.Ep) => eqq a0 a1) x.1 x.2), flatTup [.v .bool], [(false, 1)], []⟩
theorem e176 (x : TyTup [.v .Ep, .v .Ep]) : evalF C176 Tryz.f176 (Tryz.f176.body.getD .skip) an176 (plains 2) [] [(false, 1)] [.v .bool] (encTup [.v .Ep, .v .Ep] x) = laws_eqEp.raw x.1 x.2 := by kernel_rfl
theorem c176 : Contract Tryz.prog 176 ci176 :=
  evalF_ok (C := C176) (tnOk_of tn_mixed tn_ok _ _) (phi_cons c121 (phi_cons c192 phi_nil)) Tryz.func176 (by kernel_rfl : Tryz.f176.body = some (Tryz.f176.body.getD .skip)) (by kernel_rfl) (by kernel_rfl) an176 (plains 2) [] [(false, 1)] [.v .Ep, .v .Ep] [.v .bool] (fun x => some ((fun (a0 : G.Ep) (a1 : G.Ep) => eqq a0 a1) x.1 x.2)) rfl (by kernel_rfl)
    fun x r hb h => (e176 x).trans ((laws_eqEp.ok hb).trans h)

def an156 : An := ⟨[], [], [], [], []⟩
noncomputable def C156 : Cx := ⟨Tryz.prog, tnT, fun f => lookC f [(121, ci121), (176, ci176)], 44⟩
noncomputable def ci156 : CInfo := ⟨(plains 2), TyTup [.v .Chan, .v .Chan], TyTup [.v .bool], decTup [.v .Chan, .v .Chan], fun x => some ((fun (a0 : G.Chan) (a1 : G.Chan) => eqq a0 a1) x.1 x.2), flatTup [.v .bool], [(false, 1)], []⟩
theorem e156 (x : TyTup [.v .Chan, .v .Chan]) : evalF C156 Tryz.f156 (Tryz.f156.body.getD .skip) an156 (plains 2) [] [(false, 1)] [.v .bool] (encTup [.v .Chan, .v .Chan] x) = laws_eqChan.raw x.1 x.2 := by kernel_rfl
theorem c156 : Contract Tryz.prog 156 ci156 :=
  evalF_ok (C := C156) (tnOk_of tn_mixed tn_ok _ _) (phi_cons c121 (phi_cons c176 phi_nil)) Tryz.func156 (by kernel_rfl : Tryz.f156.body = some (Tryz.f156.body.getD .skip)) (by kernel_rfl) (by kernel_rfl) an156 (plains 2) [] [(false, 1)] [.v .Chan, .v .Chan] [.v .bool] (fun x => some ((fun (a0 : G.Chan) (a1 : G.Chan) => eqq a0 a1) x.1 x.2)) rfl (by kernel_rfl)
    fun x r hb h => (e156 x).trans ((laws_eqChan.ok hb).trans h)

def an157 : An := ⟨[], [], [], [], []⟩
noncomputable def C157 : Cx := ⟨Tryz.prog, tnT, fun f => lookC f [], 25⟩
noncomputable def ci157 : CInfo := ⟨(plains 2), TyTup [.v .Timer, .v .Timer], TyTup [.v .bool], decTup [.v .Timer, .v .Timer], fun x => some ((fun (a0 : G.Timer) (a1 : G.Timer) => eqq a0 a1) x.1 x.2), flatTup [.v .bool], [(false, 1)], []⟩
theorem e157 (x : TyTup [.v .Timer, .v .Timer]) : evalF C157 Tryz.f157 (Tryz.f157.body.getD .skip) an157 (plains 2) [] [(false, 1)] [.v .bool] (encTup [.v .Timer, .v .Timer] x) = laws_eqTimer.raw x.1 x.2 := by kernel_rfl
theorem c157 : Contract Tryz.prog 157 ci157 :=
  evalF_ok (C := C157) (tnOk_of tn_mixed tn_ok _ _) phi_nil Tryz.func157 (by kernel_rfl : Tryz.f157.body = some (Tryz.f157.body.getD .skip)) (by kernel_rfl) (by kernel_rfl) an157 (plains 2) [] [(false, 1)] [.v .Timer, .v .Timer] [.v .bool] (fun x => some ((fun (a0 : G.Timer) (a1 : G.Timer) => eqq a0 a1) x.1 x.2)) rfl (by kernel_rfl)
    fun x r hb h => (e157 x).trans ((laws_eqTimer.ok hb).trans h)

def an117 : An := ⟨[], [], [], [], []⟩
noncomputable def C117 : Cx := ⟨Tryz.prog, tnT, fun f => lookC f [(121, ci121), (154, ci154), (155, ci155), (156, ci156), (157, ci157)], 62⟩
noncomputable def ci117 : CInfo := ⟨(plains 2), TyTup [.v .Client, .v .Client], TyTup [.v .bool], decTup [.v .Client, .v .Client], fun x => some ((fun (a0 : G.Client) (a1 : G.Client) => eqq a0 a1) x.1 x.2), flatTup [.v .bool], [(false, 1)], []⟩
theorem e117 (x : TyTup [.v .Client, .v .Client]) : evalF C117 Tryz.f117 (Tryz.f117.body.getD .skip) an117 (plains 2) [] [(false, 1)] [.v .bool] (encTup [.v .Client, .v .Client] x) = laws_eqClient.raw x.1 x.2 := by kernel_rfl
theorem c117 : Contract Tryz.prog 117 ci117 :=
  evalF_ok (C := C117) (tnOk_of tn_mixed tn_ok _ _) (phi_cons c121 (phi_cons c154 (phi_cons c155 (phi_cons c156 (phi_cons c157 phi_nil))))) Tryz.func117 (by kernel_rfl : Tryz.f117.body = some (Tryz.f117.body.getD .skip)) (by kernel_rfl) (by kernel_rfl) an117 (plains 2) [] [(false, 1)] [.v .Client, .v .Client] [.v .bool] (fun x => some ((fun (a0 : G.Client) (a1 : G.Client) => eqq a0 a1) x.1 x.2)) rfl (by kernel_rfl)
    fun x r hb h => (e117 x).trans ((laws_eqClient.ok hb).trans h)

def an57 : An := ⟨[], [(0, ⟨[], [(4, 5), (11, 26)], []⟩)], [(4, ⟨[.slot 5 (.v .int)], [(4, 4), (11, 26)], []⟩)], [], []⟩
noncomputable def C57 : Cx := ⟨Tryz.prog, tnT, fun f => lookC f [(117, ci117)], 27⟩
noncomputable def ci57 : CInfo := ⟨(plains 2), TyTup [.sl .Client, .sl .Client], TyTup [.v .bool], decTup [.sl .Client, .sl .Client], fun x => some ((fun (a0 : List G.Client) (a1 : List G.Client) => eqq a0 a1) x.1 x.2), flatTup [.v .bool], [(false, 1)], []⟩
theorem e57 (x : TyTup [.sl .Client, .sl .Client]) : evalF C57 Tryz.f57 (Tryz.f57.body.getD .skip) an57 (plains 2) [] [(false, 1)] [.v .bool] (encTup [.sl .Client, .sl .Client] x) = laws_eqClientS.raw x.1 x.2 := by kernel_rfl
theorem c57 : Contract Tryz.prog 57 ci57 :=
  evalF_ok (C := C57) (tnOk_of tn_mixed tn_ok _ _) (phi_cons c117 phi_nil) Tryz.func57 (by kernel_rfl : Tryz.f57.body = some (Tryz.f57.body.getD .skip)) (by kernel_rfl) (by kernel_rfl) an57 (plains 2) [] [(false, 1)] [.sl .Client, .sl .Client] [.v .bool] (fun x => some ((fun (a0 : List G.Client) (a1 : List G.Client) => eqq a0 a1) x.1 x.2)) rfl (by kernel_rfl)
    fun x r hb h => (e57 x).trans ((laws_eqClientS.ok hb).trans h)

def an61 : An := ⟨[], [(0, ⟨[], [(4, 5), (11, 26)], []⟩)], [(4, ⟨[.slot 5 (.v .int)], [(4, 4), (11, 26)], []⟩)], [], []⟩
noncomputable def C61 : Cx := ⟨Tryz.prog, tnT, fun f => lookC f [(121, ci121)], 27⟩
noncomputable def ci61 : CInfo := ⟨(plains 2), TyTup [.sl .bs, .sl .bs], TyTup [.v .bool], decTup [.sl .bs, .sl .bs], fun x => some ((fun (a0 : List (List UInt8)) (a1 : List (List UInt8)) => eqq a0 a1) x.1 x.2), flatTup [.v .bool], [(false, 1)], []⟩
theorem e61 (x : TyTup [.sl .bs, .sl .bs]) : evalF C61 Tryz.f61 (Tryz.f61.body.getD .skip) an61 (plains 2) [] [(false, 1)] [.v .bool] (encTup [.sl .bs, .sl .bs] x) = laws_eqByteSS.raw x.1 x.2 := by kernel_rfl
theorem c61 : Contract Tryz.prog 61 ci61 :=
  evalF_ok (C := C61) (tnOk_of tn_mixed tn_ok _ _) (phi_cons c121 phi_nil) Tryz.func61 (by kernel_rfl : Tryz.f61.body = some (Tryz.f61.body.getD .skip)) (by kernel_rfl) (by kernel_rfl) an61 (plains 2) [] [(false, 1)] [.sl .bs, .sl .bs] [.v .bool] (fun x => some ((fun (a0 : List (List UInt8)) (a1 : List (List UInt8)) => eqq a0 a1) x.1 x.2)) rfl (by kernel_rfl)
    fun x r hb h => (e61 x).trans ((laws_eqByteSS.ok hb).trans h)

def an118 : An := ⟨[], [], [], [], []⟩
noncomputable def C118 : Cx := ⟨Tryz.prog, tnT, fun f => lookC f [(121, ci121)], 11⟩
noncomputable def ci118 : CInfo := ⟨(plains 2), TyTup [.v .Jar, .v .Jar], TyTup [.v .bool], decTup [.v .Jar, .v .Jar], fun x => some ((fun (a0 : G.Jar) (a1 : G.Jar) => eqq a0 a1) x.1 x.2), flatTup [.v .bool], [(false, 1)], []⟩
theorem e118 (x : TyTup [.v .Jar, .v .Jar]) : evalF C118 Tryz.f118 (Tryz.f118.body.getD .skip) an118 (plains 2) [] [(false, 1)] [.v .bool] (encTup [.v .Jar, .v .Jar] x) = laws_eqJar.raw x.1 x.2 := by kernel_rfl
theorem c118 : Contract Tryz.prog 118 ci118 :=
  evalF_ok (C := C118) (tnOk_of tn_mixed tn_ok _ _) (phi_cons c121 phi_nil) Tryz.func118 (by kernel_rfl : Tryz.f118.body = some (Tryz.f118.body.getD .skip)) (by kernel_rfl) (by kernel_rfl) an118 (plains 2) [] [(false, 1)] [.v .Jar, .v .Jar] [.v .bool] (fun x => some ((fun (a0 : G.Jar) (a1 : G.Jar) => eqq a0 a1) x.1 x.2)) rfl (by kernel_rfl)
    fun x r hb h => (e118 x).trans ((laws_eqJar.ok hb).trans h)

def an59 : An := ⟨[], [], [], [], []⟩
noncomputable def C59 : Cx := ⟨Tryz.prog, tnT, fun f => lookC f [(121, ci121)], 16⟩
noncomputable def ci59 : CInfo := ⟨(plains 2), TyTup [.v .Dice, .v .Dice], TyTup [.v .bool], decTup [.v .Dice, .v .Dice], fun x => some ((fun (a0 : G.Dice) (a1 : G.Dice) => eqq a0 a1) x.1 x.2), flatTup [.v .bool], [(false, 1)], []⟩
theorem e59 (x : TyTup [.v .Dice, .v .Dice]) : evalF C59 Tryz.f59 (Tryz.f59.body.getD .skip) an59 (plains 2) [] [(false, 1)] [.v .bool] (encTup [.v .Dice, .v .Dice] x) = laws_eqDice.raw x.1 x.2 := by kernel_rfl
theorem c59 : Contract Tryz.prog 59 ci59 :=
  evalF_ok (C := C59) (tnOk_of tn_mixed tn_ok _ _) (phi_cons c121 phi_nil) Tryz.func59 (by kernel_rfl : Tryz.f59.body = some (Tryz.f59.body.getD .skip)) (by kernel_rfl) (by kernel_rfl) an59 (plains 2) [] [(false, 1)] [.v .Dice, .v .Dice] [.v .bool] (fun x => some ((fun (a0 : G.Dice) (a1 : G.Dice) => eqq a0 a1) x.1 x.2)) rfl (by kernel_rfl)
    fun x r hb h => (e59 x).trans ((laws_eqDice.ok hb).trans h)

def an213 : An := ⟨[], [], [], [], []⟩
noncomputable def C213 : Cx := ⟨Tryz.prog, tnT, fun f => lookC f [(121, ci121), (154, ci154)], 22⟩
noncomputable def ci213 : CInfo := ⟨(plains 2), TyTup [.v .Cand, .v .Cand], TyTup [.v .bool], decTup [.v .Cand, .v .Cand], fun x => some ((fun (a0 : G.Cand) (a1 : G.Cand) => eqq a0 a1) x.1 x.2), flatTup [.v .bool], [(false, 1)], []⟩
theorem e213 (x : TyTup [.v .Cand, .v .Cand]) : evalF C213 Tryz.f213 (Tryz.f213.body.getD .skip) an213 (plains 2) [] [(false, 1)] [.v .bool] (encTup [.v .Cand, .v .Cand] x) = laws_eqCand.raw x.1 x.2 := by kernel_rfl
theorem c213 : Contract Tryz.prog 213 ci213 :=
  evalF_ok (C := C213) (tnOk_of tn_mixed tn_ok _ _) (phi_cons c121 (phi_cons c154 phi_nil)) Tryz.func213 (by kernel_rfl : Tryz.f213.body = some (Tryz.f213.body.getD .skip)) (by kernel_rfl) (by kernel_rfl) an213 (plains 2) [] [(false, 1)] [.v .Cand, .v .Cand] [.v .bool] (fun x => some ((fun (a0 : G.Cand) (a1 : G.Cand) => eqq a0 a1) x.1 x.2)) rfl (by kernel_rfl)
    fun x r hb h => (e213 x).trans ((laws_eqCand.ok hb).trans h)

def an208 : An := ⟨[], [(0, ⟨[], [(4, 5), (11, 26)], []⟩)], [(4, ⟨[.slot 5 (.v .int)], [(4, 4), (11, 26)], []⟩)], [], []⟩
noncomputable def C208 : Cx := ⟨Tryz.prog, tnT, fun f => lookC f [(213, ci213)], 27⟩
noncomputable def ci208 : CInfo := ⟨(plains 2), TyTup [.sl .Cand, .sl .Cand], TyTup [.v .bool], decTup [.sl .Cand, .sl .Cand], fun x => some ((fun (a0 : List G.Cand) (a1 : List G.Cand) => eqq a0 a1) x.1 x.2), flatTup [.v .bool], [(false, 1)], []⟩
theorem e208 (x : TyTup [.sl .Cand, .sl .Cand]) : evalF C208 Tryz.f208 (Tryz.f208.body.getD .skip) an208 (plains 2) [] [(false, 1)] [.v .bool] (encTup [.sl .Cand, .sl .Cand] x) = laws_eqCandS.raw x.1 x.2 := by kernel_rfl
theorem c208 : Contract Tryz.prog 208 ci208 :=
  evalF_ok (C := C208) (tnOk_of tn_mixed tn_ok _ _) (phi_cons c213 phi_nil) Tryz.func208 (by kernel_rfl : Tryz.f208.body = some (Tryz.f208.body.getD .skip)) (by kernel_rfl) (by kernel_rfl) an208 (plains 2) [] [(false, 1)] [.sl .Cand, .sl .Cand] [.v .bool] (fun x => some ((fun (a0 : List G.Cand) (a1 : List G.Cand) => eqq a0 a1) x.1 x.2)) rfl (by kernel_rfl)
    fun x r hb h => (e208 x).trans ((laws_eqCandS.ok hb).trans h)

def an193 : An := ⟨[], [], [], [], []⟩
noncomputable def C193 : Cx := ⟨Tryz.prog, tnT, fun f => lookC f [(154, ci154), (208, ci208)], 17⟩
noncomputable def ci193 : CInfo := ⟨(plains 2), TyTup [.v .Paths, .v .Paths], TyTup [.v .bool], decTup [.v .Paths, .v .Paths], fun x => some ((fun (a0 : G.Paths) (a1 : G.Paths) => eqq a0 a1) x.1 x.2), flatTup [.v .bool], [(false, 1)], []⟩
theorem e193 (x : TyTup [.v .Paths, .v .Paths]) : evalF C193 Tryz.f193 (Tryz.f193.body.getD .skip) an193 (plains 2) [] [(false, 1)] [.v .bool] (encTup [.v .Paths, .v .Paths] x) = laws_eqPaths.raw x.1 x.2 := by kernel_rfl
theorem c193 : Contract Tryz.prog 193 ci193 :=
  evalF_ok (C := C193) (tnOk_of tn_mixed tn_ok _ _) (phi_cons c154 (phi_cons c208 phi_nil)) Tryz.func193 (by kernel_rfl : Tryz.f193.body = some (Tryz.f193.body.getD .skip)) (by kernel_rfl) (by kernel_rfl) an193 (plains 2) [] [(false, 1)] [.v .Paths, .v .Paths] [.v .bool] (fun x => some ((fun (a0 : G.Paths) (a1 : G.Paths) => eqq a0 a1) x.1 x.2)) rfl (by kernel_rfl)
    fun x r hb h => (e193 x).trans ((laws_eqPaths.ok hb).trans h)

def an177 : An := ⟨[], [], [], [], []⟩
noncomputable def C177 : Cx := ⟨Tryz.prog, tnT, fun f => lookC f [(121, ci121), (156, ci156), (193, ci193)], 49⟩
noncomputable def ci177 : CInfo := ⟨(plains 2), TyTup [.v .Sess, .v .Sess], TyTup [.v .bool], decTup [.v .Sess, .v .Sess], fun x => some ((fun (a0 : G.Sess) (a1 : G.Sess) => eqq a0 a1) x.1 x.2), flatTup [.v .bool], [(false, 1)], []⟩
theorem e177 (x : TyTup [.v .Sess, .v .Sess]) : evalF C177 Tryz.f177 (Tryz.f177.body.getD .skip) an177 (plains 2) [] [(false, 1)] [.v .bool] (encTup [.v .Sess, .v .Sess] x) = laws_eqSess.raw x.1 x.2 := by kernel_rfl
theorem c177 : Contract Tryz.prog 177 ci177 :=
  evalF_ok (C := C177) (tnOk_of tn_mixed tn_ok _ _) (phi_cons c121 (phi_cons c156 (phi_cons c193 phi_nil))) Tryz.func177 (by kernel_rfl : Tryz.f177.body = some (Tryz.f177.body.getD .skip)) (by kernel_rfl) (by kernel_rfl) an177 (plains 2) [] [(false, 1)] [.v .Sess, .v .Sess] [.v .bool] (fun x => some ((fun (a0 : G.Sess) (a1 : G.Sess) => eqq a0 a1) x.1 x.2)) rfl (by kernel_rfl)
    fun x r hb h => (e177 x).trans ((laws_eqSess.ok hb).trans h)

def an158 : An := ⟨[], [(0, ⟨[], [(4, 5), (11, 26)], []⟩)], [(4, ⟨[.slot 5 (.v .int)], [(4, 4), (11, 26)], []⟩)], [], []⟩
noncomputable def C158 : Cx := ⟨Tryz.prog, tnT, fun f => lookC f [(177, ci177)], 27⟩
noncomputable def ci158 : CInfo := ⟨(plains 2), TyTup [.sl .Sess, .sl .Sess], TyTup [.v .bool], decTup [.sl .Sess, .sl .Sess], fun x => some ((fun (a0 : List G.Sess) (a1 : List G.Sess) => eqq a0 a1) x.1 x.2), flatTup [.v .bool], [(false, 1)], []⟩
theorem e158 (x : TyTup [.sl .Sess, .sl .Sess]) : evalF C158 Tryz.f158 (Tryz.f158.body.getD .skip) an158 (plains 2) [] [(false, 1)] [.v .bool] (encTup [.sl .Sess, .sl .Sess] x) = laws_eqSessS.raw x.1 x.2 := by kernel_rfl
theorem c158 : Contract Tryz.prog 158 ci158 :=
  evalF_ok (C := C158) (tnOk_of tn_mixed tn_ok _ _) (phi_cons c177 phi_nil) Tryz.func158 (by kernel_rfl : Tryz.f158.body = some (Tryz.f158.body.getD .skip)) (by kernel_rfl) (by kernel_rfl) an158 (plains 2) [] [(false, 1)] [.sl .Sess, .sl .Sess] [.v .bool] (fun x => some ((fun (a0 : List G.Sess) (a1 : List G.Sess) => eqq a0 a1) x.1 x.2)) rfl (by kernel_rfl)
    fun x r hb h => (e158 x).trans ((laws_eqSessS.ok hb).trans h)

def an119 : An := ⟨[], [], [], [], []⟩
noncomputable def C119 : Cx := ⟨Tryz.prog, tnT, fun f => lookC f [(158, ci158)], 16⟩
noncomputable def ci119 : CInfo := ⟨(plains 2), TyTup [.v .Tab, .v .Tab], TyTup [.v .bool], decTup [.v .Tab, .v .Tab], fun x => some ((fun (a0 : G.Tab) (a1 : G.Tab) => eqq a0 a1) x.1 x.2), flatTup [.v .bool], [(false, 1)], []⟩
theorem e119 (x : TyTup [.v .Tab, .v .Tab]) : evalF C119 Tryz.f119 (Tryz.f119.body.getD .skip) an119 (plains 2) [] [(false, 1)] [.v .bool] (encTup [.v .Tab, .v .Tab] x) = laws_eqTab.raw x.1 x.2 := by kernel_rfl
theorem c119 : Contract Tryz.prog 119 ci119 :=
  evalF_ok (C := C119) (tnOk_of tn_mixed tn_ok _ _) (phi_cons c158 phi_nil) Tryz.func119 (by kernel_rfl : Tryz.f119.body = some (Tryz.f119.body.getD .skip)) (by kernel_rfl) (by kernel_rfl) an119 (plains 2) [] [(false, 1)] [.v .Tab, .v .Tab] [.v .bool] (fun x => some ((fun (a0 : G.Tab) (a1 : G.Tab) => eqq a0 a1) x.1 x.2)) rfl (by kernel_rfl)
    fun x r hb h => (e119 x).trans ((laws_eqTab.ok hb).trans h)

def an159 : An := ⟨[], [], [], [], []⟩
noncomputable def C159 : Cx := ⟨Tryz.prog, tnT, fun f => lookC f [(154, ci154)], 21⟩
noncomputable def ci159 : CInfo := ⟨(plains 2), TyTup [.v .Credit, .v .Credit], TyTup [.v .bool], decTup [.v .Credit, .v .Credit], fun x => some ((fun (a0 : G.Credit) (a1 : G.Credit) => eqq a0 a1) x.1 x.2), flatTup [.v .bool], [(false, 1)], []⟩
theorem e159 (x : TyTup [.v .Credit, .v .Credit]) : evalF C159 Tryz.f159 (Tryz.f159.body.getD .skip) an159 (plains 2) [] [(false, 1)] [.v .bool] (encTup [.v .Credit, .v .Credit] x) = laws_eqCredit.raw x.1 x.2 := by kernel_rfl
theorem c159 : Contract Tryz.prog 159 ci159 :=
  evalF_ok (C := C159) (tnOk_of tn_mixed tn_ok _ _) (phi_cons c154 phi_nil) Tryz.func159 (by kernel_rfl : Tryz.f159.body = some (Tryz.f159.body.getD .skip)) (by kernel_rfl) (by kernel_rfl) an159 (plains 2) [] [(false, 1)] [.v .Credit, .v .Credit] [.v .bool] (fun x => some ((fun (a0 : G.Credit) (a1 : G.Credit) => eqq a0 a1) x.1 x.2)) rfl (by kernel_rfl)
    fun x r hb h => (e159 x).trans ((laws_eqCredit.ok hb).trans h)

def an120 : An := ⟨[], [(0, ⟨[], [(4, 5), (11, 26)], []⟩)], [(4, ⟨[.slot 5 (.v .int)], [(4, 4), (11, 26)], []⟩)], [], []⟩
noncomputable def C120 : Cx := ⟨Tryz.prog, tnT, fun f => lookC f [(159, ci159)], 27⟩
noncomputable def ci120 : CInfo := ⟨(plains 2), TyTup [.sl .Credit, .sl .Credit], TyTup [.v .bool], decTup [.sl .Credit, .sl .Credit], fun x => some ((fun (a0 : List G.Credit) (a1 : List G.Credit) => eqq a0 a1) x.1 x.2), flatTup [.v .bool], [(false, 1)], []⟩
theorem e120 (x : TyTup [.sl .Credit, .sl .Credit]) : evalF C120 Tryz.f120 (Tryz.f120.body.getD .skip) an120 (plains 2) [] [(false, 1)] [.v .bool] (encTup [.sl .Credit, .sl .Credit] x) = laws_eqCreditS.raw x.1 x.2 := by kernel_rfl
theorem c120 : Contract Tryz.prog 120 ci120 :=
  evalF_ok (C := C120) (tnOk_of tn_mixed tn_ok _ _) (phi_cons c159 phi_nil) Tryz.func120 (by kernel_rfl : Tryz.f120.body = some (Tryz.f120.body.getD .skip)) (by kernel_rfl) (by kernel_rfl) an120 (plains 2) [] [(false, 1)] [.sl .Credit, .sl .Credit] [.v .bool] (fun x => some ((fun (a0 : List G.Credit) (a1 : List G.Credit) => eqq a0 a1) x.1 x.2)) rfl (by kernel_rfl)
    fun x r hb h => (e120 x).trans ((laws_eqCreditS.ok hb).trans h)

def an58 : An := ⟨[], [], [], [], []⟩
noncomputable def C58 : Cx := ⟨Tryz.prog, tnT, fun f => lookC f [(59, ci59), (61, ci61), (118, ci118), (119, ci119), (120, ci120)], 35⟩
noncomputable def ci58 : CInfo := ⟨(plains 2), TyTup [.v .Server, .v .Server], TyTup [.v .bool], decTup [.v .Server, .v .Server], fun x => some ((fun (a0 : G.Server) (a1 : G.Server) => eqq a0 a1) x.1 x.2), flatTup [.v .bool], [(false, 1)], []⟩
theorem e58 (x : TyTup [.v .Server, .v .Server]) : evalF C58 Tryz.f58 (Tryz.f58.body.getD .skip) an58 (plains 2) [] [(false, 1)] [.v .bool] (encTup [.v .Server, .v .Server] x) = laws_eqServer.raw x.1 x.2 := by kernel_rfl
theorem c58 : Contract Tryz.prog 58 ci58 :=
  evalF_ok (C := C58) (tnOk_of tn_mixed tn_ok _ _) (phi_cons c59 (phi_cons c61 (phi_cons c118 (phi_cons c119 (phi_cons c120 phi_nil))))) Tryz.func58 (by kernel_rfl : Tryz.f58.body = some (Tryz.f58.body.getD .skip)) (by kernel_rfl) (by kernel_rfl) an58 (plains 2) [] [(false, 1)] [.v .Server, .v .Server] [.v .bool] (fun x => some ((fun (a0 : G.Server) (a1 : G.Server) => eqq a0 a1) x.1 x.2)) rfl (by kernel_rfl)
    fun x r hb h => (e58 x).trans ((laws_eqServer.ok hb).trans h)

def an122 : An := ⟨[], [], [], [], []⟩
noncomputable def C122 : Cx := ⟨Tryz.prog, tnT, fun f => lookC f [(121, ci121), (154, ci154)], 23⟩
noncomputable def ci122 : CInfo := ⟨(plains 2), TyTup [.v .Wire, .v .Wire], TyTup [.v .bool], decTup [.v .Wire, .v .Wire], fun x => some ((fun (a0 : G.Wire) (a1 : G.Wire) => eqq a0 a1) x.1 x.2), flatTup [.v .bool], [(false, 1)], []⟩
theorem e122 (x : TyTup [.v .Wire, .v .Wire]) : evalF C122 Tryz.f122 (Tryz.f122.body.getD .skip) an122 (plains 2) [] [(false, 1)] [.v .bool] (encTup [.v .Wire, .v .Wire] x) = laws_eqWire.raw x.1 x.2 := by kernel_rfl
theorem c122 : Contract Tryz.prog 122 ci122 :=
  evalF_ok (C := C122) (tnOk_of tn_mixed tn_ok _ _) (phi_cons c121 (phi_cons c154 phi_nil)) Tryz.func122 (by kernel_rfl : Tryz.f122.body = some (Tryz.f122.body.getD .skip)) (by kernel_rfl) (by kernel_rfl) an122 (plains 2) [] [(false, 1)] [.v .Wire, .v .Wire] [.v .bool] (fun x => some ((fun (a0 : G.Wire) (a1 : G.Wire) => eqq a0 a1) x.1 x.2)) rfl (by kernel_rfl)
    fun x r hb h => (e122 x).trans ((laws_eqWire.ok hb).trans h)

def an60 : An := ⟨[], [(0, ⟨[], [(4, 5), (11, 26)], []⟩)], [(4, ⟨[.slot 5 (.v .int)], [(4, 4), (11, 26)], []⟩)], [], []⟩
noncomputable def C60 : Cx := ⟨Tryz.prog, tnT, fun f => lookC f [(122, ci122)], 27⟩
noncomputable def ci60 : CInfo := ⟨(plains 2), TyTup [.sl .Wire, .sl .Wire], TyTup [.v .bool], decTup [.sl .Wire, .sl .Wire], fun x => some ((fun (a0 : List G.Wire) (a1 : List G.Wire) => eqq a0 a1) x.1 x.2), flatTup [.v .bool], [(false, 1)], []⟩
theorem e60 (x : TyTup [.sl .Wire, .sl .Wire]) : evalF C60 Tryz.f60 (Tryz.f60.body.getD .skip) an60 (plains 2) [] [(false, 1)] [.v .bool] (encTup [.sl .Wire, .sl .Wire] x) = laws_eqWireS.raw x.1 x.2 := by kernel_rfl
theorem c60 : Contract Tryz.prog 60 ci60 :=
  evalF_ok (C := C60) (tnOk_of tn_mixed tn_ok _ _) (phi_cons c122 phi_nil) Tryz.func60 (by kernel_rfl : Tryz.f60.body = some (Tryz.f60.body.getD .skip)) (by kernel_rfl) (by kernel_rfl) an60 (plains 2) [] [(false, 1)] [.sl .Wire, .sl .Wire] [.v .bool] (fun x => some ((fun (a0 : List G.Wire) (a1 : List G.Wire) => eqq a0 a1) x.1 x.2)) rfl (by kernel_rfl)
    fun x r hb h => (e60 x).trans ((laws_eqWireS.ok hb).trans h)

def an123 : An := ⟨[], [], [], [], []⟩
noncomputable def C123 : Cx := ⟨Tryz.prog, tnT, fun f => lookC f [(121, ci121), (154, ci154)], 65⟩
noncomputable def ci123 : CInfo := ⟨(plains 2), TyTup [.v .Note, .v .Note], TyTup [.v .bool], decTup [.v .Note, .v .Note], fun x => some ((fun (a0 : G.Note) (a1 : G.Note) => eqq a0 a1) x.1 x.2), flatTup [.v .bool], [(false, 1)], []⟩
theorem e123 (x : TyTup [.v .Note, .v .Note]) : evalF C123 Tryz.f123 (Tryz.f123.body.getD .skip) an123 (plains 2) [] [(false, 1)] [.v .bool] (encTup [.v .Note, .v .Note] x) = laws_eqNote.raw x.1 x.2 := by kernel_rfl
theorem c123 : Contract Tryz.prog 123 ci123 :=
  evalF_ok (C := C123) (tnOk_of tn_mixed tn_ok _ _) (phi_cons c121 (phi_cons c154 phi_nil)) Tryz.func123 (by kernel_rfl : Tryz.f123.body = some (Tryz.f123.body.getD .skip)) (by kernel_rfl) (by kernel_rfl) an123 (plains 2) [] [(false, 1)] [.v .Note, .v .Note] [.v .bool] (fun x => some ((fun (a0 : G.Note) (a1 : G.Note) => eqq a0 a1) x.1 x.2)) rfl (by kernel_rfl)
    fun x r hb h => (e123 x).trans ((laws_eqNote.ok hb).trans h)

def an62 : An := ⟨[], [(0, ⟨[], [(4, 5), (11, 26)], []⟩)], [(4, ⟨[.slot 5 (.v .int)], [(4, 4), (11, 26)], []⟩)], [], []⟩
noncomputable def C62 : Cx := ⟨Tryz.prog, tnT, fun f => lookC f [(123, ci123)], 27⟩
noncomputable def ci62 : CInfo := ⟨(plains 2), TyTup [.sl .Note, .sl .Note], TyTup [.v .bool], decTup [.sl .Note, .sl .Note], fun x => some ((fun (a0 : List G.Note) (a1 : List G.Note) => eqq a0 a1) x.1 x.2), flatTup [.v .bool], [(false, 1)], []⟩
theorem e62 (x : TyTup [.sl .Note, .sl .Note]) : evalF C62 Tryz.f62 (Tryz.f62.body.getD .skip) an62 (plains 2) [] [(false, 1)] [.v .bool] (encTup [.sl .Note, .sl .Note] x) = laws_eqNoteS.raw x.1 x.2 := by kernel_rfl
theorem c62 : Contract Tryz.prog 62 ci62 :=
  evalF_ok (C := C62) (tnOk_of tn_mixed tn_ok _ _) (phi_cons c123 phi_nil) Tryz.func62 (by kernel_rfl : Tryz.f62.body = some (Tryz.f62.body.getD .skip)) (by kernel_rfl) (by kernel_rfl) an62 (plains 2) [] [(false, 1)] [.sl .Note, .sl .Note] [.v .bool] (fun x => some ((fun (a0 : List G.Note) (a1 : List G.Note) => eqq a0 a1) x.1 x.2)) rfl (by kernel_rfl)
    fun x r hb h => (e62 x).trans ((laws_eqNoteS.ok hb).trans h)

def an15 : An := ⟨[], [], [], [], []⟩
noncomputable def C15 : Cx := ⟨Tryz.prog, tnT, fun f => lookC f [(57, ci57), (58, ci58), (59, ci59), (60, ci60), (61, ci61), (62, ci62)], 46⟩
noncomputable def ci15 : CInfo := ⟨(plains 2), TyTup [.v .World, .v .World], TyTup [.v .bool], decTup [.v .World, .v .World], fun x => some ((fun (a0 : G.World) (a1 : G.World) => eqq a0 a1) x.1 x.2), flatTup [.v .bool], [(false, 1)], []⟩
theorem e15 (x : TyTup [.v .World, .v .World]) : evalF C15 Tryz.f15 (Tryz.f15.body.getD .skip) an15 (plains 2) [] [(false, 1)] [.v .bool] (encTup [.v .World, .v .World] x) = laws_eqWorld.raw x.1 x.2 := by kernel_rfl
theorem c15 : Contract Tryz.prog 15 ci15 :=
  evalF_ok (C := C15) (tnOk_of tn_mixed tn_ok _ _) (phi_cons c57 (phi_cons c58 (phi_cons c59 (phi_cons c60 (phi_cons c61 (phi_cons c62 phi_nil)))))) Tryz.func15 (by kernel_rfl : Tryz.f15.body = some (Tryz.f15.body.getD .skip)) (by kernel_rfl) (by kernel_rfl) an15 (plains 2) [] [(false, 1)] [.v .World, .v .World] [.v .bool] (fun x => some ((fun (a0 : G.World) (a1 : G.World) => eqq a0 a1) x.1 x.2)) rfl (by kernel_rfl)
    fun x r hb h => (e15 x).trans ((laws_eqWorld.ok hb).trans h)

def an9 : An := ⟨[], [], [], [], []⟩
noncomputable def C9 : Cx := ⟨Tryz.prog, tnT, fun f => lookC f [(11, ci11), (13, ci13), (15, ci15), (26, ci26), (27, ci27), (28, ci28)], 37⟩
noncomputable def ci9 : CInfo := ⟨(plains 3), TyTup [.v .World, .v .int, .v .Addr], TyTup [.v .bool], decTup [.v .World, .v .int, .v .Addr], fun x => some ((fun (a0 : G.World) (a1 : Int) (a2 : G.Addr) => always3 a0 a1 a2) x.1 x.2.1 x.2.2), flatTup [.v .bool], [(false, 1)], []⟩
theorem e9 (x : TyTup [.v .World, .v .int, .v .Addr]) : evalF C9 Tryz.f9 (Tryz.f9.body.getD .skip) an9 (plains 3) [] [(false, 1)] [.v .bool] (encTup [.v .World, .v .int, .v .Addr] x) = laws_FnExactCanMove.raw x.1 x.2.1 x.2.2 := by kernel_rfl
theorem c9 : Contract Tryz.prog 9 ci9 :=
  evalF_ok (C := C9) (tnOk_of tn_mixed tn_ok _ _) (phi_cons c11 (phi_cons c13 (phi_cons c15 (phi_cons c26 (phi_cons c27 (phi_cons c28 phi_nil)))))) Tryz.func9 (by kernel_rfl : Tryz.f9.body = some (Tryz.f9.body.getD .skip)) (by kernel_rfl) (by kernel_rfl) an9 (plains 3) [] [(false, 1)] [.v .World, .v .int, .v .Addr] [.v .bool] (fun x => some ((fun (a0 : G.World) (a1 : Int) (a2 : G.Addr) => always3 a0 a1 a2) x.1 x.2.1 x.2.2)) rfl (by kernel_rfl)
    fun x r hb h => (e9 x).trans ((laws_FnExactCanMove.ok hb).trans h)

def an67 : An := ⟨[], [(0, ⟨[], [(4, 5), (9, 29)], []⟩)], [(4, ⟨[.slot 5 (.v .int)], [(4, 4), (9, 29)], []⟩)], [], []⟩
noncomputable def C67 : Cx := ⟨Tryz.prog, tnT, fun f => lookC f [(70, ci70)], 30⟩
noncomputable def ci67 : CInfo := ⟨(plains 2), TyTup [.v .World, .v .Addr], TyTup [.v .int], decTup [.v .World, .v .Addr], fun x => (fun (a0 : G.World) (a1 : G.Addr) => partyAtO a0 a1) x.1 x.2, flatTup [.v .int], [(false, 1)], []⟩
theorem e67 (x : TyTup [.v .World, .v .Addr]) : evalF C67 Tryz.f67 (Tryz.f67.body.getD .skip) an67 (plains 2) [] [(false, 1)] [.v .int] (encTup [.v .World, .v .Addr] x) = spec_PartyAt.raw x.1 x.2 := by kernel_rfl
theorem c67 : Contract Tryz.prog 67 ci67 :=
  evalF_ok (C := C67) (tnOk_of tn_mixed tn_ok _ _) (phi_cons c70 phi_nil) Tryz.func67 (by kernel_rfl : Tryz.f67.body = some (Tryz.f67.body.getD .skip)) (by kernel_rfl) (by kernel_rfl) an67 (plains 2) [] [(false, 1)] [.v .World, .v .Addr] [.v .int] (fun x => (fun (a0 : G.World) (a1 : G.Addr) => partyAtO a0 a1) x.1 x.2) rfl (by kernel_rfl)
    fun x r hb h => (e67 x).trans (spec_PartyAt.ok hb h)

def an131 : An := ⟨[], [(0, ⟨[.own 7 .byte], [(8, 8), (21, 33)], []⟩)], [(5, ⟨[.own 7 .byte, .slot 8 (.v .int)], [(21, 33)], []⟩)], [(2, ⟨[.slot 17 (.v .bool)], [(12, 16)], []⟩)], []⟩
noncomputable def C131 : Cx := ⟨Tryz.prog, tnT, fun f => lookC f [], 35⟩
noncomputable def ci131 : CInfo := ⟨(plains 3), TyTup [.sl .byte, .v .int, .v .int], TyTup [.sl .byte], decTup [.sl .byte, .v .int, .v .int], fun x => (fun (a0 : List UInt8) (a1 : Int) (a2 : Int) => putNO a0 a1 a2) x.1 x.2.1 x.2.2, flatTup [.sl .byte], [(false, 1)], [0]⟩
theorem e131 (x : TyTup [.sl .byte, .v .int, .v .int]) : evalF C131 Tryz.f131 (Tryz.f131.body.getD .skip) an131 (plains 3) [0] [(false, 1)] [.sl .byte] (encTup [.sl .byte, .v .int, .v .int] x) = spec_PutN.raw x.1 x.2.1 x.2.2 := by kernel_rfl
theorem c131 : Contract Tryz.prog 131 ci131 :=
  evalF_ok (C := C131) (tnOk_of tn_mixed tn_ok _ _) phi_nil Tryz.func131 (by kernel_rfl : Tryz.f131.body = some (Tryz.f131.body.getD .skip)) (by kernel_rfl) (by kernel_rfl) an131 (plains 3) [0] [(false, 1)] [.sl .byte, .v .int, .v .int] [.sl .byte] (fun x => (fun (a0 : List UInt8) (a1 : Int) (a2 : Int) => putNO a0 a1 a2) x.1 x.2.1 x.2.2) rfl (by kernel_rfl)
    fun x r hb h => (e131 x).trans (spec_PutN.ok hb h)

def an178 : An := ⟨[], [(0, ⟨[.own 3 .byte], [(12, 21)], []⟩)], [(4, ⟨[.own 3 .byte], [(12, 21)], []⟩)], [(1, ⟨[.slot 9 (.v .bool)], [(4, 8)], []⟩)], []⟩
noncomputable def C178 : Cx := ⟨Tryz.prog, tnT, fun f => lookC f [(131, ci131)], 27⟩
noncomputable def ci178 : CInfo := ⟨(plains 1), TyTup [.v .int], TyTup [.sl .byte], decTup [.v .int], fun x => (fun (a0 : Int) => padO a0) x, flatTup [.sl .byte], [(false, 1)], [0]⟩
theorem e178 (x : TyTup [.v .int]) : evalF C178 Tryz.f178 (Tryz.f178.body.getD .skip) an178 (plains 1) [0] [(false, 1)] [.sl .byte] (encTup [.v .int] x) = spec_Pad.raw x := by kernel_rfl
theorem c178 : Contract Tryz.prog 178 ci178 :=
  evalF_ok (C := C178) (tnOk_of tn_mixed tn_ok _ _) (phi_cons c131 phi_nil) Tryz.func178 (by kernel_rfl : Tryz.f178.body = some (Tryz.f178.body.getD .skip)) (by kernel_rfl) (by kernel_rfl) an178 (plains 1) [0] [(false, 1)] [.v .int] [.sl .byte] (fun x => (fun (a0 : Int) => padO a0) x) rfl (by kernel_rfl)
    fun x r hb h => (e178 x).trans (spec_Pad.ok hb h)

def an179 : An := ⟨[], [], [], [], []⟩
noncomputable def C179 : Cx := ⟨Tryz.prog, tnT, fun f => lookC f [], 2⟩
noncomputable def ci179 : CInfo := ⟨(plains 0), TyTup [], TyTup [.sl .int], decTup [], fun x => some (start), flatTup [.sl .int], [(false, 1)], [0]⟩
theorem e179 (x : TyTup []) : evalF C179 Tryz.f179 (Tryz.f179.body.getD .skip) an179 (plains 0) [0] [(false, 1)] [.sl .int] (encTup [] x) = spec_Start.raw := by kernel_rfl
theorem c179 : Contract Tryz.prog 179 ci179 :=
  evalF_ok (C := C179) (tnOk_of tn_mixed tn_ok _ _) phi_nil Tryz.func179 (by kernel_rfl : Tryz.f179.body = some (Tryz.f179.body.getD .skip)) (by kernel_rfl) (by kernel_rfl) an179 (plains 0) [0] [(false, 1)] [] [.sl .int] (fun x => some (start)) rfl (by kernel_rfl)
    fun x r hb h => (e179 x).trans ((spec_Start.ok hb).trans h)

def an194 : An := ⟨[], [(0, ⟨[], [(2, 15)], []⟩)], [(2, ⟨[.slot 3 (.v .int)], [(2, 2), (4, 15)], []⟩)], [], []⟩
noncomputable def C194 : Cx := ⟨Tryz.prog, tnT, fun f => lookC f [(37, ci37)], 19⟩
noncomputable def ci194 : CInfo := ⟨(plains 1), TyTup [.sl .int], TyTup [.v .bool], decTup [.sl .int], fun x => some ((fun (a0 : List Int) => words8 a0) x), flatTup [.v .bool], [(false, 1)], []⟩
theorem e194 (x : TyTup [.sl .int]) : evalF C194 Tryz.f194 (Tryz.f194.body.getD .skip) an194 (plains 1) [] [(false, 1)] [.v .bool] (encTup [.sl .int] x) = spec_l2Words.raw x := by kernel_rfl
theorem c194 : Contract Tryz.prog 194 ci194 :=
  evalF_ok (C := C194) (tnOk_of tn_mixed tn_ok _ _) (phi_cons c37 phi_nil) Tryz.func194 (by kernel_rfl : Tryz.f194.body = some (Tryz.f194.body.getD .skip)) (by kernel_rfl) (by kernel_rfl) an194 (plains 1) [] [(false, 1)] [.sl .int] [.v .bool] (fun x => some ((fun (a0 : List Int) => words8 a0) x)) rfl (by kernel_rfl)
    fun x r hb h => (e194 x).trans ((spec_l2Words.ok hb).trans h)

def an195 : An := ⟨[], [], [], [], []⟩
noncomputable def C195 : Cx := ⟨Tryz.prog, tnT, fun f => lookC f [], 2⟩
noncomputable def ci195 : CInfo := ⟨(plains 0), TyTup [], TyTup [.sl .int], decTup [], fun x => some (kTab), flatTup [.sl .int], [(false, 1)], [0]⟩
theorem e195 (x : TyTup []) : evalF C195 Tryz.f195 (Tryz.f195.body.getD .skip) an195 (plains 0) [0] [(false, 1)] [.sl .int] (encTup [] x) = spec_l2K.raw := by kernel_rfl
theorem c195 : Contract Tryz.prog 195 ci195 :=
  evalF_ok (C := C195) (tnOk_of tn_mixed tn_ok _ _) phi_nil Tryz.func195 (by kernel_rfl : Tryz.f195.body = some (Tryz.f195.body.getD .skip)) (by kernel_rfl) (by kernel_rfl) an195 (plains 0) [0] [(false, 1)] [] [.sl .int] (fun x => some (kTab)) rfl (by kernel_rfl)
    fun x r hb h => (e195 x).trans ((spec_l2K.ok hb).trans h)

def an209 : An := ⟨[], [(0, ⟨[.slot 9 (.v .int)], [(10, 10), (29, 43)], []⟩)], [(5, ⟨[.slot 9 (.v .int), .slot 10 (.v .int)], [(29, 43)], []⟩)], [(1, ⟨[.slot 28 (.v .bool)], [(11, 27)], []⟩)], []⟩
noncomputable def C209 : Cx := ⟨Tryz.prog, tnT, fun f => lookC f [], 48⟩
noncomputable def ci209 : CInfo := ⟨(plains 3), TyTup [.sl .byte, .v .int, .v .int], TyTup [.v .int, .v .int, .v .bool], decTup [.sl .byte, .v .int, .v .int], fun x => (fun (a0 : List UInt8) (a1 : Int) (a2 : Int) => getNO a0 a1 a2) x.1 x.2.1 x.2.2, flatTup [.v .int, .v .int, .v .bool], [(false, 1), (false, 1), (false, 1)], []⟩
theorem e209 (x : TyTup [.sl .byte, .v .int, .v .int]) : evalF C209 Tryz.f209 (Tryz.f209.body.getD .skip) an209 (plains 3) [] [(false, 1), (false, 1), (false, 1)] [.v .int, .v .int, .v .bool] (encTup [.sl .byte, .v .int, .v .int] x) = spec_GetN.raw x.1 x.2.1 x.2.2 := by kernel_rfl
theorem c209 : Contract Tryz.prog 209 ci209 :=
  evalF_ok (C := C209) (tnOk_of tn_mixed tn_ok _ _) phi_nil Tryz.func209 (by kernel_rfl : Tryz.f209.body = some (Tryz.f209.body.getD .skip)) (by kernel_rfl) (by kernel_rfl) an209 (plains 3) [] [(false, 1), (false, 1), (false, 1)] [.sl .byte, .v .int, .v .int] [.v .int, .v .int, .v .bool] (fun x => (fun (a0 : List UInt8) (a1 : Int) (a2 : Int) => getNO a0 a1 a2) x.1 x.2.1 x.2.2) rfl (by kernel_rfl)
    fun x r hb h => (e209 x).trans (spec_GetN.ok hb h)

def an197 : An := ⟨[], [], [], [(2, ⟨[.slot 13 (.v .bool)], [(8, 12)], []⟩)], []⟩
noncomputable def C197 : Cx := ⟨Tryz.prog, tnT, fun f => lookC f [], 24⟩
noncomputable def ci197 : CInfo := ⟨(plains 2), TyTup [.v .int, .v .int], TyTup [.v .int], decTup [.v .int, .v .int], fun x => (fun (a0 : Int) (a1 : Int) => rotO a0 a1) x.1 x.2, flatTup [.v .int], [(false, 1)], []⟩
theorem e197 (x : TyTup [.v .int, .v .int]) : evalF C197 Tryz.f197 (Tryz.f197.body.getD .skip) an197 (plains 2) [] [(false, 1)] [.v .int] (encTup [.v .int, .v .int] x) = spec_Rot.raw x.1 x.2 := by kernel_rfl
theorem c197 : Contract Tryz.prog 197 ci197 :=
  evalF_ok (C := C197) (tnOk_of tn_mixed tn_ok _ _) phi_nil Tryz.func197 (by kernel_rfl : Tryz.f197.body = some (Tryz.f197.body.getD .skip)) (by kernel_rfl) (by kernel_rfl) an197 (plains 2) [] [(false, 1)] [.v .int, .v .int] [.v .int] (fun x => (fun (a0 : Int) (a1 : Int) => rotO a0 a1) x.1 x.2) rfl (by kernel_rfl)
    fun x r hb h => (e197 x).trans (spec_Rot.ok hb h)

def an196 : An := ⟨[], [(0, ⟨[.own 3 .int], [(4, 7), (18, 33)], []⟩), (2, ⟨[.own 3 .int], [(8, 12), (34, 82)], []⟩)], [(5, ⟨[.own 3 .int, .slot 4 (.v .int)], [(5, 7), (18, 33)], []⟩), (10, ⟨[.own 3 .int, .slot 8 (.v .int)], [(9, 12), (34, 82)], []⟩)], [], []⟩
noncomputable def C196 : Cx := ⟨Tryz.prog, tnT, fun f => lookC f [(197, ci197), (209, ci209)], 84⟩
noncomputable def ci196 : CInfo := ⟨(plains 1), TyTup [.sl .byte], TyTup [.sl .int], decTup [.sl .byte], fun x => (fun (a0 : List UInt8) => scheduleO a0) x, flatTup [.sl .int], [(false, 1)], [0]⟩
theorem e196 (x : TyTup [.sl .byte]) : evalF C196 Tryz.f196 (Tryz.f196.body.getD .skip) an196 (plains 1) [0] [(false, 1)] [.sl .int] (encTup [.sl .byte] x) = spec_Schedule.raw x := by kernel_rfl
theorem c196 : Contract Tryz.prog 196 ci196 :=
  evalF_ok (C := C196) (tnOk_of tn_mixed tn_ok _ _) (phi_cons c197 (phi_cons c209 phi_nil)) Tryz.func196 (by kernel_rfl : Tryz.f196.body = some (Tryz.f196.body.getD .skip)) (by kernel_rfl) (by kernel_rfl) an196 (plains 1) [0] [(false, 1)] [.sl .byte] [.sl .int] (fun x => (fun (a0 : List UInt8) => scheduleO a0) x) rfl (by kernel_rfl)
    fun x r hb h => (e196 x).trans (spec_Schedule.ok hb h)

def an180 : An := ⟨[], [(0, ⟨[.slot 8 (.v .int), .slot 9 (.v .int), .slot 10 (.v .int), .slot 11 (.v .int), .slot 12 (.v .int), .slot 13 (.v .int), .slot 14 (.v .int), .slot 15 (.v .int)], [(16, 18), (60, 128)], []⟩), (2, ⟨[.own 5 .int], [(20, 20), (138, 154)], []⟩)], [(8, ⟨[.slot 8 (.v .int), .slot 9 (.v .int), .slot 10 (.v .int), .slot 11 (.v .int), .slot 12 (.v .int), .slot 13 (.v .int), .slot 14 (.v .int), .slot 15 (.v .int), .slot 16 (.v .int)], [(17, 18), (60, 128)], []⟩), (22, ⟨[.slot 20 (.v .int), .own 5 .int], [(138, 154)], []⟩)], [(2, ⟨[.slot 31 (.v .bool)], [(24, 30)], []⟩)], []⟩
noncomputable def C180 : Cx := ⟨Tryz.prog, tnT, fun f => lookC f [(194, ci194), (195, ci195), (196, ci196), (197, ci197)], 156⟩
noncomputable def ci180 : CInfo := ⟨(plains 2), TyTup [.sl .int, .sl .byte], TyTup [.sl .int], decTup [.sl .int, .sl .byte], fun x => (fun (a0 : List Int) (a1 : List UInt8) => compressO a0 a1) x.1 x.2, flatTup [.sl .int], [(false, 1)], [0]⟩
theorem e180 (x : TyTup [.sl .int, .sl .byte]) : evalF C180 Tryz.f180 (Tryz.f180.body.getD .skip) an180 (plains 2) [0] [(false, 1)] [.sl .int] (encTup [.sl .int, .sl .byte] x) = spec_Compress.raw x.1 x.2 := by kernel_rfl
theorem c180 : Contract Tryz.prog 180 ci180 :=
  evalF_ok (C := C180) (tnOk_of tn_mixed tn_ok _ _) (phi_cons c194 (phi_cons c195 (phi_cons c196 (phi_cons c197 phi_nil)))) Tryz.func180 (by kernel_rfl : Tryz.f180.body = some (Tryz.f180.body.getD .skip)) (by kernel_rfl) (by kernel_rfl) an180 (plains 2) [0] [(false, 1)] [.sl .int, .sl .byte] [.sl .int] (fun x => (fun (a0 : List Int) (a1 : List UInt8) => compressO a0 a1) x.1 x.2) rfl (by kernel_rfl)
    fun x r hb h => (e180 x).trans (spec_Compress.ok hb h)

def an181 : An := ⟨[], [(0, ⟨[.own 3 .byte], [(4, 4), (6, 15)], []⟩)], [(3, ⟨[.own 3 .byte, .slot 4 (.v .int)], [(6, 15)], []⟩)], [], []⟩
noncomputable def C181 : Cx := ⟨Tryz.prog, tnT, fun f => lookC f [(131, ci131)], 17⟩
noncomputable def ci181 : CInfo := ⟨(plains 1), TyTup [.sl .int], TyTup [.sl .byte], decTup [.sl .int], fun x => (fun (a0 : List Int) => wordBytesO a0) x, flatTup [.sl .byte], [(false, 1)], [0]⟩
theorem e181 (x : TyTup [.sl .int]) : evalF C181 Tryz.f181 (Tryz.f181.body.getD .skip) an181 (plains 1) [0] [(false, 1)] [.sl .byte] (encTup [.sl .int] x) = spec_l2Out.raw x := by kernel_rfl
theorem c181 : Contract Tryz.prog 181 ci181 :=
  evalF_ok (C := C181) (tnOk_of tn_mixed tn_ok _ _) (phi_cons c131 phi_nil) Tryz.func181 (by kernel_rfl : Tryz.f181.body = some (Tryz.f181.body.getD .skip)) (by kernel_rfl) (by kernel_rfl) an181 (plains 1) [0] [(false, 1)] [.sl .int] [.sl .byte] (fun x => (fun (a0 : List Int) => wordBytesO a0) x) rfl (by kernel_rfl)
    fun x r hb h => (e181 x).trans (spec_l2Out.ok hb h)

def an161 : An := ⟨[], [(0, ⟨[.own 4 .int], [(5, 5), (18, 30)], [3]⟩)], [(6, ⟨[.own 4 .int, .slot 5 (.v .int)], [(18, 30)], [3]⟩)], [], []⟩
noncomputable def C161 : Cx := ⟨Tryz.prog, tnT, fun f => lookC f [(178, ci178), (179, ci179), (180, ci180), (181, ci181)], 33⟩
noncomputable def ci161 : CInfo := ⟨(plains 1), TyTup [.sl .byte], TyTup [.sl .byte], decTup [.sl .byte], fun x => some ((fun (a0 : List UInt8) => sha a0) x), flatTup [.sl .byte], [(false, 1)], [0]⟩
theorem e161 (x : TyTup [.sl .byte]) : evalF C161 Tryz.f161 (Tryz.f161.body.getD .skip) an161 (plains 1) [0] [(false, 1)] [.sl .byte] (encTup [.sl .byte] x) = spec_Sha.raw x := by kernel_rfl
theorem c161 : Contract Tryz.prog 161 ci161 :=
  evalF_ok (C := C161) (tnOk_of tn_mixed tn_ok _ _) (phi_cons c178 (phi_cons c179 (phi_cons c180 (phi_cons c181 phi_nil)))) Tryz.func161 (by kernel_rfl : Tryz.f161.body = some (Tryz.f161.body.getD .skip)) (by kernel_rfl) (by kernel_rfl) an161 (plains 1) [0] [(false, 1)] [.sl .byte] [.sl .byte] (fun x => some ((fun (a0 : List UInt8) => sha a0) x)) rfl (by kernel_rfl)
    fun x r hb h => (e161 x).trans ((spec_Sha.ok hb).trans h)

def an160 : An := ⟨[(851974, ⟨[.own 3 .byte], [(14, 15)], []⟩)], [(0, ⟨[.own 3 .byte], [(16, 21)], []⟩)], [(6, ⟨[.own 3 .byte], [(16, 21)], []⟩)], [], []⟩
noncomputable def C160 : Cx := ⟨Tryz.prog, tnT, fun f => lookC f [(161, ci161)], 23⟩
noncomputable def ci160 : CInfo := ⟨(plains 1), TyTup [.sl .byte], TyTup [.sl .byte], decTup [.sl .byte], fun x => some ((fun (a0 : List UInt8) => blockKey a0) x), flatTup [.sl .byte], [(false, 1)], [0]⟩
theorem e160 (x : TyTup [.sl .byte]) : evalF C160 Tryz.f160 (Tryz.f160.body.getD .skip) an160 (plains 1) [0] [(false, 1)] [.sl .byte] (encTup [.sl .byte] x) = spec_BlockKey.raw x := by kernel_rfl
theorem c160 : Contract Tryz.prog 160 ci160 :=
  evalF_ok (C := C160) (tnOk_of tn_mixed tn_ok _ _) (phi_cons c161 phi_nil) Tryz.func160 (by kernel_rfl : Tryz.f160.body = some (Tryz.f160.body.getD .skip)) (by kernel_rfl) (by kernel_rfl) an160 (plains 1) [0] [(false, 1)] [.sl .byte] [.sl .byte] (fun x => some ((fun (a0 : List UInt8) => blockKey a0) x)) rfl (by kernel_rfl)
    fun x r hb h => (e160 x).trans ((spec_BlockKey.ok hb).trans h)

def an130 : An := ⟨[], [(0, ⟨[.own 6 .byte, .own 7 .byte], [(8, 8), (22, 41)], []⟩)], [(7, ⟨[.own 6 .byte, .own 7 .byte, .slot 8 (.v .int)], [(22, 41)], []⟩)], [(1, ⟨[.slot 16 (.v .bool)], [(9, 15)], []⟩)], []⟩
noncomputable def C130 : Cx := ⟨Tryz.prog, tnT, fun f => lookC f [(160, ci160), (161, ci161)], 49⟩
noncomputable def ci130 : CInfo := ⟨(plains 2), TyTup [.sl .byte, .sl .byte], TyTup [.sl .byte], decTup [.sl .byte, .sl .byte], fun x => some ((fun (a0 : List UInt8) (a1 : List UInt8) => hmac a0 a1) x.1 x.2), flatTup [.sl .byte], [(false, 1)], [0]⟩
theorem e130 (x : TyTup [.sl .byte, .sl .byte]) : evalF C130 Tryz.f130 (Tryz.f130.body.getD .skip) an130 (plains 2) [0] [(false, 1)] [.sl .byte] (encTup [.sl .byte, .sl .byte] x) = spec_Hmac.raw x.1 x.2 := by kernel_rfl
theorem c130 : Contract Tryz.prog 130 ci130 :=
  evalF_ok (C := C130) (tnOk_of tn_mixed tn_ok _ _) (phi_cons c160 (phi_cons c161 phi_nil)) Tryz.func130 (by kernel_rfl : Tryz.f130.body = some (Tryz.f130.body.getD .skip)) (by kernel_rfl) (by kernel_rfl) an130 (plains 2) [0] [(false, 1)] [.sl .byte, .sl .byte] [.sl .byte] (fun x => some ((fun (a0 : List UInt8) (a1 : List UInt8) => hmac a0 a1) x.1 x.2)) rfl (by kernel_rfl)
    fun x r hb h => (e130 x).trans ((spec_Hmac.ok hb).trans h)

def an77 : An := ⟨[], [], [], [(1, ⟨[.slot 13 (.v .bool)], [(5, 12)], []⟩)], []⟩
noncomputable def C77 : Cx := ⟨Tryz.prog, tnT, fun f => lookC f [(37, ci37), (130, ci130), (131, ci131)], 24⟩
noncomputable def ci77 : CInfo := ⟨(plains 2), TyTup [.sl .byte, .v .int], TyTup [.sl .byte], decTup [.sl .byte, .v .int], fun x => some ((fun (a0 : List UInt8) (a1 : Int) => diceAt a0 a1) x.1 x.2), flatTup [.sl .byte], [(false, 1)], [0]⟩
theorem e77 (x : TyTup [.sl .byte, .v .int]) : evalF C77 Tryz.f77 (Tryz.f77.body.getD .skip) an77 (plains 2) [0] [(false, 1)] [.sl .byte] (encTup [.sl .byte, .v .int] x) = spec_DiceAt.raw x.1 x.2 := by kernel_rfl
theorem c77 : Contract Tryz.prog 77 ci77 :=
  evalF_ok (C := C77) (tnOk_of tn_mixed tn_ok _ _) (phi_cons c37 (phi_cons c130 (phi_cons c131 phi_nil))) Tryz.func77 (by kernel_rfl : Tryz.f77.body = some (Tryz.f77.body.getD .skip)) (by kernel_rfl) (by kernel_rfl) an77 (plains 2) [0] [(false, 1)] [.sl .byte, .v .int] [.sl .byte] (fun x => some ((fun (a0 : List UInt8) (a1 : Int) => diceAt a0 a1) x.1 x.2)) rfl (by kernel_rfl)
    fun x r hb h => (e77 x).trans ((spec_DiceAt.ok hb).trans h)

def an29 : An := ⟨[], [(0, ⟨[], [(4, 4), (7, 7), (93, 112)], []⟩)], [(10, ⟨[.slot 7 (.v .int)], [(4, 4), (93, 112)], []⟩)], [(1, ⟨[.slot 20 (.v .bool)], [(8, 19)], []⟩), (5, ⟨[.slot 53 (.v .bool)], [(33, 52)], []⟩), (7, ⟨[.slot 92 (.v .bool)], [(54, 91)], []⟩)], []⟩
noncomputable def C29 : Cx := ⟨Tryz.prog, tnT, fun f => lookC f [(12, ci12), (37, ci37), (63, ci63), (65, ci65), (67, ci67), (72, ci72), (77, ci77)], 113⟩
noncomputable def ci29 : CInfo := ⟨(plains 2), TyTup [.v .World, .v .int], TyTup [.v .bool], decTup [.v .World, .v .int], fun x => (fun (a0 : G.World) (a1 : Int) => canDialO a0 a1) x.1 x.2, flatTup [.v .bool], [(false, 1)], []⟩
theorem e29 (x : TyTup [.v .World, .v .int]) : evalF C29 Tryz.f29 (Tryz.f29.body.getD .skip) an29 (plains 2) [] [(false, 1)] [.v .bool] (encTup [.v .World, .v .int] x) = spec_CanDial.raw x.1 x.2 := by kernel_rfl
theorem c29 : Contract Tryz.prog 29 ci29 :=
  evalF_ok (C := C29) (tnOk_of tn_mixed tn_ok _ _) (phi_cons c12 (phi_cons c37 (phi_cons c63 (phi_cons c65 (phi_cons c67 (phi_cons c72 (phi_cons c77 phi_nil))))))) Tryz.func29 (by kernel_rfl : Tryz.f29.body = some (Tryz.f29.body.getD .skip)) (by kernel_rfl) (by kernel_rfl) an29 (plains 2) [] [(false, 1)] [.v .World, .v .int] [.v .bool] (fun x => (fun (a0 : G.World) (a1 : Int) => canDialO a0 a1) x.1 x.2) rfl (by kernel_rfl)
    fun x r hb h => (e29 x).trans (spec_CanDial.ok hb h)

def an68 : An := ⟨[], [(0, ⟨[], [(4, 4), (6, 6), (13, 23)], []⟩)], [(4, ⟨[.slot 13 (.v .int)], [(4, 4), (6, 6), (14, 23)], []⟩)], [], []⟩
noncomputable def C68 : Cx := ⟨Tryz.prog, tnT, fun f => lookC f [(74, ci74)], 24⟩
noncomputable def ci68 : CInfo := ⟨(plains 2), TyTup [.v .World, .v .Addr], TyTup [.v .int], decTup [.v .World, .v .Addr], fun x => (fun (a0 : G.World) (a1 : G.Addr) => partyAtO a0 a1) x.1 x.2, flatTup [.v .int], [(false, 1)], []⟩
theorem e68 (x : TyTup [.v .World, .v .Addr]) : evalF C68 Tryz.f68 (Tryz.f68.body.getD .skip) an68 (plains 2) [] [(false, 1)] [.v .int] (encTup [.v .World, .v .Addr] x) = impl_PartyAt.raw x.1 x.2 := by kernel_rfl
theorem c68 : Contract Tryz.prog 68 ci68 :=
  evalF_ok (C := C68) (tnOk_of tn_mixed tn_ok _ _) (phi_cons c74 phi_nil) Tryz.func68 (by kernel_rfl : Tryz.f68.body = some (Tryz.f68.body.getD .skip)) (by kernel_rfl) (by kernel_rfl) an68 (plains 2) [] [(false, 1)] [.v .World, .v .Addr] [.v .int] (fun x => (fun (a0 : G.World) (a1 : G.Addr) => partyAtO a0 a1) x.1 x.2) rfl (by kernel_rfl)
    fun x r hb h => (e68 x).trans (impl_PartyAt.ok hb h)

def an134 : An := ⟨[], [(0, ⟨[.own 7 .byte], [(8, 8), (21, 33)], []⟩)], [(5, ⟨[.own 7 .byte, .slot 8 (.v .int)], [(21, 33)], []⟩)], [(2, ⟨[.slot 17 (.v .bool)], [(12, 16)], []⟩)], []⟩
noncomputable def C134 : Cx := ⟨Tryz.prog, tnT, fun f => lookC f [], 35⟩
noncomputable def ci134 : CInfo := ⟨(plains 3), TyTup [.sl .byte, .v .int, .v .int], TyTup [.sl .byte], decTup [.sl .byte, .v .int, .v .int], fun x => (fun (a0 : List UInt8) (a1 : Int) (a2 : Int) => putNO a0 a1 a2) x.1 x.2.1 x.2.2, flatTup [.sl .byte], [(false, 1)], [0]⟩
theorem e134 (x : TyTup [.sl .byte, .v .int, .v .int]) : evalF C134 Tryz.f134 (Tryz.f134.body.getD .skip) an134 (plains 3) [0] [(false, 1)] [.sl .byte] (encTup [.sl .byte, .v .int, .v .int] x) = impl_PutN.raw x.1 x.2.1 x.2.2 := by kernel_rfl
theorem c134 : Contract Tryz.prog 134 ci134 :=
  evalF_ok (C := C134) (tnOk_of tn_mixed tn_ok _ _) phi_nil Tryz.func134 (by kernel_rfl : Tryz.f134.body = some (Tryz.f134.body.getD .skip)) (by kernel_rfl) (by kernel_rfl) an134 (plains 3) [0] [(false, 1)] [.sl .byte, .v .int, .v .int] [.sl .byte] (fun x => (fun (a0 : List UInt8) (a1 : Int) (a2 : Int) => putNO a0 a1 a2) x.1 x.2.1 x.2.2) rfl (by kernel_rfl)
    fun x r hb h => (e134 x).trans (impl_PutN.ok hb h)

def an132 : An := ⟨[], [], [], [], []⟩
noncomputable def C132 : Cx := ⟨Tryz.prog, tnT, fun f => lookC f [], 6⟩
noncomputable def ci132 : CInfo := ⟨(plains 1), TyTup [.sl .byte], TyTup [.sl .byte], decTup [.sl .byte], fun x => (fun (a0 : List UInt8) => cloneO a0) x, flatTup [.sl .byte], [(false, 1)], [0]⟩
theorem e132 (x : TyTup [.sl .byte]) : evalF C132 Tryz.f132 (Tryz.f132.body.getD .skip) an132 (plains 1) [0] [(false, 1)] [.sl .byte] (encTup [.sl .byte] x) = impl_clone.raw x := by kernel_rfl
theorem c132 : Contract Tryz.prog 132 ci132 :=
  evalF_ok (C := C132) (tnOk_of tn_mixed tn_ok _ _) phi_nil Tryz.func132 (by kernel_rfl : Tryz.f132.body = some (Tryz.f132.body.getD .skip)) (by kernel_rfl) (by kernel_rfl) an132 (plains 1) [0] [(false, 1)] [.sl .byte] [.sl .byte] (fun x => (fun (a0 : List UInt8) => cloneO a0) x) rfl (by kernel_rfl)
    fun x r hb h => (e132 x).trans (impl_clone.ok hb h)

def an202 : An := ⟨[], [], [], [], []⟩
noncomputable def C202 : Cx := ⟨Tryz.prog, tnT, fun f => lookC f [], 2⟩
noncomputable def ci202 : CInfo := ⟨(plains 0), TyTup [], TyTup [.sl .int], decTup [], fun x => some (start), flatTup [.sl .int], [(false, 1)], [0]⟩
theorem e202 (x : TyTup []) : evalF C202 Tryz.f202 (Tryz.f202.body.getD .skip) an202 (plains 0) [0] [(false, 1)] [.sl .int] (encTup [] x) = impl_Start.raw := by kernel_rfl
theorem c202 : Contract Tryz.prog 202 ci202 :=
  evalF_ok (C := C202) (tnOk_of tn_mixed tn_ok _ _) phi_nil Tryz.func202 (by kernel_rfl : Tryz.f202.body = some (Tryz.f202.body.getD .skip)) (by kernel_rfl) (by kernel_rfl) an202 (plains 0) [0] [(false, 1)] [] [.sl .int] (fun x => some (start)) rfl (by kernel_rfl)
    fun x r hb h => (e202 x).trans ((impl_Start.ok hb).trans h)

def an184 : An := ⟨[], [], [], [], []⟩
noncomputable def C184 : Cx := ⟨Tryz.prog, tnT, fun f => lookC f [(202, ci202)], 3⟩
noncomputable def ci184 : CInfo := ⟨(plains 0), TyTup [], TyTup [.v .Hash], decTup [], fun x => some (hashNew), flatTup [.v .Hash], [(true, 3)], [0, 1]⟩
theorem e184 (x : TyTup []) : evalF C184 Tryz.f184 (Tryz.f184.body.getD .skip) an184 (plains 0) [0, 1] [(true, 3)] [.v .Hash] (encTup [] x) = impl_HashNew.raw := by kernel_rfl
theorem c184 : Contract Tryz.prog 184 ci184 :=
  evalF_ok (C := C184) (tnOk_of tn_mixed tn_ok _ _) (phi_cons c202 phi_nil) Tryz.func184 (by kernel_rfl : Tryz.f184.body = some (Tryz.f184.body.getD .skip)) (by kernel_rfl) (by kernel_rfl) an184 (plains 0) [0, 1] [(true, 3)] [] [.v .Hash] (fun x => some (hashNew)) rfl (by kernel_rfl)
    fun x r hb h => (e184 x).trans ((impl_HashNew.ok hb).trans h)

def an198 : An := ⟨[], [], [], [(1, ⟨[.slot 2 (.v .bool)], [(3, 19)], []⟩)], []⟩
noncomputable def C198 : Cx := ⟨Tryz.prog, tnT, fun f => lookC f [(50, ci50), (190, ci190)], 20⟩
noncomputable def ci198 : CInfo := ⟨(plains 1), TyTup [.v .Hash], TyTup [.v .bool], decTup [.v .Hash], fun x => some ((fun (a0 : G.Hash) => hashOk a0) x), flatTup [.v .bool], [(false, 1)], []⟩
theorem e198 (x : TyTup [.v .Hash]) : evalF C198 Tryz.f198 (Tryz.f198.body.getD .skip) an198 (plains 1) [] [(false, 1)] [.v .bool] (encTup [.v .Hash] x) = impl_HashOk.raw x := by kernel_rfl
theorem c198 : Contract Tryz.prog 198 ci198 :=
  evalF_ok (C := C198) (tnOk_of tn_mixed tn_ok _ _) (phi_cons c50 (phi_cons c190 phi_nil)) Tryz.func198 (by kernel_rfl : Tryz.f198.body = some (Tryz.f198.body.getD .skip)) (by kernel_rfl) (by kernel_rfl) an198 (plains 1) [] [(false, 1)] [.v .Hash] [.v .bool] (fun x => some ((fun (a0 : G.Hash) => hashOk a0) x)) rfl (by kernel_rfl)
    fun x r hb h => (e198 x).trans ((impl_HashOk.ok hb).trans h)

def an164 : An := ⟨[], [(0, ⟨[.own 3 .byte], [(5, 5), (9, 16)], []⟩)], [(3, ⟨[.own 3 .byte, .slot 9 (.v .int)], [(5, 5), (10, 16)], []⟩)], [], []⟩
noncomputable def C164 : Cx := ⟨Tryz.prog, tnT, fun f => lookC f [], 18⟩
noncomputable def ci164 : CInfo := ⟨(plains 1), TyTup [.sl .bs], TyTup [.sl .byte], decTup [.sl .bs], fun x => (fun (a0 : List (List UInt8)) => joinedO a0) x, flatTup [.sl .byte], [(false, 1)], [0]⟩
theorem e164 (x : TyTup [.sl .bs]) : evalF C164 Tryz.f164 (Tryz.f164.body.getD .skip) an164 (plains 1) [0] [(false, 1)] [.sl .byte] (encTup [.sl .bs] x) = impl_joined.raw x := by kernel_rfl
theorem c164 : Contract Tryz.prog 164 ci164 :=
  evalF_ok (C := C164) (tnOk_of tn_mixed tn_ok _ _) phi_nil Tryz.func164 (by kernel_rfl : Tryz.f164.body = some (Tryz.f164.body.getD .skip)) (by kernel_rfl) (by kernel_rfl) an164 (plains 1) [0] [(false, 1)] [.sl .bs] [.sl .byte] (fun x => (fun (a0 : List (List UInt8)) => joinedO a0) x) rfl (by kernel_rfl)
    fun x r hb h => (e164 x).trans (impl_joined.ok hb h)

def an219 : An := ⟨[], [], [], [(1, ⟨[.slot 27 (.v .bool)], [(8, 26)], []⟩)], []⟩
noncomputable def C219 : Cx := ⟨Tryz.prog, tnT, fun f => lookC f [], 36⟩
noncomputable def ci219 : CInfo := ⟨(plains 3), TyTup [.sl .byte, .v .int, .v .int], TyTup [.sl .byte, .v .bool], decTup [.sl .byte, .v .int, .v .int], fun x => (fun (a0 : List UInt8) (a1 : Int) (a2 : Int) => cutO a0 a1 a2) x.1 x.2.1 x.2.2, flatTup [.sl .byte, .v .bool], [(false, 1), (false, 1)], [0]⟩
theorem e219 (x : TyTup [.sl .byte, .v .int, .v .int]) : evalF C219 Tryz.f219 (Tryz.f219.body.getD .skip) an219 (plains 3) [0] [(false, 1), (false, 1)] [.sl .byte, .v .bool] (encTup [.sl .byte, .v .int, .v .int] x) = impl_Cut.raw x.1 x.2.1 x.2.2 := by kernel_rfl
theorem c219 : Contract Tryz.prog 219 ci219 :=
  evalF_ok (C := C219) (tnOk_of tn_mixed tn_ok _ _) phi_nil Tryz.func219 (by kernel_rfl : Tryz.f219.body = some (Tryz.f219.body.getD .skip)) (by kernel_rfl) (by kernel_rfl) an219 (plains 3) [0] [(false, 1), (false, 1)] [.sl .byte, .v .int, .v .int] [.sl .byte, .v .bool] (fun x => (fun (a0 : List UInt8) (a1 : Int) (a2 : Int) => cutO a0 a1 a2) x.1 x.2.1 x.2.2) rfl (by kernel_rfl)
    fun x r hb h => (e219 x).trans (impl_Cut.ok hb h)

def an218 : An := ⟨[], [(0, ⟨[.slot 11 (.v .int)], [(13, 13), (31, 40)], []⟩)], [(8, ⟨[.slot 11 (.v .int), .slot 31 (.v .int)], [(13, 13), (32, 40)], []⟩)], [(1, ⟨[.slot 19 (.v .bool)], [(14, 18)], []⟩)], []⟩
noncomputable def C218 : Cx := ⟨Tryz.prog, tnT, fun f => lookC f [(219, ci219)], 45⟩
noncomputable def ci218 : CInfo := ⟨(plains 3), TyTup [.sl .byte, .v .int, .v .int], TyTup [.v .int, .v .int, .v .bool], decTup [.sl .byte, .v .int, .v .int], fun x => (fun (a0 : List UInt8) (a1 : Int) (a2 : Int) => getNO a0 a1 a2) x.1 x.2.1 x.2.2, flatTup [.v .int, .v .int, .v .bool], [(false, 1), (false, 1), (false, 1)], []⟩
theorem e218 (x : TyTup [.sl .byte, .v .int, .v .int]) : evalF C218 Tryz.f218 (Tryz.f218.body.getD .skip) an218 (plains 3) [] [(false, 1), (false, 1), (false, 1)] [.v .int, .v .int, .v .bool] (encTup [.sl .byte, .v .int, .v .int] x) = impl_GetN.raw x.1 x.2.1 x.2.2 := by kernel_rfl
theorem c218 : Contract Tryz.prog 218 ci218 :=
  evalF_ok (C := C218) (tnOk_of tn_mixed tn_ok _ _) (phi_cons c219 phi_nil) Tryz.func218 (by kernel_rfl : Tryz.f218.body = some (Tryz.f218.body.getD .skip)) (by kernel_rfl) (by kernel_rfl) an218 (plains 3) [] [(false, 1), (false, 1), (false, 1)] [.sl .byte, .v .int, .v .int] [.v .int, .v .int, .v .bool] (fun x => (fun (a0 : List UInt8) (a1 : Int) (a2 : Int) => getNO a0 a1 a2) x.1 x.2.1 x.2.2) rfl (by kernel_rfl)
    fun x r hb h => (e218 x).trans (impl_GetN.ok hb h)

def an215 : An := ⟨[], [], [], [(2, ⟨[.slot 12 (.v .bool)], [(7, 11)], []⟩)], []⟩
noncomputable def C215 : Cx := ⟨Tryz.prog, tnT, fun f => lookC f [], 23⟩
noncomputable def ci215 : CInfo := ⟨(plains 2), TyTup [.v .int, .v .int], TyTup [.v .int], decTup [.v .int, .v .int], fun x => (fun (a0 : Int) (a1 : Int) => rotO a0 a1) x.1 x.2, flatTup [.v .int], [(false, 1)], []⟩
theorem e215 (x : TyTup [.v .int, .v .int]) : evalF C215 Tryz.f215 (Tryz.f215.body.getD .skip) an215 (plains 2) [] [(false, 1)] [.v .int] (encTup [.v .int, .v .int] x) = impl_Rot.raw x.1 x.2 := by kernel_rfl
theorem c215 : Contract Tryz.prog 215 ci215 :=
  evalF_ok (C := C215) (tnOk_of tn_mixed tn_ok _ _) phi_nil Tryz.func215 (by kernel_rfl : Tryz.f215.body = some (Tryz.f215.body.getD .skip)) (by kernel_rfl) (by kernel_rfl) an215 (plains 2) [] [(false, 1)] [.v .int, .v .int] [.v .int] (fun x => (fun (a0 : Int) (a1 : Int) => rotO a0 a1) x.1 x.2) rfl (by kernel_rfl)
    fun x r hb h => (e215 x).trans (impl_Rot.ok hb h)

def an214 : An := ⟨[], [(0, ⟨[.own 3 .int], [(4, 4), (14, 28)], []⟩), (2, ⟨[.own 3 .int], [(5, 9), (29, 77)], []⟩)], [(5, ⟨[.slot 4 (.v .int), .own 3 .int], [(14, 28)], []⟩), (9, ⟨[.slot 5 (.v .int), .own 3 .int], [(6, 9), (29, 77)], []⟩)], [], []⟩
noncomputable def C214 : Cx := ⟨Tryz.prog, tnT, fun f => lookC f [(215, ci215), (218, ci218)], 79⟩
noncomputable def ci214 : CInfo := ⟨(plains 1), TyTup [.sl .byte], TyTup [.sl .int], decTup [.sl .byte], fun x => (fun (a0 : List UInt8) => scheduleO a0) x, flatTup [.sl .int], [(false, 1)], [0]⟩
theorem e214 (x : TyTup [.sl .byte]) : evalF C214 Tryz.f214 (Tryz.f214.body.getD .skip) an214 (plains 1) [0] [(false, 1)] [.sl .int] (encTup [.sl .byte] x) = impl_Schedule.raw x := by kernel_rfl
theorem c214 : Contract Tryz.prog 214 ci214 :=
  evalF_ok (C := C214) (tnOk_of tn_mixed tn_ok _ _) (phi_cons c215 (phi_cons c218 phi_nil)) Tryz.func214 (by kernel_rfl : Tryz.f214.body = some (Tryz.f214.body.getD .skip)) (by kernel_rfl) (by kernel_rfl) an214 (plains 1) [0] [(false, 1)] [.sl .byte] [.sl .int] (fun x => (fun (a0 : List UInt8) => scheduleO a0) x) rfl (by kernel_rfl)
    fun x r hb h => (e214 x).trans (impl_Schedule.ok hb h)

def an216 : An := ⟨[], [], [], [(1, ⟨[.slot 9 (.v .bool)], [(4, 8)], []⟩)], []⟩
noncomputable def C216 : Cx := ⟨Tryz.prog, tnT, fun f => lookC f [], 14⟩
noncomputable def ci216 : CInfo := ⟨(plains 1), TyTup [.v .int], TyTup [.v .int], decTup [.v .int], fun x => some ((fun (a0 : Int) => roundWord a0) x), flatTup [.v .int], [(false, 1)], []⟩
theorem e216 (x : TyTup [.v .int]) : evalF C216 Tryz.f216 (Tryz.f216.body.getD .skip) an216 (plains 1) [] [(false, 1)] [.v .int] (encTup [.v .int] x) = impl_RoundWord.raw x := by kernel_rfl
theorem c216 : Contract Tryz.prog 216 ci216 :=
  evalF_ok (C := C216) (tnOk_of tn_mixed tn_ok _ _) phi_nil Tryz.func216 (by kernel_rfl : Tryz.f216.body = some (Tryz.f216.body.getD .skip)) (by kernel_rfl) (by kernel_rfl) an216 (plains 1) [] [(false, 1)] [.v .int] [.v .int] (fun x => some ((fun (a0 : Int) => roundWord a0) x)) rfl (by kernel_rfl)
    fun x r hb h => (e216 x).trans ((impl_RoundWord.ok hb).trans h)

def an217 : An := ⟨[], [], [], [], []⟩
noncomputable def C217 : Cx := ⟨Tryz.prog, tnT, fun f => lookC f [], 9⟩
noncomputable def ci217 : CInfo := ⟨(plains 2), TyTup [.v .int, .v .int], TyTup [.v .int], decTup [.v .int, .v .int], fun x => some ((fun (a0 : Int) (a1 : Int) => add32 a0 a1) x.1 x.2), flatTup [.v .int], [(false, 1)], []⟩
theorem e217 (x : TyTup [.v .int, .v .int]) : evalF C217 Tryz.f217 (Tryz.f217.body.getD .skip) an217 (plains 2) [] [(false, 1)] [.v .int] (encTup [.v .int, .v .int] x) = impl_Add32.raw x.1 x.2 := by kernel_rfl
theorem c217 : Contract Tryz.prog 217 ci217 :=
  evalF_ok (C := C217) (tnOk_of tn_mixed tn_ok _ _) phi_nil Tryz.func217 (by kernel_rfl : Tryz.f217.body = some (Tryz.f217.body.getD .skip)) (by kernel_rfl) (by kernel_rfl) an217 (plains 2) [] [(false, 1)] [.v .int, .v .int] [.v .int] (fun x => some ((fun (a0 : Int) (a1 : Int) => add32 a0 a1) x.1 x.2)) rfl (by kernel_rfl)
    fun x r hb h => (e217 x).trans ((impl_Add32.ok hb).trans h)

def an210 : An := ⟨[], [(0, ⟨[.slot 7 (.v .int), .slot 8 (.v .int), .slot 9 (.v .int), .slot 10 (.v .int), .slot 11 (.v .int), .slot 12 (.v .int), .slot 13 (.v .int), .slot 14 (.v .int)], [(15, 19), (60, 124)], []⟩), (2, ⟨[.own 5 .int], [(20, 21), (135, 149)], []⟩)], [(7, ⟨[.slot 7 (.v .int), .slot 8 (.v .int), .slot 9 (.v .int), .slot 10 (.v .int), .slot 11 (.v .int), .slot 12 (.v .int), .slot 13 (.v .int), .slot 14 (.v .int), .slot 15 (.v .int)], [(16, 19), (60, 124)], []⟩), (16, ⟨[.slot 135 (.v .int), .own 5 .int], [(20, 21), (136, 149)], []⟩)], [(2, ⟨[.slot 32 (.v .bool)], [(25, 31)], []⟩)], []⟩
noncomputable def C210 : Cx := ⟨Tryz.prog, tnT, fun f => lookC f [(190, ci190), (214, ci214), (215, ci215), (216, ci216), (217, ci217)], 151⟩
noncomputable def ci210 : CInfo := ⟨(plains 2), TyTup [.sl .int, .sl .byte], TyTup [.sl .int], decTup [.sl .int, .sl .byte], fun x => (fun (a0 : List Int) (a1 : List UInt8) => compressO a0 a1) x.1 x.2, flatTup [.sl .int], [(false, 1)], [0]⟩
theorem e210 (x : TyTup [.sl .int, .sl .byte]) : evalF C210 Tryz.f210 (Tryz.f210.body.getD .skip) an210 (plains 2) [0] [(false, 1)] [.sl .int] (encTup [.sl .int, .sl .byte] x) = impl_Compress.raw x.1 x.2 := by kernel_rfl
theorem c210 : Contract Tryz.prog 210 ci210 :=
  evalF_ok (C := C210) (tnOk_of tn_mixed tn_ok _ _) (phi_cons c190 (phi_cons c214 (phi_cons c215 (phi_cons c216 (phi_cons c217 phi_nil))))) Tryz.func210 (by kernel_rfl : Tryz.f210.body = some (Tryz.f210.body.getD .skip)) (by kernel_rfl) (by kernel_rfl) an210 (plains 2) [0] [(false, 1)] [.sl .int, .sl .byte] [.sl .int] (fun x => (fun (a0 : List Int) (a1 : List UInt8) => compressO a0 a1) x.1 x.2) rfl (by kernel_rfl)
    fun x r hb h => (e210 x).trans (impl_Compress.ok hb h)

def an199 : An := ⟨[], [(0, ⟨[.slot 0 (.sl .int), .slot 1 (.sl .byte)], [(6, 14)], []⟩)], [(1, ⟨[.slot 0 (.sl .int), .slot 1 (.sl .byte)], [(6, 14)], []⟩)], [], []⟩
noncomputable def C199 : Cx := ⟨Tryz.prog, tnT, fun f => lookC f [(210, ci210)], 17⟩
noncomputable def ci199 : CInfo := ⟨(plains 2), TyTup [.sl .int, .sl .byte], TyTup [.sl .int, .sl .byte], decTup [.sl .int, .sl .byte], fun x => (fun (a0 : List Int) (a1 : List UInt8) => allO a0 a1) x.1 x.2, flatTup [.sl .int, .sl .byte], [(false, 1), (false, 1)], []⟩
theorem e199 (x : TyTup [.sl .int, .sl .byte]) : evalF C199 Tryz.f199 (Tryz.f199.body.getD .skip) an199 (plains 2) [] [(false, 1), (false, 1)] [.sl .int, .sl .byte] (encTup [.sl .int, .sl .byte] x) = impl_compressAll.raw x.1 x.2 := by kernel_rfl
theorem c199 : Contract Tryz.prog 199 ci199 :=
  evalF_ok (C := C199) (tnOk_of tn_mixed tn_ok _ _) (phi_cons c210 phi_nil) Tryz.func199 (by kernel_rfl : Tryz.f199.body = some (Tryz.f199.body.getD .skip)) (by kernel_rfl) (by kernel_rfl) an199 (plains 2) [] [(false, 1), (false, 1)] [.sl .int, .sl .byte] [.sl .int, .sl .byte] (fun x => (fun (a0 : List Int) (a1 : List UInt8) => allO a0 a1) x.1 x.2) rfl (by kernel_rfl)
    fun x r hb h => (e199 x).trans (impl_compressAll.ok hb h)

def an183 : An := ⟨[], [], [], [(1, ⟨[.slot 17 (.v .bool)], [(7, 16)], []⟩)], []⟩
noncomputable def C183 : Cx := ⟨Tryz.prog, tnT, fun f => lookC f [(132, ci132), (164, ci164), (198, ci198), (199, ci199)], 50⟩
noncomputable def ci183 : CInfo := ⟨(plains 2), TyTup [.v .Hash, .sl .byte], TyTup [.v .Hash], decTup [.v .Hash, .sl .byte], fun x => (fun (a0 : G.Hash) (a1 : List UInt8) => hashAddO a0 a1) x.1 x.2, flatTup [.v .Hash], [(true, 3)], [0, 1]⟩
theorem e183 (x : TyTup [.v .Hash, .sl .byte]) : evalF C183 Tryz.f183 (Tryz.f183.body.getD .skip) an183 (plains 2) [0, 1] [(true, 3)] [.v .Hash] (encTup [.v .Hash, .sl .byte] x) = impl_HashAdd.raw x.1 x.2 := by kernel_rfl
theorem c183 : Contract Tryz.prog 183 ci183 :=
  evalF_ok (C := C183) (tnOk_of tn_mixed tn_ok _ _) (phi_cons c132 (phi_cons c164 (phi_cons c198 (phi_cons c199 phi_nil)))) Tryz.func183 (by kernel_rfl : Tryz.f183.body = some (Tryz.f183.body.getD .skip)) (by kernel_rfl) (by kernel_rfl) an183 (plains 2) [0, 1] [(true, 3)] [.v .Hash, .sl .byte] [.v .Hash] (fun x => (fun (a0 : G.Hash) (a1 : List UInt8) => hashAddO a0 a1) x.1 x.2) rfl (by kernel_rfl)
    fun x r hb h => (e183 x).trans (impl_HashAdd.ok hb h)

def an200 : An := ⟨[], [(0, ⟨[.own 3 .byte], [(8, 17)], []⟩)], [(4, ⟨[.own 3 .byte], [(8, 17)], []⟩)], [], []⟩
noncomputable def C200 : Cx := ⟨Tryz.prog, tnT, fun f => lookC f [(50, ci50), (134, ci134)], 25⟩
noncomputable def ci200 : CInfo := ⟨(plains 1), TyTup [.v .int], TyTup [.sl .byte], decTup [.v .int], fun x => (fun (a0 : Int) => padO a0) x, flatTup [.sl .byte], [(false, 1)], [0]⟩
theorem e200 (x : TyTup [.v .int]) : evalF C200 Tryz.f200 (Tryz.f200.body.getD .skip) an200 (plains 1) [0] [(false, 1)] [.sl .byte] (encTup [.v .int] x) = impl_Pad.raw x := by kernel_rfl
theorem c200 : Contract Tryz.prog 200 ci200 :=
  evalF_ok (C := C200) (tnOk_of tn_mixed tn_ok _ _) (phi_cons c50 (phi_cons c134 phi_nil)) Tryz.func200 (by kernel_rfl : Tryz.f200.body = some (Tryz.f200.body.getD .skip)) (by kernel_rfl) (by kernel_rfl) an200 (plains 1) [0] [(false, 1)] [.v .int] [.sl .byte] (fun x => (fun (a0 : Int) => padO a0) x) rfl (by kernel_rfl)
    fun x r hb h => (e200 x).trans (impl_Pad.ok hb h)

def an201 : An := ⟨[], [(0, ⟨[.own 3 .byte], [(5, 5), (9, 16)], []⟩)], [(3, ⟨[.own 3 .byte, .slot 9 (.v .int)], [(5, 5), (10, 16)], []⟩)], [], []⟩
noncomputable def C201 : Cx := ⟨Tryz.prog, tnT, fun f => lookC f [(134, ci134)], 18⟩
noncomputable def ci201 : CInfo := ⟨(plains 1), TyTup [.sl .int], TyTup [.sl .byte], decTup [.sl .int], fun x => (fun (a0 : List Int) => wordBytesO a0) x, flatTup [.sl .byte], [(false, 1)], [0]⟩
theorem e201 (x : TyTup [.sl .int]) : evalF C201 Tryz.f201 (Tryz.f201.body.getD .skip) an201 (plains 1) [0] [(false, 1)] [.sl .byte] (encTup [.sl .int] x) = impl_wordBytes.raw x := by kernel_rfl
theorem c201 : Contract Tryz.prog 201 ci201 :=
  evalF_ok (C := C201) (tnOk_of tn_mixed tn_ok _ _) (phi_cons c134 phi_nil) Tryz.func201 (by kernel_rfl : Tryz.f201.body = some (Tryz.f201.body.getD .skip)) (by kernel_rfl) (by kernel_rfl) an201 (plains 1) [0] [(false, 1)] [.sl .int] [.sl .byte] (fun x => (fun (a0 : List Int) => wordBytesO a0) x) rfl (by kernel_rfl)
    fun x r hb h => (e201 x).trans (impl_wordBytes.ok hb h)

def an182 : An := ⟨[], [], [], [], []⟩
noncomputable def C182 : Cx := ⟨Tryz.prog, tnT, fun f => lookC f [(164, ci164), (198, ci198), (199, ci199), (200, ci200), (201, ci201)], 23⟩
noncomputable def ci182 : CInfo := ⟨(plains 1), TyTup [.v .Hash], TyTup [.sl .byte], decTup [.v .Hash], fun x => (fun (a0 : G.Hash) => hashEndO a0) x, flatTup [.sl .byte], [(false, 1)], [0]⟩
theorem e182 (x : TyTup [.v .Hash]) : evalF C182 Tryz.f182 (Tryz.f182.body.getD .skip) an182 (plains 1) [0] [(false, 1)] [.sl .byte] (encTup [.v .Hash] x) = impl_HashEnd.raw x := by kernel_rfl
theorem c182 : Contract Tryz.prog 182 ci182 :=
  evalF_ok (C := C182) (tnOk_of tn_mixed tn_ok _ _) (phi_cons c164 (phi_cons c198 (phi_cons c199 (phi_cons c200 (phi_cons c201 phi_nil))))) Tryz.func182 (by kernel_rfl : Tryz.f182.body = some (Tryz.f182.body.getD .skip)) (by kernel_rfl) (by kernel_rfl) an182 (plains 1) [0] [(false, 1)] [.v .Hash] [.sl .byte] (fun x => (fun (a0 : G.Hash) => hashEndO a0) x) rfl (by kernel_rfl)
    fun x r hb h => (e182 x).trans (impl_HashEnd.ok hb h)

def an163 : An := ⟨[], [], [], [], []⟩
noncomputable def C163 : Cx := ⟨Tryz.prog, tnT, fun f => lookC f [(182, ci182), (183, ci183), (184, ci184)], 10⟩
noncomputable def ci163 : CInfo := ⟨(plains 1), TyTup [.sl .byte], TyTup [.sl .byte], decTup [.sl .byte], fun x => some ((fun (a0 : List UInt8) => sha a0) x), flatTup [.sl .byte], [(false, 1)], [0]⟩
theorem e163 (x : TyTup [.sl .byte]) : evalF C163 Tryz.f163 (Tryz.f163.body.getD .skip) an163 (plains 1) [0] [(false, 1)] [.sl .byte] (encTup [.sl .byte] x) = impl_Sha.raw x := by kernel_rfl
theorem c163 : Contract Tryz.prog 163 ci163 :=
  evalF_ok (C := C163) (tnOk_of tn_mixed tn_ok _ _) (phi_cons c182 (phi_cons c183 (phi_cons c184 phi_nil))) Tryz.func163 (by kernel_rfl : Tryz.f163.body = some (Tryz.f163.body.getD .skip)) (by kernel_rfl) (by kernel_rfl) an163 (plains 1) [0] [(false, 1)] [.sl .byte] [.sl .byte] (fun x => some ((fun (a0 : List UInt8) => sha a0) x)) rfl (by kernel_rfl)
    fun x r hb h => (e163 x).trans ((impl_Sha.ok hb).trans h)

def an162 : An := ⟨[(720902, ⟨[.own 3 .byte], [(12, 13)], []⟩)], [(0, ⟨[.own 3 .byte], [(14, 19)], []⟩)], [(6, ⟨[.own 3 .byte], [(14, 19)], []⟩)], [], []⟩
noncomputable def C162 : Cx := ⟨Tryz.prog, tnT, fun f => lookC f [(132, ci132), (163, ci163)], 21⟩
noncomputable def ci162 : CInfo := ⟨(plains 1), TyTup [.sl .byte], TyTup [.sl .byte], decTup [.sl .byte], fun x => some ((fun (a0 : List UInt8) => blockKey a0) x), flatTup [.sl .byte], [(false, 1)], [0]⟩
theorem e162 (x : TyTup [.sl .byte]) : evalF C162 Tryz.f162 (Tryz.f162.body.getD .skip) an162 (plains 1) [0] [(false, 1)] [.sl .byte] (encTup [.sl .byte] x) = impl_BlockKey.raw x := by kernel_rfl
theorem c162 : Contract Tryz.prog 162 ci162 :=
  evalF_ok (C := C162) (tnOk_of tn_mixed tn_ok _ _) (phi_cons c132 (phi_cons c163 phi_nil)) Tryz.func162 (by kernel_rfl : Tryz.f162.body = some (Tryz.f162.body.getD .skip)) (by kernel_rfl) (by kernel_rfl) an162 (plains 1) [0] [(false, 1)] [.sl .byte] [.sl .byte] (fun x => some ((fun (a0 : List UInt8) => blockKey a0) x)) rfl (by kernel_rfl)
    fun x r hb h => (e162 x).trans ((impl_BlockKey.ok hb).trans h)

def an165 : An := ⟨[], [(0, ⟨[.own 5 .byte], [(7, 7), (11, 21)], []⟩)], [(3, ⟨[.own 5 .byte, .slot 11 (.v .int)], [(7, 7), (12, 21)], []⟩)], [], []⟩
noncomputable def C165 : Cx := ⟨Tryz.prog, tnT, fun f => lookC f [], 23⟩
noncomputable def ci165 : CInfo := ⟨(plains 2), TyTup [.sl .byte, .v .byte], TyTup [.sl .byte], decTup [.sl .byte, .v .byte], fun x => (fun (a0 : List UInt8) (a1 : UInt8) => maskedO a0 a1) x.1 x.2, flatTup [.sl .byte], [(false, 1)], [0]⟩
theorem e165 (x : TyTup [.sl .byte, .v .byte]) : evalF C165 Tryz.f165 (Tryz.f165.body.getD .skip) an165 (plains 2) [0] [(false, 1)] [.sl .byte] (encTup [.sl .byte, .v .byte] x) = impl_masked.raw x.1 x.2 := by kernel_rfl
theorem c165 : Contract Tryz.prog 165 ci165 :=
  evalF_ok (C := C165) (tnOk_of tn_mixed tn_ok _ _) phi_nil Tryz.func165 (by kernel_rfl : Tryz.f165.body = some (Tryz.f165.body.getD .skip)) (by kernel_rfl) (by kernel_rfl) an165 (plains 2) [0] [(false, 1)] [.sl .byte, .v .byte] [.sl .byte] (fun x => (fun (a0 : List UInt8) (a1 : UInt8) => maskedO a0 a1) x.1 x.2) rfl (by kernel_rfl)
    fun x r hb h => (e165 x).trans (impl_masked.ok hb h)

def an133 : An := ⟨[], [], [], [(1, ⟨[.slot 13 (.v .bool)], [(6, 12)], []⟩)], []⟩
noncomputable def C133 : Cx := ⟨Tryz.prog, tnT, fun f => lookC f [(162, ci162), (163, ci163), (164, ci164), (165, ci165)], 27⟩
noncomputable def ci133 : CInfo := ⟨(plains 2), TyTup [.sl .byte, .sl .byte], TyTup [.sl .byte], decTup [.sl .byte, .sl .byte], fun x => some ((fun (a0 : List UInt8) (a1 : List UInt8) => hmac a0 a1) x.1 x.2), flatTup [.sl .byte], [(false, 1)], [0]⟩
theorem e133 (x : TyTup [.sl .byte, .sl .byte]) : evalF C133 Tryz.f133 (Tryz.f133.body.getD .skip) an133 (plains 2) [0] [(false, 1)] [.sl .byte] (encTup [.sl .byte, .sl .byte] x) = impl_Hmac.raw x.1 x.2 := by kernel_rfl
theorem c133 : Contract Tryz.prog 133 ci133 :=
  evalF_ok (C := C133) (tnOk_of tn_mixed tn_ok _ _) (phi_cons c162 (phi_cons c163 (phi_cons c164 (phi_cons c165 phi_nil)))) Tryz.func133 (by kernel_rfl : Tryz.f133.body = some (Tryz.f133.body.getD .skip)) (by kernel_rfl) (by kernel_rfl) an133 (plains 2) [0] [(false, 1)] [.sl .byte, .sl .byte] [.sl .byte] (fun x => some ((fun (a0 : List UInt8) (a1 : List UInt8) => hmac a0 a1) x.1 x.2)) rfl (by kernel_rfl)
    fun x r hb h => (e133 x).trans ((impl_Hmac.ok hb).trans h)

def an79 : An := ⟨[], [], [], [(1, ⟨[.slot 13 (.v .bool)], [(5, 12)], []⟩)], []⟩
noncomputable def C79 : Cx := ⟨Tryz.prog, tnT, fun f => lookC f [(50, ci50), (132, ci132), (133, ci133), (134, ci134)], 22⟩
noncomputable def ci79 : CInfo := ⟨(plains 2), TyTup [.sl .byte, .v .int], TyTup [.sl .byte], decTup [.sl .byte, .v .int], fun x => some ((fun (a0 : List UInt8) (a1 : Int) => diceAt a0 a1) x.1 x.2), flatTup [.sl .byte], [(false, 1)], [0]⟩
theorem e79 (x : TyTup [.sl .byte, .v .int]) : evalF C79 Tryz.f79 (Tryz.f79.body.getD .skip) an79 (plains 2) [0] [(false, 1)] [.sl .byte] (encTup [.sl .byte, .v .int] x) = impl_DiceAt.raw x.1 x.2 := by kernel_rfl
theorem c79 : Contract Tryz.prog 79 ci79 :=
  evalF_ok (C := C79) (tnOk_of tn_mixed tn_ok _ _) (phi_cons c50 (phi_cons c132 (phi_cons c133 (phi_cons c134 phi_nil)))) Tryz.func79 (by kernel_rfl : Tryz.f79.body = some (Tryz.f79.body.getD .skip)) (by kernel_rfl) (by kernel_rfl) an79 (plains 2) [0] [(false, 1)] [.sl .byte, .v .int] [.sl .byte] (fun x => some ((fun (a0 : List UInt8) (a1 : Int) => diceAt a0 a1) x.1 x.2)) rfl (by kernel_rfl)
    fun x r hb h => (e79 x).trans ((impl_DiceAt.ok hb).trans h)

def an30 : An := ⟨[], [(0, ⟨[], [(4, 4), (7, 7), (91, 110)], []⟩)], [(11, ⟨[.slot 7 (.v .int)], [(4, 4), (91, 110)], []⟩)], [(1, ⟨[.slot 20 (.v .bool)], [(8, 19)], []⟩), (4, ⟨[.slot 53 (.v .bool)], [(33, 52)], []⟩), (6, ⟨[.slot 79 (.v .bool)], [(54, 78)], []⟩), (8, ⟨[.slot 90 (.v .bool)], [(80, 89)], []⟩)], []⟩
noncomputable def C30 : Cx := ⟨Tryz.prog, tnT, fun f => lookC f [(14, ci14), (50, ci50), (64, ci64), (68, ci68), (76, ci76), (78, ci78), (79, ci79)], 111⟩
noncomputable def ci30 : CInfo := ⟨(plains 2), TyTup [.v .World, .v .int], TyTup [.v .bool], decTup [.v .World, .v .int], fun x => (fun (a0 : G.World) (a1 : Int) => canDialO a0 a1) x.1 x.2, flatTup [.v .bool], [(false, 1)], []⟩
theorem e30 (x : TyTup [.v .World, .v .int]) : evalF C30 Tryz.f30 (Tryz.f30.body.getD .skip) an30 (plains 2) [] [(false, 1)] [.v .bool] (encTup [.v .World, .v .int] x) = impl_CanDial.raw x.1 x.2 := by kernel_rfl
theorem c30 : Contract Tryz.prog 30 ci30 :=
  evalF_ok (C := C30) (tnOk_of tn_mixed tn_ok _ _) (phi_cons c14 (phi_cons c50 (phi_cons c64 (phi_cons c68 (phi_cons c76 (phi_cons c78 (phi_cons c79 phi_nil))))))) Tryz.func30 (by kernel_rfl : Tryz.f30.body = some (Tryz.f30.body.getD .skip)) (by kernel_rfl) (by kernel_rfl) an30 (plains 2) [] [(false, 1)] [.v .World, .v .int] [.v .bool] (fun x => (fun (a0 : G.World) (a1 : Int) => canDialO a0 a1) x.1 x.2) rfl (by kernel_rfl)
    fun x r hb h => (e30 x).trans (impl_CanDial.ok hb h)

def an10 : An := ⟨[], [], [], [], []⟩
noncomputable def C10 : Cx := ⟨Tryz.prog, tnT, fun f => lookC f [(11, ci11), (13, ci13), (15, ci15), (29, ci29), (30, ci30)], 31⟩
noncomputable def ci10 : CInfo := ⟨(plains 2), TyTup [.v .World, .v .int], TyTup [.v .bool], decTup [.v .World, .v .int], fun x => some ((fun (a0 : G.World) (a1 : Int) => always2 a0 a1) x.1 x.2), flatTup [.v .bool], [(false, 1)], []⟩
theorem e10 (x : TyTup [.v .World, .v .int]) : evalF C10 Tryz.f10 (Tryz.f10.body.getD .skip) an10 (plains 2) [] [(false, 1)] [.v .bool] (encTup [.v .World, .v .int] x) = laws_FnExactCanDial.raw x.1 x.2 := by kernel_rfl
theorem c10 : Contract Tryz.prog 10 ci10 :=
  evalF_ok (C := C10) (tnOk_of tn_mixed tn_ok _ _) (phi_cons c11 (phi_cons c13 (phi_cons c15 (phi_cons c29 (phi_cons c30 phi_nil))))) Tryz.func10 (by kernel_rfl : Tryz.f10.body = some (Tryz.f10.body.getD .skip)) (by kernel_rfl) (by kernel_rfl) an10 (plains 2) [] [(false, 1)] [.v .World, .v .int] [.v .bool] (fun x => some ((fun (a0 : G.World) (a1 : Int) => always2 a0 a1) x.1 x.2)) rfl (by kernel_rfl)
    fun x r hb h => (e10 x).trans ((laws_FnExactCanDial.ok hb).trans h)

end Go.D

/-
  The functions of the program: each computes what is said of it.
-/
import Derived.Test.YtoambampcllmcaaN3
import Derived.Test.YtoambampcllmcaaProg
import Derived.KernelRfl
namespace Go.D
open Go.Proofs

def tnT : TypeId → Option TN := fun t => look t [(3, .int), (5, .byte), (24, .bs), (80, .Client), (102, .Client), (109, .Wire), (112, .Note), (120, .Wire), (123, .Note), (141, .Credit), (144, .Credit), (157, .Sess), (163, .Sess), (181, .Cand), (183, .Cand)]
theorem tn_mixed : Try.prog.follows .mixedOrders = true := by kernel_rfl
theorem tn_ok : tnAll Try.prog [(3, .int), (5, .byte), (24, .bs), (80, .Client), (102, .Client), (109, .Wire), (112, .Note), (120, .Wire), (123, .Note), (141, .Credit), (144, .Credit), (157, .Sess), (163, .Sess), (181, .Cand), (183, .Cand)] = true := by kernel_rfl

def an34 : An := ⟨[], [], [], [], []⟩
noncomputable def C34 : Cx := ⟨Try.prog, tnT, fun f => lookC f [], 12⟩
noncomputable def ci34 : CInfo := ⟨(plains 2), TyTup [.sl .byte, .v .int], TyTup [.v .int], decTup [.sl .byte, .v .int], fun x => (fun (a0 : List UInt8) (a1 : Int) => szO a0 a1) x.1 x.2, flatTup [.v .int], [(false, 1)], []⟩
theorem e34 (x : TyTup [.sl .byte, .v .int]) : evalF C34 Try.f34 (Try.f34.body.getD .skip) an34 (plains 2) [] [(false, 1)] [.v .int] (encTup [.sl .byte, .v .int] x) = laws_szByteS.raw x.1 x.2 := by kernel_rfl
theorem c34 : Contract Try.prog 34 ci34 :=
  evalF_ok (C := C34) (tnOk_of tn_mixed tn_ok _ _) phi_nil Try.func34 (by kernel_rfl : Try.f34.body = some (Try.f34.body.getD .skip)) (by kernel_rfl) (by kernel_rfl) an34 (plains 2) [] [(false, 1)] [.sl .byte, .v .int] [.v .int] (fun x => (fun (a0 : List UInt8) (a1 : Int) => szO a0 a1) x.1 x.2) rfl (by kernel_rfl)
    fun x r hb h => (e34 x).trans (laws_szByteS.ok hb h)

def an53 : An := ⟨[], [], [], [], []⟩
noncomputable def C53 : Cx := ⟨Try.prog, tnT, fun f => lookC f [(34, ci34)], 42⟩
noncomputable def ci53 : CInfo := ⟨(plains 2), TyTup [.v .Frame, .v .int], TyTup [.v .int], decTup [.v .Frame, .v .int], fun x => (fun (a0 : G.Frame) (a1 : Int) => szO a0 a1) x.1 x.2, flatTup [.v .int], [(false, 1)], []⟩
theorem e53 (x : TyTup [.v .Frame, .v .int]) : evalF C53 Try.f53 (Try.f53.body.getD .skip) an53 (plains 2) [] [(false, 1)] [.v .int] (encTup [.v .Frame, .v .int] x) = laws_szFrame.raw x.1 x.2 := by kernel_rfl
theorem c53 : Contract Try.prog 53 ci53 :=
  evalF_ok (C := C53) (tnOk_of tn_mixed tn_ok _ _) (phi_cons c34 phi_nil) Try.func53 (by kernel_rfl : Try.f53.body = some (Try.f53.body.getD .skip)) (by kernel_rfl) (by kernel_rfl) an53 (plains 2) [] [(false, 1)] [.v .Frame, .v .int] [.v .int] (fun x => (fun (a0 : G.Frame) (a1 : Int) => szO a0 a1) x.1 x.2) rfl (by kernel_rfl)
    fun x r hb h => (e53 x).trans (laws_szFrame.ok hb h)

def an81 : An := ⟨[], [], [], [], []⟩
noncomputable def C81 : Cx := ⟨Try.prog, tnT, fun f => lookC f [], 12⟩
noncomputable def ci81 : CInfo := ⟨(plains 2), TyTup [.sl .int, .v .int], TyTup [.v .int], decTup [.sl .int, .v .int], fun x => (fun (a0 : List Int) (a1 : Int) => szO a0 a1) x.1 x.2, flatTup [.v .int], [(false, 1)], []⟩
theorem e81 (x : TyTup [.sl .int, .v .int]) : evalF C81 Try.f81 (Try.f81.body.getD .skip) an81 (plains 2) [] [(false, 1)] [.v .int] (encTup [.sl .int, .v .int] x) = laws_szIntS.raw x.1 x.2 := by kernel_rfl
theorem c81 : Contract Try.prog 81 ci81 :=
  evalF_ok (C := C81) (tnOk_of tn_mixed tn_ok _ _) phi_nil Try.func81 (by kernel_rfl : Try.f81.body = some (Try.f81.body.getD .skip)) (by kernel_rfl) (by kernel_rfl) an81 (plains 2) [] [(false, 1)] [.sl .int, .v .int] [.v .int] (fun x => (fun (a0 : List Int) (a1 : Int) => szO a0 a1) x.1 x.2) rfl (by kernel_rfl)
    fun x r hb h => (e81 x).trans (laws_szIntS.ok hb h)

def an75 : An := ⟨[], [], [], [], []⟩
noncomputable def C75 : Cx := ⟨Try.prog, tnT, fun f => lookC f [(81, ci81)], 12⟩
noncomputable def ci75 : CInfo := ⟨(plains 2), TyTup [.v .Win, .v .int], TyTup [.v .int], decTup [.v .Win, .v .int], fun x => (fun (a0 : G.Win) (a1 : Int) => szO a0 a1) x.1 x.2, flatTup [.v .int], [(false, 1)], []⟩
theorem e75 (x : TyTup [.v .Win, .v .int]) : evalF C75 Try.f75 (Try.f75.body.getD .skip) an75 (plains 2) [] [(false, 1)] [.v .int] (encTup [.v .Win, .v .int] x) = laws_szWin.raw x.1 x.2 := by kernel_rfl
theorem c75 : Contract Try.prog 75 ci75 :=
  evalF_ok (C := C75) (tnOk_of tn_mixed tn_ok _ _) (phi_cons c81 phi_nil) Try.func75 (by kernel_rfl : Try.f75.body = some (Try.f75.body.getD .skip)) (by kernel_rfl) (by kernel_rfl) an75 (plains 2) [] [(false, 1)] [.v .Win, .v .int] [.v .int] (fun x => (fun (a0 : G.Win) (a1 : Int) => szO a0 a1) x.1 x.2) rfl (by kernel_rfl)
    fun x r hb h => (e75 x).trans (laws_szWin.ok hb h)

def an69 : An := ⟨[], [], [], [], []⟩
noncomputable def C69 : Cx := ⟨Try.prog, tnT, fun f => lookC f [(34, ci34), (75, ci75)], 18⟩
noncomputable def ci69 : CInfo := ⟨(plains 2), TyTup [.v .Ep, .v .int], TyTup [.v .int], decTup [.v .Ep, .v .int], fun x => (fun (a0 : G.Ep) (a1 : Int) => szO a0 a1) x.1 x.2, flatTup [.v .int], [(false, 1)], []⟩
theorem e69 (x : TyTup [.v .Ep, .v .int]) : evalF C69 Try.f69 (Try.f69.body.getD .skip) an69 (plains 2) [] [(false, 1)] [.v .int] (encTup [.v .Ep, .v .int] x) = laws_szEp.raw x.1 x.2 := by kernel_rfl
theorem c69 : Contract Try.prog 69 ci69 :=
  evalF_ok (C := C69) (tnOk_of tn_mixed tn_ok _ _) (phi_cons c34 (phi_cons c75 phi_nil)) Try.func69 (by kernel_rfl : Try.f69.body = some (Try.f69.body.getD .skip)) (by kernel_rfl) (by kernel_rfl) an69 (plains 2) [] [(false, 1)] [.v .Ep, .v .int] [.v .int] (fun x => (fun (a0 : G.Ep) (a1 : Int) => szO a0 a1) x.1 x.2) rfl (by kernel_rfl)
    fun x r hb h => (e69 x).trans (laws_szEp.ok hb h)

def an54 : An := ⟨[], [], [], [], []⟩
noncomputable def C54 : Cx := ⟨Try.prog, tnT, fun f => lookC f [(34, ci34), (69, ci69)], 30⟩
noncomputable def ci54 : CInfo := ⟨(plains 2), TyTup [.v .Chan, .v .int], TyTup [.v .int], decTup [.v .Chan, .v .int], fun x => (fun (a0 : G.Chan) (a1 : Int) => szO a0 a1) x.1 x.2, flatTup [.v .int], [(false, 1)], []⟩
theorem e54 (x : TyTup [.v .Chan, .v .int]) : evalF C54 Try.f54 (Try.f54.body.getD .skip) an54 (plains 2) [] [(false, 1)] [.v .int] (encTup [.v .Chan, .v .int] x) = laws_szChan.raw x.1 x.2 := by kernel_rfl
theorem c54 : Contract Try.prog 54 ci54 :=
  evalF_ok (C := C54) (tnOk_of tn_mixed tn_ok _ _) (phi_cons c34 (phi_cons c69 phi_nil)) Try.func54 (by kernel_rfl : Try.f54.body = some (Try.f54.body.getD .skip)) (by kernel_rfl) (by kernel_rfl) an54 (plains 2) [] [(false, 1)] [.v .Chan, .v .int] [.v .int] (fun x => (fun (a0 : G.Chan) (a1 : Int) => szO a0 a1) x.1 x.2) rfl (by kernel_rfl)
    fun x r hb h => (e54 x).trans (laws_szChan.ok hb h)

def an30 : An := ⟨[], [], [], [], []⟩
noncomputable def C30 : Cx := ⟨Try.prog, tnT, fun f => lookC f [(34, ci34), (53, ci53), (54, ci54)], 30⟩
noncomputable def ci30 : CInfo := ⟨(plains 2), TyTup [.v .Client, .v .int], TyTup [.v .int], decTup [.v .Client, .v .int], fun x => (fun (a0 : G.Client) (a1 : Int) => szO a0 a1) x.1 x.2, flatTup [.v .int], [(false, 1)], []⟩
theorem e30 (x : TyTup [.v .Client, .v .int]) : evalF C30 Try.f30 (Try.f30.body.getD .skip) an30 (plains 2) [] [(false, 1)] [.v .int] (encTup [.v .Client, .v .int] x) = laws_szClient.raw x.1 x.2 := by kernel_rfl
theorem c30 : Contract Try.prog 30 ci30 :=
  evalF_ok (C := C30) (tnOk_of tn_mixed tn_ok _ _) (phi_cons c34 (phi_cons c53 (phi_cons c54 phi_nil))) Try.func30 (by kernel_rfl : Try.f30.body = some (Try.f30.body.getD .skip)) (by kernel_rfl) (by kernel_rfl) an30 (plains 2) [] [(false, 1)] [.v .Client, .v .int] [.v .int] (fun x => (fun (a0 : G.Client) (a1 : Int) => szO a0 a1) x.1 x.2) rfl (by kernel_rfl)
    fun x r hb h => (e30 x).trans (laws_szClient.ok hb h)

def an10 : An := ⟨[], [(0, ⟨[.slot 1 (.v .int)], [(4, 5), (12, 25)], []⟩)], [(5, ⟨[.slot 1 (.v .int), .slot 5 (.v .int)], [(4, 4), (12, 25)], []⟩)], [], []⟩
noncomputable def C10 : Cx := ⟨Try.prog, tnT, fun f => lookC f [(30, ci30)], 27⟩
noncomputable def ci10 : CInfo := ⟨(plains 2), TyTup [.sl .Client, .v .int], TyTup [.v .int], decTup [.sl .Client, .v .int], fun x => (fun (a0 : List G.Client) (a1 : Int) => szO a0 a1) x.1 x.2, flatTup [.v .int], [(false, 1)], []⟩
theorem e10 (x : TyTup [.sl .Client, .v .int]) : evalF C10 Try.f10 (Try.f10.body.getD .skip) an10 (plains 2) [] [(false, 1)] [.v .int] (encTup [.sl .Client, .v .int] x) = laws_szClientS.raw x.1 x.2 := by kernel_rfl
theorem c10 : Contract Try.prog 10 ci10 :=
  evalF_ok (C := C10) (tnOk_of tn_mixed tn_ok _ _) (phi_cons c30 phi_nil) Try.func10 (by kernel_rfl : Try.f10.body = some (Try.f10.body.getD .skip)) (by kernel_rfl) (by kernel_rfl) an10 (plains 2) [] [(false, 1)] [.sl .Client, .v .int] [.v .int] (fun x => (fun (a0 : List G.Client) (a1 : Int) => szO a0 a1) x.1 x.2) rfl (by kernel_rfl)
    fun x r hb h => (e10 x).trans (laws_szClientS.ok hb h)

def an14 : An := ⟨[], [(0, ⟨[.slot 1 (.v .int)], [(4, 5), (12, 25)], []⟩)], [(5, ⟨[.slot 1 (.v .int), .slot 5 (.v .int)], [(4, 4), (12, 25)], []⟩)], [], []⟩
noncomputable def C14 : Cx := ⟨Try.prog, tnT, fun f => lookC f [(34, ci34)], 27⟩
noncomputable def ci14 : CInfo := ⟨(plains 2), TyTup [.sl .bs, .v .int], TyTup [.v .int], decTup [.sl .bs, .v .int], fun x => (fun (a0 : List (List UInt8)) (a1 : Int) => szO a0 a1) x.1 x.2, flatTup [.v .int], [(false, 1)], []⟩
theorem e14 (x : TyTup [.sl .bs, .v .int]) : evalF C14 Try.f14 (Try.f14.body.getD .skip) an14 (plains 2) [] [(false, 1)] [.v .int] (encTup [.sl .bs, .v .int] x) = laws_szByteSS.raw x.1 x.2 := by kernel_rfl
theorem c14 : Contract Try.prog 14 ci14 :=
  evalF_ok (C := C14) (tnOk_of tn_mixed tn_ok _ _) (phi_cons c34 phi_nil) Try.func14 (by kernel_rfl : Try.f14.body = some (Try.f14.body.getD .skip)) (by kernel_rfl) (by kernel_rfl) an14 (plains 2) [] [(false, 1)] [.sl .bs, .v .int] [.v .int] (fun x => (fun (a0 : List (List UInt8)) (a1 : Int) => szO a0 a1) x.1 x.2) rfl (by kernel_rfl)
    fun x r hb h => (e14 x).trans (laws_szByteSS.ok hb h)

def an31 : An := ⟨[], [], [], [], []⟩
noncomputable def C31 : Cx := ⟨Try.prog, tnT, fun f => lookC f [(34, ci34)], 12⟩
noncomputable def ci31 : CInfo := ⟨(plains 2), TyTup [.v .Jar, .v .int], TyTup [.v .int], decTup [.v .Jar, .v .int], fun x => (fun (a0 : G.Jar) (a1 : Int) => szO a0 a1) x.1 x.2, flatTup [.v .int], [(false, 1)], []⟩
theorem e31 (x : TyTup [.v .Jar, .v .int]) : evalF C31 Try.f31 (Try.f31.body.getD .skip) an31 (plains 2) [] [(false, 1)] [.v .int] (encTup [.v .Jar, .v .int] x) = laws_szJar.raw x.1 x.2 := by kernel_rfl
theorem c31 : Contract Try.prog 31 ci31 :=
  evalF_ok (C := C31) (tnOk_of tn_mixed tn_ok _ _) (phi_cons c34 phi_nil) Try.func31 (by kernel_rfl : Try.f31.body = some (Try.f31.body.getD .skip)) (by kernel_rfl) (by kernel_rfl) an31 (plains 2) [] [(false, 1)] [.v .Jar, .v .int] [.v .int] (fun x => (fun (a0 : G.Jar) (a1 : Int) => szO a0 a1) x.1 x.2) rfl (by kernel_rfl)
    fun x r hb h => (e31 x).trans (laws_szJar.ok hb h)

def an12 : An := ⟨[], [], [], [], []⟩
noncomputable def C12 : Cx := ⟨Try.prog, tnT, fun f => lookC f [(34, ci34)], 12⟩
noncomputable def ci12 : CInfo := ⟨(plains 2), TyTup [.v .Dice, .v .int], TyTup [.v .int], decTup [.v .Dice, .v .int], fun x => (fun (a0 : G.Dice) (a1 : Int) => szO a0 a1) x.1 x.2, flatTup [.v .int], [(false, 1)], []⟩
theorem e12 (x : TyTup [.v .Dice, .v .int]) : evalF C12 Try.f12 (Try.f12.body.getD .skip) an12 (plains 2) [] [(false, 1)] [.v .int] (encTup [.v .Dice, .v .int] x) = laws_szDice.raw x.1 x.2 := by kernel_rfl
theorem c12 : Contract Try.prog 12 ci12 :=
  evalF_ok (C := C12) (tnOk_of tn_mixed tn_ok _ _) (phi_cons c34 phi_nil) Try.func12 (by kernel_rfl : Try.f12.body = some (Try.f12.body.getD .skip)) (by kernel_rfl) (by kernel_rfl) an12 (plains 2) [] [(false, 1)] [.v .Dice, .v .int] [.v .int] (fun x => (fun (a0 : G.Dice) (a1 : Int) => szO a0 a1) x.1 x.2) rfl (by kernel_rfl)
    fun x r hb h => (e12 x).trans (laws_szDice.ok hb h)

def an87 : An := ⟨[], [], [], [], []⟩
noncomputable def C87 : Cx := ⟨Try.prog, tnT, fun f => lookC f [(34, ci34)], 12⟩
noncomputable def ci87 : CInfo := ⟨(plains 2), TyTup [.v .Cand, .v .int], TyTup [.v .int], decTup [.v .Cand, .v .int], fun x => (fun (a0 : G.Cand) (a1 : Int) => szO a0 a1) x.1 x.2, flatTup [.v .int], [(false, 1)], []⟩
theorem e87 (x : TyTup [.v .Cand, .v .int]) : evalF C87 Try.f87 (Try.f87.body.getD .skip) an87 (plains 2) [] [(false, 1)] [.v .int] (encTup [.v .Cand, .v .int] x) = laws_szCand.raw x.1 x.2 := by kernel_rfl
theorem c87 : Contract Try.prog 87 ci87 :=
  evalF_ok (C := C87) (tnOk_of tn_mixed tn_ok _ _) (phi_cons c34 phi_nil) Try.func87 (by kernel_rfl : Try.f87.body = some (Try.f87.body.getD .skip)) (by kernel_rfl) (by kernel_rfl) an87 (plains 2) [] [(false, 1)] [.v .Cand, .v .int] [.v .int] (fun x => (fun (a0 : G.Cand) (a1 : Int) => szO a0 a1) x.1 x.2) rfl (by kernel_rfl)
    fun x r hb h => (e87 x).trans (laws_szCand.ok hb h)

def an82 : An := ⟨[], [(0, ⟨[.slot 1 (.v .int)], [(4, 5), (12, 25)], []⟩)], [(5, ⟨[.slot 1 (.v .int), .slot 5 (.v .int)], [(4, 4), (12, 25)], []⟩)], [], []⟩
noncomputable def C82 : Cx := ⟨Try.prog, tnT, fun f => lookC f [(87, ci87)], 27⟩
noncomputable def ci82 : CInfo := ⟨(plains 2), TyTup [.sl .Cand, .v .int], TyTup [.v .int], decTup [.sl .Cand, .v .int], fun x => (fun (a0 : List G.Cand) (a1 : Int) => szO a0 a1) x.1 x.2, flatTup [.v .int], [(false, 1)], []⟩
theorem e82 (x : TyTup [.sl .Cand, .v .int]) : evalF C82 Try.f82 (Try.f82.body.getD .skip) an82 (plains 2) [] [(false, 1)] [.v .int] (encTup [.sl .Cand, .v .int] x) = laws_szCandS.raw x.1 x.2 := by kernel_rfl
theorem c82 : Contract Try.prog 82 ci82 :=
  evalF_ok (C := C82) (tnOk_of tn_mixed tn_ok _ _) (phi_cons c87 phi_nil) Try.func82 (by kernel_rfl : Try.f82.body = some (Try.f82.body.getD .skip)) (by kernel_rfl) (by kernel_rfl) an82 (plains 2) [] [(false, 1)] [.sl .Cand, .v .int] [.v .int] (fun x => (fun (a0 : List G.Cand) (a1 : Int) => szO a0 a1) x.1 x.2) rfl (by kernel_rfl)
    fun x r hb h => (e82 x).trans (laws_szCandS.ok hb h)

def an76 : An := ⟨[], [], [], [], []⟩
noncomputable def C76 : Cx := ⟨Try.prog, tnT, fun f => lookC f [(82, ci82)], 12⟩
noncomputable def ci76 : CInfo := ⟨(plains 2), TyTup [.v .Paths, .v .int], TyTup [.v .int], decTup [.v .Paths, .v .int], fun x => (fun (a0 : G.Paths) (a1 : Int) => szO a0 a1) x.1 x.2, flatTup [.v .int], [(false, 1)], []⟩
theorem e76 (x : TyTup [.v .Paths, .v .int]) : evalF C76 Try.f76 (Try.f76.body.getD .skip) an76 (plains 2) [] [(false, 1)] [.v .int] (encTup [.v .Paths, .v .int] x) = laws_szPaths.raw x.1 x.2 := by kernel_rfl
theorem c76 : Contract Try.prog 76 ci76 :=
  evalF_ok (C := C76) (tnOk_of tn_mixed tn_ok _ _) (phi_cons c82 phi_nil) Try.func76 (by kernel_rfl : Try.f76.body = some (Try.f76.body.getD .skip)) (by kernel_rfl) (by kernel_rfl) an76 (plains 2) [] [(false, 1)] [.v .Paths, .v .int] [.v .int] (fun x => (fun (a0 : G.Paths) (a1 : Int) => szO a0 a1) x.1 x.2) rfl (by kernel_rfl)
    fun x r hb h => (e76 x).trans (laws_szPaths.ok hb h)

def an70 : An := ⟨[], [], [], [], []⟩
noncomputable def C70 : Cx := ⟨Try.prog, tnT, fun f => lookC f [(34, ci34), (54, ci54), (76, ci76)], 30⟩
noncomputable def ci70 : CInfo := ⟨(plains 2), TyTup [.v .Sess, .v .int], TyTup [.v .int], decTup [.v .Sess, .v .int], fun x => (fun (a0 : G.Sess) (a1 : Int) => szO a0 a1) x.1 x.2, flatTup [.v .int], [(false, 1)], []⟩
theorem e70 (x : TyTup [.v .Sess, .v .int]) : evalF C70 Try.f70 (Try.f70.body.getD .skip) an70 (plains 2) [] [(false, 1)] [.v .int] (encTup [.v .Sess, .v .int] x) = laws_szSess.raw x.1 x.2 := by kernel_rfl
theorem c70 : Contract Try.prog 70 ci70 :=
  evalF_ok (C := C70) (tnOk_of tn_mixed tn_ok _ _) (phi_cons c34 (phi_cons c54 (phi_cons c76 phi_nil))) Try.func70 (by kernel_rfl : Try.f70.body = some (Try.f70.body.getD .skip)) (by kernel_rfl) (by kernel_rfl) an70 (plains 2) [] [(false, 1)] [.v .Sess, .v .int] [.v .int] (fun x => (fun (a0 : G.Sess) (a1 : Int) => szO a0 a1) x.1 x.2) rfl (by kernel_rfl)
    fun x r hb h => (e70 x).trans (laws_szSess.ok hb h)

def an55 : An := ⟨[], [(0, ⟨[.slot 1 (.v .int)], [(4, 5), (12, 25)], []⟩)], [(5, ⟨[.slot 1 (.v .int), .slot 5 (.v .int)], [(4, 4), (12, 25)], []⟩)], [], []⟩
noncomputable def C55 : Cx := ⟨Try.prog, tnT, fun f => lookC f [(70, ci70)], 27⟩
noncomputable def ci55 : CInfo := ⟨(plains 2), TyTup [.sl .Sess, .v .int], TyTup [.v .int], decTup [.sl .Sess, .v .int], fun x => (fun (a0 : List G.Sess) (a1 : Int) => szO a0 a1) x.1 x.2, flatTup [.v .int], [(false, 1)], []⟩
theorem e55 (x : TyTup [.sl .Sess, .v .int]) : evalF C55 Try.f55 (Try.f55.body.getD .skip) an55 (plains 2) [] [(false, 1)] [.v .int] (encTup [.sl .Sess, .v .int] x) = laws_szSessS.raw x.1 x.2 := by kernel_rfl
theorem c55 : Contract Try.prog 55 ci55 :=
  evalF_ok (C := C55) (tnOk_of tn_mixed tn_ok _ _) (phi_cons c70 phi_nil) Try.func55 (by kernel_rfl : Try.f55.body = some (Try.f55.body.getD .skip)) (by kernel_rfl) (by kernel_rfl) an55 (plains 2) [] [(false, 1)] [.sl .Sess, .v .int] [.v .int] (fun x => (fun (a0 : List G.Sess) (a1 : Int) => szO a0 a1) x.1 x.2) rfl (by kernel_rfl)
    fun x r hb h => (e55 x).trans (laws_szSessS.ok hb h)

def an32 : An := ⟨[], [], [], [], []⟩
noncomputable def C32 : Cx := ⟨Try.prog, tnT, fun f => lookC f [(55, ci55)], 12⟩
noncomputable def ci32 : CInfo := ⟨(plains 2), TyTup [.v .Tab, .v .int], TyTup [.v .int], decTup [.v .Tab, .v .int], fun x => (fun (a0 : G.Tab) (a1 : Int) => szO a0 a1) x.1 x.2, flatTup [.v .int], [(false, 1)], []⟩
theorem e32 (x : TyTup [.v .Tab, .v .int]) : evalF C32 Try.f32 (Try.f32.body.getD .skip) an32 (plains 2) [] [(false, 1)] [.v .int] (encTup [.v .Tab, .v .int] x) = laws_szTab.raw x.1 x.2 := by kernel_rfl
theorem c32 : Contract Try.prog 32 ci32 :=
  evalF_ok (C := C32) (tnOk_of tn_mixed tn_ok _ _) (phi_cons c55 phi_nil) Try.func32 (by kernel_rfl : Try.f32.body = some (Try.f32.body.getD .skip)) (by kernel_rfl) (by kernel_rfl) an32 (plains 2) [] [(false, 1)] [.v .Tab, .v .int] [.v .int] (fun x => (fun (a0 : G.Tab) (a1 : Int) => szO a0 a1) x.1 x.2) rfl (by kernel_rfl)
    fun x r hb h => (e32 x).trans (laws_szTab.ok hb h)

def an33 : An := ⟨[], [], [], [], []⟩
noncomputable def C33 : Cx := ⟨Try.prog, tnT, fun f => lookC f [], 12⟩
noncomputable def ci33 : CInfo := ⟨(plains 2), TyTup [.sl .Credit, .v .int], TyTup [.v .int], decTup [.sl .Credit, .v .int], fun x => (fun (a0 : List G.Credit) (a1 : Int) => szO a0 a1) x.1 x.2, flatTup [.v .int], [(false, 1)], []⟩
theorem e33 (x : TyTup [.sl .Credit, .v .int]) : evalF C33 Try.f33 (Try.f33.body.getD .skip) an33 (plains 2) [] [(false, 1)] [.v .int] (encTup [.sl .Credit, .v .int] x) = laws_szCreditS.raw x.1 x.2 := by kernel_rfl
theorem c33 : Contract Try.prog 33 ci33 :=
  evalF_ok (C := C33) (tnOk_of tn_mixed tn_ok _ _) phi_nil Try.func33 (by kernel_rfl : Try.f33.body = some (Try.f33.body.getD .skip)) (by kernel_rfl) (by kernel_rfl) an33 (plains 2) [] [(false, 1)] [.sl .Credit, .v .int] [.v .int] (fun x => (fun (a0 : List G.Credit) (a1 : Int) => szO a0 a1) x.1 x.2) rfl (by kernel_rfl)
    fun x r hb h => (e33 x).trans (laws_szCreditS.ok hb h)

def an11 : An := ⟨[], [], [], [], []⟩
noncomputable def C11 : Cx := ⟨Try.prog, tnT, fun f => lookC f [(12, ci12), (14, ci14), (31, ci31), (32, ci32), (33, ci33)], 36⟩
noncomputable def ci11 : CInfo := ⟨(plains 2), TyTup [.v .Server, .v .int], TyTup [.v .int], decTup [.v .Server, .v .int], fun x => (fun (a0 : G.Server) (a1 : Int) => szO a0 a1) x.1 x.2, flatTup [.v .int], [(false, 1)], []⟩
theorem e11 (x : TyTup [.v .Server, .v .int]) : evalF C11 Try.f11 (Try.f11.body.getD .skip) an11 (plains 2) [] [(false, 1)] [.v .int] (encTup [.v .Server, .v .int] x) = laws_szServer.raw x.1 x.2 := by kernel_rfl
theorem c11 : Contract Try.prog 11 ci11 :=
  evalF_ok (C := C11) (tnOk_of tn_mixed tn_ok _ _) (phi_cons c12 (phi_cons c14 (phi_cons c31 (phi_cons c32 (phi_cons c33 phi_nil))))) Try.func11 (by kernel_rfl : Try.f11.body = some (Try.f11.body.getD .skip)) (by kernel_rfl) (by kernel_rfl) an11 (plains 2) [] [(false, 1)] [.v .Server, .v .int] [.v .int] (fun x => (fun (a0 : G.Server) (a1 : Int) => szO a0 a1) x.1 x.2) rfl (by kernel_rfl)
    fun x r hb h => (e11 x).trans (laws_szServer.ok hb h)

def an35 : An := ⟨[], [], [], [], []⟩
noncomputable def C35 : Cx := ⟨Try.prog, tnT, fun f => lookC f [(34, ci34)], 12⟩
noncomputable def ci35 : CInfo := ⟨(plains 2), TyTup [.v .Wire, .v .int], TyTup [.v .int], decTup [.v .Wire, .v .int], fun x => (fun (a0 : G.Wire) (a1 : Int) => szO a0 a1) x.1 x.2, flatTup [.v .int], [(false, 1)], []⟩
theorem e35 (x : TyTup [.v .Wire, .v .int]) : evalF C35 Try.f35 (Try.f35.body.getD .skip) an35 (plains 2) [] [(false, 1)] [.v .int] (encTup [.v .Wire, .v .int] x) = laws_szWire.raw x.1 x.2 := by kernel_rfl
theorem c35 : Contract Try.prog 35 ci35 :=
  evalF_ok (C := C35) (tnOk_of tn_mixed tn_ok _ _) (phi_cons c34 phi_nil) Try.func35 (by kernel_rfl : Try.f35.body = some (Try.f35.body.getD .skip)) (by kernel_rfl) (by kernel_rfl) an35 (plains 2) [] [(false, 1)] [.v .Wire, .v .int] [.v .int] (fun x => (fun (a0 : G.Wire) (a1 : Int) => szO a0 a1) x.1 x.2) rfl (by kernel_rfl)
    fun x r hb h => (e35 x).trans (laws_szWire.ok hb h)

def an13 : An := ⟨[], [(0, ⟨[.slot 1 (.v .int)], [(4, 5), (12, 25)], []⟩)], [(5, ⟨[.slot 1 (.v .int), .slot 5 (.v .int)], [(4, 4), (12, 25)], []⟩)], [], []⟩
noncomputable def C13 : Cx := ⟨Try.prog, tnT, fun f => lookC f [(35, ci35)], 27⟩
noncomputable def ci13 : CInfo := ⟨(plains 2), TyTup [.sl .Wire, .v .int], TyTup [.v .int], decTup [.sl .Wire, .v .int], fun x => (fun (a0 : List G.Wire) (a1 : Int) => szO a0 a1) x.1 x.2, flatTup [.v .int], [(false, 1)], []⟩
theorem e13 (x : TyTup [.sl .Wire, .v .int]) : evalF C13 Try.f13 (Try.f13.body.getD .skip) an13 (plains 2) [] [(false, 1)] [.v .int] (encTup [.sl .Wire, .v .int] x) = laws_szWireS.raw x.1 x.2 := by kernel_rfl
theorem c13 : Contract Try.prog 13 ci13 :=
  evalF_ok (C := C13) (tnOk_of tn_mixed tn_ok _ _) (phi_cons c35 phi_nil) Try.func13 (by kernel_rfl : Try.f13.body = some (Try.f13.body.getD .skip)) (by kernel_rfl) (by kernel_rfl) an13 (plains 2) [] [(false, 1)] [.sl .Wire, .v .int] [.v .int] (fun x => (fun (a0 : List G.Wire) (a1 : Int) => szO a0 a1) x.1 x.2) rfl (by kernel_rfl)
    fun x r hb h => (e13 x).trans (laws_szWireS.ok hb h)

def an36 : An := ⟨[], [], [], [], []⟩
noncomputable def C36 : Cx := ⟨Try.prog, tnT, fun f => lookC f [(34, ci34)], 30⟩
noncomputable def ci36 : CInfo := ⟨(plains 2), TyTup [.v .Note, .v .int], TyTup [.v .int], decTup [.v .Note, .v .int], fun x => (fun (a0 : G.Note) (a1 : Int) => szO a0 a1) x.1 x.2, flatTup [.v .int], [(false, 1)], []⟩
theorem e36 (x : TyTup [.v .Note, .v .int]) : evalF C36 Try.f36 (Try.f36.body.getD .skip) an36 (plains 2) [] [(false, 1)] [.v .int] (encTup [.v .Note, .v .int] x) = laws_szNote.raw x.1 x.2 := by kernel_rfl
theorem c36 : Contract Try.prog 36 ci36 :=
  evalF_ok (C := C36) (tnOk_of tn_mixed tn_ok _ _) (phi_cons c34 phi_nil) Try.func36 (by kernel_rfl : Try.f36.body = some (Try.f36.body.getD .skip)) (by kernel_rfl) (by kernel_rfl) an36 (plains 2) [] [(false, 1)] [.v .Note, .v .int] [.v .int] (fun x => (fun (a0 : G.Note) (a1 : Int) => szO a0 a1) x.1 x.2) rfl (by kernel_rfl)
    fun x r hb h => (e36 x).trans (laws_szNote.ok hb h)

def an15 : An := ⟨[], [(0, ⟨[.slot 1 (.v .int)], [(4, 5), (12, 25)], []⟩)], [(5, ⟨[.slot 1 (.v .int), .slot 5 (.v .int)], [(4, 4), (12, 25)], []⟩)], [], []⟩
noncomputable def C15 : Cx := ⟨Try.prog, tnT, fun f => lookC f [(36, ci36)], 27⟩
noncomputable def ci15 : CInfo := ⟨(plains 2), TyTup [.sl .Note, .v .int], TyTup [.v .int], decTup [.sl .Note, .v .int], fun x => (fun (a0 : List G.Note) (a1 : Int) => szO a0 a1) x.1 x.2, flatTup [.v .int], [(false, 1)], []⟩
theorem e15 (x : TyTup [.sl .Note, .v .int]) : evalF C15 Try.f15 (Try.f15.body.getD .skip) an15 (plains 2) [] [(false, 1)] [.v .int] (encTup [.sl .Note, .v .int] x) = laws_szNoteS.raw x.1 x.2 := by kernel_rfl
theorem c15 : Contract Try.prog 15 ci15 :=
  evalF_ok (C := C15) (tnOk_of tn_mixed tn_ok _ _) (phi_cons c36 phi_nil) Try.func15 (by kernel_rfl : Try.f15.body = some (Try.f15.body.getD .skip)) (by kernel_rfl) (by kernel_rfl) an15 (plains 2) [] [(false, 1)] [.sl .Note, .v .int] [.v .int] (fun x => (fun (a0 : List G.Note) (a1 : Int) => szO a0 a1) x.1 x.2) rfl (by kernel_rfl)
    fun x r hb h => (e15 x).trans (laws_szNoteS.ok hb h)

def an4 : An := ⟨[], [], [], [], []⟩
noncomputable def C4 : Cx := ⟨Try.prog, tnT, fun f => lookC f [(10, ci10), (11, ci11), (12, ci12), (13, ci13), (14, ci14), (15, ci15)], 42⟩
noncomputable def ci4 : CInfo := ⟨(plains 2), TyTup [.v .World, .v .int], TyTup [.v .int], decTup [.v .World, .v .int], fun x => (fun (a0 : G.World) (a1 : Int) => szO a0 a1) x.1 x.2, flatTup [.v .int], [(false, 1)], []⟩
theorem e4 (x : TyTup [.v .World, .v .int]) : evalF C4 Try.f4 (Try.f4.body.getD .skip) an4 (plains 2) [] [(false, 1)] [.v .int] (encTup [.v .World, .v .int] x) = laws_szWorld.raw x.1 x.2 := by kernel_rfl
theorem c4 : Contract Try.prog 4 ci4 :=
  evalF_ok (C := C4) (tnOk_of tn_mixed tn_ok _ _) (phi_cons c10 (phi_cons c11 (phi_cons c12 (phi_cons c13 (phi_cons c14 (phi_cons c15 phi_nil)))))) Try.func4 (by kernel_rfl : Try.f4.body = some (Try.f4.body.getD .skip)) (by kernel_rfl) (by kernel_rfl) an4 (plains 2) [] [(false, 1)] [.v .World, .v .int] [.v .int] (fun x => (fun (a0 : G.World) (a1 : Int) => szO a0 a1) x.1 x.2) rfl (by kernel_rfl)
    fun x r hb h => (e4 x).trans (laws_szWorld.ok hb h)

def an42 : An := ⟨[], [(0, ⟨[.own 3 .byte], [(4, 4), (8, 20)], []⟩)], [(3, ⟨[.slot 4 (.v .int), .own 3 .byte], [(8, 20)], []⟩)], [], []⟩
noncomputable def C42 : Cx := ⟨Try.prog, tnT, fun f => lookC f [], 22⟩
noncomputable def ci42 : CInfo := ⟨(plains 1), TyTup [.sl .byte], TyTup [.sl .byte], decTup [.sl .byte], fun x => (fun (a0 : List UInt8) => cpy a0) x, flatTup [.sl .byte], [(false, 1)], [0]⟩
theorem e42 (x : TyTup [.sl .byte]) : evalF C42 Try.f42 (Try.f42.body.getD .skip) an42 (plains 1) [0] [(false, 1)] [.sl .byte] (encTup [.sl .byte] x) = laws_toByteS.raw x := by kernel_rfl
theorem c42 : Contract Try.prog 42 ci42 :=
  evalF_ok (C := C42) (tnOk_of tn_mixed tn_ok _ _) phi_nil Try.func42 (by kernel_rfl : Try.f42.body = some (Try.f42.body.getD .skip)) (by kernel_rfl) (by kernel_rfl) an42 (plains 1) [0] [(false, 1)] [.sl .byte] [.sl .byte] (fun x => (fun (a0 : List UInt8) => cpy a0) x) rfl (by kernel_rfl)
    fun x r hb h => (e42 x).trans (laws_toByteS.ok hb h)

def an7 : An := ⟨[], [], [], [], []⟩
noncomputable def C7 : Cx := ⟨Try.prog, tnT, fun f => lookC f [], 11⟩
noncomputable def ci7 : CInfo := ⟨(plains 1), TyTup [.v .Addr], TyTup [.v .Addr], decTup [.v .Addr], fun x => (fun (a0 : G.Addr) => cpy a0) x, flatTup [.v .Addr], [(true, 2)], []⟩
theorem e7 (x : TyTup [.v .Addr]) : evalF C7 Try.f7 (Try.f7.body.getD .skip) an7 (plains 1) [] [(true, 2)] [.v .Addr] (encTup [.v .Addr] x) = laws_toAddr.raw x := by kernel_rfl
theorem c7 : Contract Try.prog 7 ci7 :=
  evalF_ok (C := C7) (tnOk_of tn_mixed tn_ok _ _) phi_nil Try.func7 (by kernel_rfl : Try.f7.body = some (Try.f7.body.getD .skip)) (by kernel_rfl) (by kernel_rfl) an7 (plains 1) [] [(true, 2)] [.v .Addr] [.v .Addr] (fun x => (fun (a0 : G.Addr) => cpy a0) x) rfl (by kernel_rfl)
    fun x r hb h => (e7 x).trans (laws_toAddr.ok hb h)

def an57 : An := ⟨[], [], [], [], []⟩
noncomputable def C57 : Cx := ⟨Try.prog, tnT, fun f => lookC f [(42, ci42)], 44⟩
noncomputable def ci57 : CInfo := ⟨(plains 1), TyTup [.v .Frame], TyTup [.v .Frame], decTup [.v .Frame], fun x => (fun (a0 : G.Frame) => cpy a0) x, flatTup [.v .Frame], [(true, 11)], [2, 3, 5, 6, 9, 10]⟩
theorem e57 (x : TyTup [.v .Frame]) : evalF C57 Try.f57 (Try.f57.body.getD .skip) an57 (plains 1) [2, 3, 5, 6, 9, 10] [(true, 11)] [.v .Frame] (encTup [.v .Frame] x) = laws_toFrame.raw x := by kernel_rfl
theorem c57 : Contract Try.prog 57 ci57 :=
  evalF_ok (C := C57) (tnOk_of tn_mixed tn_ok _ _) (phi_cons c42 phi_nil) Try.func57 (by kernel_rfl : Try.f57.body = some (Try.f57.body.getD .skip)) (by kernel_rfl) (by kernel_rfl) an57 (plains 1) [2, 3, 5, 6, 9, 10] [(true, 11)] [.v .Frame] [.v .Frame] (fun x => (fun (a0 : G.Frame) => cpy a0) x) rfl (by kernel_rfl)
    fun x r hb h => (e57 x).trans (laws_toFrame.ok hb h)

def an83 : An := ⟨[], [(0, ⟨[.own 3 .int], [(4, 4), (8, 20)], []⟩)], [(3, ⟨[.slot 4 (.v .int), .own 3 .int], [(8, 20)], []⟩)], [], []⟩
noncomputable def C83 : Cx := ⟨Try.prog, tnT, fun f => lookC f [], 22⟩
noncomputable def ci83 : CInfo := ⟨(plains 1), TyTup [.sl .int], TyTup [.sl .int], decTup [.sl .int], fun x => (fun (a0 : List Int) => cpy a0) x, flatTup [.sl .int], [(false, 1)], [0]⟩
theorem e83 (x : TyTup [.sl .int]) : evalF C83 Try.f83 (Try.f83.body.getD .skip) an83 (plains 1) [0] [(false, 1)] [.sl .int] (encTup [.sl .int] x) = laws_toIntS.raw x := by kernel_rfl
theorem c83 : Contract Try.prog 83 ci83 :=
  evalF_ok (C := C83) (tnOk_of tn_mixed tn_ok _ _) phi_nil Try.func83 (by kernel_rfl : Try.f83.body = some (Try.f83.body.getD .skip)) (by kernel_rfl) (by kernel_rfl) an83 (plains 1) [0] [(false, 1)] [.sl .int] [.sl .int] (fun x => (fun (a0 : List Int) => cpy a0) x) rfl (by kernel_rfl)
    fun x r hb h => (e83 x).trans (laws_toIntS.ok hb h)

def an77 : An := ⟨[], [], [], [], []⟩
noncomputable def C77 : Cx := ⟨Try.prog, tnT, fun f => lookC f [(83, ci83)], 12⟩
noncomputable def ci77 : CInfo := ⟨(plains 1), TyTup [.v .Win], TyTup [.v .Win], decTup [.v .Win], fun x => (fun (a0 : G.Win) => cpy a0) x, flatTup [.v .Win], [(true, 2)], [1]⟩
theorem e77 (x : TyTup [.v .Win]) : evalF C77 Try.f77 (Try.f77.body.getD .skip) an77 (plains 1) [1] [(true, 2)] [.v .Win] (encTup [.v .Win] x) = laws_toWin.raw x := by kernel_rfl
theorem c77 : Contract Try.prog 77 ci77 :=
  evalF_ok (C := C77) (tnOk_of tn_mixed tn_ok _ _) (phi_cons c83 phi_nil) Try.func77 (by kernel_rfl : Try.f77.body = some (Try.f77.body.getD .skip)) (by kernel_rfl) (by kernel_rfl) an77 (plains 1) [1] [(true, 2)] [.v .Win] [.v .Win] (fun x => (fun (a0 : G.Win) => cpy a0) x) rfl (by kernel_rfl)
    fun x r hb h => (e77 x).trans (laws_toWin.ok hb h)

def an71 : An := ⟨[], [], [], [], []⟩
noncomputable def C71 : Cx := ⟨Try.prog, tnT, fun f => lookC f [(42, ci42), (77, ci77)], 19⟩
noncomputable def ci71 : CInfo := ⟨(plains 1), TyTup [.v .Ep], TyTup [.v .Ep], decTup [.v .Ep], fun x => (fun (a0 : G.Ep) => cpy a0) x, flatTup [.v .Ep], [(true, 5)], [1, 4]⟩
theorem e71 (x : TyTup [.v .Ep]) : evalF C71 Try.f71 (Try.f71.body.getD .skip) an71 (plains 1) [1, 4] [(true, 5)] [.v .Ep] (encTup [.v .Ep] x) = laws_toEp.raw x := by kernel_rfl
theorem c71 : Contract Try.prog 71 ci71 :=
  evalF_ok (C := C71) (tnOk_of tn_mixed tn_ok _ _) (phi_cons c42 (phi_cons c77 phi_nil)) Try.func71 (by kernel_rfl : Try.f71.body = some (Try.f71.body.getD .skip)) (by kernel_rfl) (by kernel_rfl) an71 (plains 1) [1, 4] [(true, 5)] [.v .Ep] [.v .Ep] (fun x => (fun (a0 : G.Ep) => cpy a0) x) rfl (by kernel_rfl)
    fun x r hb h => (e71 x).trans (laws_toEp.ok hb h)

def an58 : An := ⟨[], [], [], [], []⟩
noncomputable def C58 : Cx := ⟨Try.prog, tnT, fun f => lookC f [(42, ci42), (71, ci71)], 30⟩
noncomputable def ci58 : CInfo := ⟨(plains 1), TyTup [.v .Chan], TyTup [.v .Chan], decTup [.v .Chan], fun x => (fun (a0 : G.Chan) => cpy a0) x, flatTup [.v .Chan], [(true, 15)], [1, 3, 6, 8, 11, 14]⟩
theorem e58 (x : TyTup [.v .Chan]) : evalF C58 Try.f58 (Try.f58.body.getD .skip) an58 (plains 1) [1, 3, 6, 8, 11, 14] [(true, 15)] [.v .Chan] (encTup [.v .Chan] x) = laws_toChan.raw x := by kernel_rfl
theorem c58 : Contract Try.prog 58 ci58 :=
  evalF_ok (C := C58) (tnOk_of tn_mixed tn_ok _ _) (phi_cons c42 (phi_cons c71 phi_nil)) Try.func58 (by kernel_rfl : Try.f58.body = some (Try.f58.body.getD .skip)) (by kernel_rfl) (by kernel_rfl) an58 (plains 1) [1, 3, 6, 8, 11, 14] [(true, 15)] [.v .Chan] [.v .Chan] (fun x => (fun (a0 : G.Chan) => cpy a0) x) rfl (by kernel_rfl)
    fun x r hb h => (e58 x).trans (laws_toChan.ok hb h)

def an59 : An := ⟨[], [], [], [], []⟩
noncomputable def C59 : Cx := ⟨Try.prog, tnT, fun f => lookC f [], 17⟩
noncomputable def ci59 : CInfo := ⟨(plains 1), TyTup [.v .Timer], TyTup [.v .Timer], decTup [.v .Timer], fun x => (fun (a0 : G.Timer) => cpy a0) x, flatTup [.v .Timer], [(true, 4)], []⟩
theorem e59 (x : TyTup [.v .Timer]) : evalF C59 Try.f59 (Try.f59.body.getD .skip) an59 (plains 1) [] [(true, 4)] [.v .Timer] (encTup [.v .Timer] x) = laws_toTimer.raw x := by kernel_rfl
theorem c59 : Contract Try.prog 59 ci59 :=
  evalF_ok (C := C59) (tnOk_of tn_mixed tn_ok _ _) phi_nil Try.func59 (by kernel_rfl : Try.f59.body = some (Try.f59.body.getD .skip)) (by kernel_rfl) (by kernel_rfl) an59 (plains 1) [] [(true, 4)] [.v .Timer] [.v .Timer] (fun x => (fun (a0 : G.Timer) => cpy a0) x) rfl (by kernel_rfl)
    fun x r hb h => (e59 x).trans (laws_toTimer.ok hb h)

def an38 : An := ⟨[], [], [], [], []⟩
noncomputable def C38 : Cx := ⟨Try.prog, tnT, fun f => lookC f [(7, ci7), (42, ci42), (57, ci57), (58, ci58), (59, ci59)], 42⟩
noncomputable def ci38 : CInfo := ⟨(plains 1), TyTup [.v .Client], TyTup [.v .Client], decTup [.v .Client], fun x => (fun (a0 : G.Client) => cpy a0) x, flatTup [.v .Client], [(true, 41)], [1, 5, 8, 9, 11, 12, 15, 16, 18, 20, 23, 25, 28, 31]⟩
theorem e38 (x : TyTup [.v .Client]) : evalF C38 Try.f38 (Try.f38.body.getD .skip) an38 (plains 1) [1, 5, 8, 9, 11, 12, 15, 16, 18, 20, 23, 25, 28, 31] [(true, 41)] [.v .Client] (encTup [.v .Client] x) = laws_toClient.raw x := by kernel_rfl
theorem c38 : Contract Try.prog 38 ci38 :=
  evalF_ok (C := C38) (tnOk_of tn_mixed tn_ok _ _) (phi_cons c7 (phi_cons c42 (phi_cons c57 (phi_cons c58 (phi_cons c59 phi_nil))))) Try.func38 (by kernel_rfl : Try.f38.body = some (Try.f38.body.getD .skip)) (by kernel_rfl) (by kernel_rfl) an38 (plains 1) [1, 5, 8, 9, 11, 12, 15, 16, 18, 20, 23, 25, 28, 31] [(true, 41)] [.v .Client] [.v .Client] (fun x => (fun (a0 : G.Client) => cpy a0) x) rfl (by kernel_rfl)
    fun x r hb h => (e38 x).trans (laws_toClient.ok hb h)

def an17 : An := ⟨[], [(0, ⟨[.own 3 .Client], [(4, 4), (8, 21)], []⟩)], [(3, ⟨[.slot 4 (.v .int), .own 3 .Client], [(8, 21)], []⟩)], [], []⟩
noncomputable def C17 : Cx := ⟨Try.prog, tnT, fun f => lookC f [(38, ci38)], 23⟩
noncomputable def ci17 : CInfo := ⟨(plains 1), TyTup [.sl .Client], TyTup [.sl .Client], decTup [.sl .Client], fun x => (fun (a0 : List G.Client) => cpy a0) x, flatTup [.sl .Client], [(false, 1)], [0]⟩
theorem e17 (x : TyTup [.sl .Client]) : evalF C17 Try.f17 (Try.f17.body.getD .skip) an17 (plains 1) [0] [(false, 1)] [.sl .Client] (encTup [.sl .Client] x) = laws_toClientS.raw x := by kernel_rfl
theorem c17 : Contract Try.prog 17 ci17 :=
  evalF_ok (C := C17) (tnOk_of tn_mixed tn_ok _ _) (phi_cons c38 phi_nil) Try.func17 (by kernel_rfl : Try.f17.body = some (Try.f17.body.getD .skip)) (by kernel_rfl) (by kernel_rfl) an17 (plains 1) [0] [(false, 1)] [.sl .Client] [.sl .Client] (fun x => (fun (a0 : List G.Client) => cpy a0) x) rfl (by kernel_rfl)
    fun x r hb h => (e17 x).trans (laws_toClientS.ok hb h)

def an21 : An := ⟨[], [(0, ⟨[.own 3 .bs], [(4, 4), (8, 21)], []⟩)], [(3, ⟨[.slot 4 (.v .int), .own 3 .bs], [(8, 21)], []⟩)], [], []⟩
noncomputable def C21 : Cx := ⟨Try.prog, tnT, fun f => lookC f [(42, ci42)], 23⟩
noncomputable def ci21 : CInfo := ⟨(plains 1), TyTup [.sl .bs], TyTup [.sl .bs], decTup [.sl .bs], fun x => (fun (a0 : List (List UInt8)) => cpy a0) x, flatTup [.sl .bs], [(false, 1)], [0]⟩
theorem e21 (x : TyTup [.sl .bs]) : evalF C21 Try.f21 (Try.f21.body.getD .skip) an21 (plains 1) [0] [(false, 1)] [.sl .bs] (encTup [.sl .bs] x) = laws_toByteSS.raw x := by kernel_rfl
theorem c21 : Contract Try.prog 21 ci21 :=
  evalF_ok (C := C21) (tnOk_of tn_mixed tn_ok _ _) (phi_cons c42 phi_nil) Try.func21 (by kernel_rfl : Try.f21.body = some (Try.f21.body.getD .skip)) (by kernel_rfl) (by kernel_rfl) an21 (plains 1) [0] [(false, 1)] [.sl .bs] [.sl .bs] (fun x => (fun (a0 : List (List UInt8)) => cpy a0) x) rfl (by kernel_rfl)
    fun x r hb h => (e21 x).trans (laws_toByteSS.ok hb h)

def an39 : An := ⟨[], [], [], [], []⟩
noncomputable def C39 : Cx := ⟨Try.prog, tnT, fun f => lookC f [(42, ci42)], 9⟩
noncomputable def ci39 : CInfo := ⟨(plains 1), TyTup [.v .Jar], TyTup [.v .Jar], decTup [.v .Jar], fun x => (fun (a0 : G.Jar) => cpy a0) x, flatTup [.v .Jar], [(true, 1)], [0]⟩
theorem e39 (x : TyTup [.v .Jar]) : evalF C39 Try.f39 (Try.f39.body.getD .skip) an39 (plains 1) [0] [(true, 1)] [.v .Jar] (encTup [.v .Jar] x) = laws_toJar.raw x := by kernel_rfl
theorem c39 : Contract Try.prog 39 ci39 :=
  evalF_ok (C := C39) (tnOk_of tn_mixed tn_ok _ _) (phi_cons c42 phi_nil) Try.func39 (by kernel_rfl : Try.f39.body = some (Try.f39.body.getD .skip)) (by kernel_rfl) (by kernel_rfl) an39 (plains 1) [0] [(true, 1)] [.v .Jar] [.v .Jar] (fun x => (fun (a0 : G.Jar) => cpy a0) x) rfl (by kernel_rfl)
    fun x r hb h => (e39 x).trans (laws_toJar.ok hb h)

def an19 : An := ⟨[], [], [], [], []⟩
noncomputable def C19 : Cx := ⟨Try.prog, tnT, fun f => lookC f [(42, ci42)], 12⟩
noncomputable def ci19 : CInfo := ⟨(plains 1), TyTup [.v .Dice], TyTup [.v .Dice], decTup [.v .Dice], fun x => (fun (a0 : G.Dice) => cpy a0) x, flatTup [.v .Dice], [(true, 2)], [0]⟩
theorem e19 (x : TyTup [.v .Dice]) : evalF C19 Try.f19 (Try.f19.body.getD .skip) an19 (plains 1) [0] [(true, 2)] [.v .Dice] (encTup [.v .Dice] x) = laws_toDice.raw x := by kernel_rfl
theorem c19 : Contract Try.prog 19 ci19 :=
  evalF_ok (C := C19) (tnOk_of tn_mixed tn_ok _ _) (phi_cons c42 phi_nil) Try.func19 (by kernel_rfl : Try.f19.body = some (Try.f19.body.getD .skip)) (by kernel_rfl) (by kernel_rfl) an19 (plains 1) [0] [(true, 2)] [.v .Dice] [.v .Dice] (fun x => (fun (a0 : G.Dice) => cpy a0) x) rfl (by kernel_rfl)
    fun x r hb h => (e19 x).trans (laws_toDice.ok hb h)

def an88 : An := ⟨[], [], [], [], []⟩
noncomputable def C88 : Cx := ⟨Try.prog, tnT, fun f => lookC f [(7, ci7), (42, ci42)], 16⟩
noncomputable def ci88 : CInfo := ⟨(plains 1), TyTup [.v .Cand], TyTup [.v .Cand], decTup [.v .Cand], fun x => (fun (a0 : G.Cand) => cpy a0) x, flatTup [.v .Cand], [(true, 4)], [2]⟩
theorem e88 (x : TyTup [.v .Cand]) : evalF C88 Try.f88 (Try.f88.body.getD .skip) an88 (plains 1) [2] [(true, 4)] [.v .Cand] (encTup [.v .Cand] x) = laws_toCand.raw x := by kernel_rfl
theorem c88 : Contract Try.prog 88 ci88 :=
  evalF_ok (C := C88) (tnOk_of tn_mixed tn_ok _ _) (phi_cons c7 (phi_cons c42 phi_nil)) Try.func88 (by kernel_rfl : Try.f88.body = some (Try.f88.body.getD .skip)) (by kernel_rfl) (by kernel_rfl) an88 (plains 1) [2] [(true, 4)] [.v .Cand] [.v .Cand] (fun x => (fun (a0 : G.Cand) => cpy a0) x) rfl (by kernel_rfl)
    fun x r hb h => (e88 x).trans (laws_toCand.ok hb h)

def an84 : An := ⟨[], [(0, ⟨[.own 3 .Cand], [(4, 4), (8, 21)], []⟩)], [(3, ⟨[.slot 4 (.v .int), .own 3 .Cand], [(8, 21)], []⟩)], [], []⟩
noncomputable def C84 : Cx := ⟨Try.prog, tnT, fun f => lookC f [(88, ci88)], 23⟩
noncomputable def ci84 : CInfo := ⟨(plains 1), TyTup [.sl .Cand], TyTup [.sl .Cand], decTup [.sl .Cand], fun x => (fun (a0 : List G.Cand) => cpy a0) x, flatTup [.sl .Cand], [(false, 1)], [0]⟩
theorem e84 (x : TyTup [.sl .Cand]) : evalF C84 Try.f84 (Try.f84.body.getD .skip) an84 (plains 1) [0] [(false, 1)] [.sl .Cand] (encTup [.sl .Cand] x) = laws_toCandS.raw x := by kernel_rfl
theorem c84 : Contract Try.prog 84 ci84 :=
  evalF_ok (C := C84) (tnOk_of tn_mixed tn_ok _ _) (phi_cons c88 phi_nil) Try.func84 (by kernel_rfl : Try.f84.body = some (Try.f84.body.getD .skip)) (by kernel_rfl) (by kernel_rfl) an84 (plains 1) [0] [(false, 1)] [.sl .Cand] [.sl .Cand] (fun x => (fun (a0 : List G.Cand) => cpy a0) x) rfl (by kernel_rfl)
    fun x r hb h => (e84 x).trans (laws_toCandS.ok hb h)

def an78 : An := ⟨[], [], [], [], []⟩
noncomputable def C78 : Cx := ⟨Try.prog, tnT, fun f => lookC f [(7, ci7), (84, ci84)], 13⟩
noncomputable def ci78 : CInfo := ⟨(plains 1), TyTup [.v .Paths], TyTup [.v .Paths], decTup [.v .Paths], fun x => (fun (a0 : G.Paths) => cpy a0) x, flatTup [.v .Paths], [(true, 3)], [2]⟩
theorem e78 (x : TyTup [.v .Paths]) : evalF C78 Try.f78 (Try.f78.body.getD .skip) an78 (plains 1) [2] [(true, 3)] [.v .Paths] (encTup [.v .Paths] x) = laws_toPaths.raw x := by kernel_rfl
theorem c78 : Contract Try.prog 78 ci78 :=
  evalF_ok (C := C78) (tnOk_of tn_mixed tn_ok _ _) (phi_cons c7 (phi_cons c84 phi_nil)) Try.func78 (by kernel_rfl : Try.f78.body = some (Try.f78.body.getD .skip)) (by kernel_rfl) (by kernel_rfl) an78 (plains 1) [2] [(true, 3)] [.v .Paths] [.v .Paths] (fun x => (fun (a0 : G.Paths) => cpy a0) x) rfl (by kernel_rfl)
    fun x r hb h => (e78 x).trans (laws_toPaths.ok hb h)

def an72 : An := ⟨[], [], [], [], []⟩
noncomputable def C72 : Cx := ⟨Try.prog, tnT, fun f => lookC f [(42, ci42), (58, ci58), (78, ci78)], 33⟩
noncomputable def ci72 : CInfo := ⟨(plains 1), TyTup [.v .Sess], TyTup [.v .Sess], decTup [.v .Sess], fun x => (fun (a0 : G.Sess) => cpy a0) x, flatTup [.v .Sess], [(true, 24)], [1, 2, 4, 6, 9, 11, 14, 17, 20]⟩
theorem e72 (x : TyTup [.v .Sess]) : evalF C72 Try.f72 (Try.f72.body.getD .skip) an72 (plains 1) [1, 2, 4, 6, 9, 11, 14, 17, 20] [(true, 24)] [.v .Sess] (encTup [.v .Sess] x) = laws_toSess.raw x := by kernel_rfl
theorem c72 : Contract Try.prog 72 ci72 :=
  evalF_ok (C := C72) (tnOk_of tn_mixed tn_ok _ _) (phi_cons c42 (phi_cons c58 (phi_cons c78 phi_nil))) Try.func72 (by kernel_rfl : Try.f72.body = some (Try.f72.body.getD .skip)) (by kernel_rfl) (by kernel_rfl) an72 (plains 1) [1, 2, 4, 6, 9, 11, 14, 17, 20] [(true, 24)] [.v .Sess] [.v .Sess] (fun x => (fun (a0 : G.Sess) => cpy a0) x) rfl (by kernel_rfl)
    fun x r hb h => (e72 x).trans (laws_toSess.ok hb h)

def an60 : An := ⟨[], [(0, ⟨[.own 3 .Sess], [(4, 4), (8, 21)], []⟩)], [(3, ⟨[.slot 4 (.v .int), .own 3 .Sess], [(8, 21)], []⟩)], [], []⟩
noncomputable def C60 : Cx := ⟨Try.prog, tnT, fun f => lookC f [(72, ci72)], 23⟩
noncomputable def ci60 : CInfo := ⟨(plains 1), TyTup [.sl .Sess], TyTup [.sl .Sess], decTup [.sl .Sess], fun x => (fun (a0 : List G.Sess) => cpy a0) x, flatTup [.sl .Sess], [(false, 1)], [0]⟩
theorem e60 (x : TyTup [.sl .Sess]) : evalF C60 Try.f60 (Try.f60.body.getD .skip) an60 (plains 1) [0] [(false, 1)] [.sl .Sess] (encTup [.sl .Sess] x) = laws_toSessS.raw x := by kernel_rfl
theorem c60 : Contract Try.prog 60 ci60 :=
  evalF_ok (C := C60) (tnOk_of tn_mixed tn_ok _ _) (phi_cons c72 phi_nil) Try.func60 (by kernel_rfl : Try.f60.body = some (Try.f60.body.getD .skip)) (by kernel_rfl) (by kernel_rfl) an60 (plains 1) [0] [(false, 1)] [.sl .Sess] [.sl .Sess] (fun x => (fun (a0 : List G.Sess) => cpy a0) x) rfl (by kernel_rfl)
    fun x r hb h => (e60 x).trans (laws_toSessS.ok hb h)

def an40 : An := ⟨[], [], [], [], []⟩
noncomputable def C40 : Cx := ⟨Try.prog, tnT, fun f => lookC f [(60, ci60)], 12⟩
noncomputable def ci40 : CInfo := ⟨(plains 1), TyTup [.v .Tab], TyTup [.v .Tab], decTup [.v .Tab], fun x => (fun (a0 : G.Tab) => cpy a0) x, flatTup [.v .Tab], [(true, 2)], [1]⟩
theorem e40 (x : TyTup [.v .Tab]) : evalF C40 Try.f40 (Try.f40.body.getD .skip) an40 (plains 1) [1] [(true, 2)] [.v .Tab] (encTup [.v .Tab] x) = laws_toTab.raw x := by kernel_rfl
theorem c40 : Contract Try.prog 40 ci40 :=
  evalF_ok (C := C40) (tnOk_of tn_mixed tn_ok _ _) (phi_cons c60 phi_nil) Try.func40 (by kernel_rfl : Try.f40.body = some (Try.f40.body.getD .skip)) (by kernel_rfl) (by kernel_rfl) an40 (plains 1) [1] [(true, 2)] [.v .Tab] [.v .Tab] (fun x => (fun (a0 : G.Tab) => cpy a0) x) rfl (by kernel_rfl)
    fun x r hb h => (e40 x).trans (laws_toTab.ok hb h)

def an61 : An := ⟨[], [], [], [], []⟩
noncomputable def C61 : Cx := ⟨Try.prog, tnT, fun f => lookC f [(7, ci7)], 15⟩
noncomputable def ci61 : CInfo := ⟨(plains 1), TyTup [.v .Credit], TyTup [.v .Credit], decTup [.v .Credit], fun x => (fun (a0 : G.Credit) => cpy a0) x, flatTup [.v .Credit], [(true, 4)], []⟩
theorem e61 (x : TyTup [.v .Credit]) : evalF C61 Try.f61 (Try.f61.body.getD .skip) an61 (plains 1) [] [(true, 4)] [.v .Credit] (encTup [.v .Credit] x) = laws_toCredit.raw x := by kernel_rfl
theorem c61 : Contract Try.prog 61 ci61 :=
  evalF_ok (C := C61) (tnOk_of tn_mixed tn_ok _ _) (phi_cons c7 phi_nil) Try.func61 (by kernel_rfl : Try.f61.body = some (Try.f61.body.getD .skip)) (by kernel_rfl) (by kernel_rfl) an61 (plains 1) [] [(true, 4)] [.v .Credit] [.v .Credit] (fun x => (fun (a0 : G.Credit) => cpy a0) x) rfl (by kernel_rfl)
    fun x r hb h => (e61 x).trans (laws_toCredit.ok hb h)

def an41 : An := ⟨[], [(0, ⟨[.own 3 .Credit], [(4, 4), (8, 21)], []⟩)], [(3, ⟨[.slot 4 (.v .int), .own 3 .Credit], [(8, 21)], []⟩)], [], []⟩
noncomputable def C41 : Cx := ⟨Try.prog, tnT, fun f => lookC f [(61, ci61)], 23⟩
noncomputable def ci41 : CInfo := ⟨(plains 1), TyTup [.sl .Credit], TyTup [.sl .Credit], decTup [.sl .Credit], fun x => (fun (a0 : List G.Credit) => cpy a0) x, flatTup [.sl .Credit], [(false, 1)], [0]⟩
theorem e41 (x : TyTup [.sl .Credit]) : evalF C41 Try.f41 (Try.f41.body.getD .skip) an41 (plains 1) [0] [(false, 1)] [.sl .Credit] (encTup [.sl .Credit] x) = laws_toCreditS.raw x := by kernel_rfl
theorem c41 : Contract Try.prog 41 ci41 :=
  evalF_ok (C := C41) (tnOk_of tn_mixed tn_ok _ _) (phi_cons c61 phi_nil) Try.func41 (by kernel_rfl : Try.f41.body = some (Try.f41.body.getD .skip)) (by kernel_rfl) (by kernel_rfl) an41 (plains 1) [0] [(false, 1)] [.sl .Credit] [.sl .Credit] (fun x => (fun (a0 : List G.Credit) => cpy a0) x) rfl (by kernel_rfl)
    fun x r hb h => (e41 x).trans (laws_toCreditS.ok hb h)

def an18 : An := ⟨[], [], [], [], []⟩
noncomputable def C18 : Cx := ⟨Try.prog, tnT, fun f => lookC f [(19, ci19), (21, ci21), (39, ci39), (40, ci40), (41, ci41)], 25⟩
noncomputable def ci18 : CInfo := ⟨(plains 1), TyTup [.v .Server], TyTup [.v .Server], decTup [.v .Server], fun x => (fun (a0 : G.Server) => cpy a0) x, flatTup [.v .Server], [(true, 7)], [0, 1, 2, 5, 6]⟩
theorem e18 (x : TyTup [.v .Server]) : evalF C18 Try.f18 (Try.f18.body.getD .skip) an18 (plains 1) [0, 1, 2, 5, 6] [(true, 7)] [.v .Server] (encTup [.v .Server] x) = laws_toServer.raw x := by kernel_rfl
theorem c18 : Contract Try.prog 18 ci18 :=
  evalF_ok (C := C18) (tnOk_of tn_mixed tn_ok _ _) (phi_cons c19 (phi_cons c21 (phi_cons c39 (phi_cons c40 (phi_cons c41 phi_nil))))) Try.func18 (by kernel_rfl : Try.f18.body = some (Try.f18.body.getD .skip)) (by kernel_rfl) (by kernel_rfl) an18 (plains 1) [0, 1, 2, 5, 6] [(true, 7)] [.v .Server] [.v .Server] (fun x => (fun (a0 : G.Server) => cpy a0) x) rfl (by kernel_rfl)
    fun x r hb h => (e18 x).trans (laws_toServer.ok hb h)

def an43 : An := ⟨[], [], [], [], []⟩
noncomputable def C43 : Cx := ⟨Try.prog, tnT, fun f => lookC f [(7, ci7), (42, ci42)], 17⟩
noncomputable def ci43 : CInfo := ⟨(plains 1), TyTup [.v .Wire], TyTup [.v .Wire], decTup [.v .Wire], fun x => (fun (a0 : G.Wire) => cpy a0) x, flatTup [.v .Wire], [(true, 5)], [4]⟩
theorem e43 (x : TyTup [.v .Wire]) : evalF C43 Try.f43 (Try.f43.body.getD .skip) an43 (plains 1) [4] [(true, 5)] [.v .Wire] (encTup [.v .Wire] x) = laws_toWire.raw x := by kernel_rfl
theorem c43 : Contract Try.prog 43 ci43 :=
  evalF_ok (C := C43) (tnOk_of tn_mixed tn_ok _ _) (phi_cons c7 (phi_cons c42 phi_nil)) Try.func43 (by kernel_rfl : Try.f43.body = some (Try.f43.body.getD .skip)) (by kernel_rfl) (by kernel_rfl) an43 (plains 1) [4] [(true, 5)] [.v .Wire] [.v .Wire] (fun x => (fun (a0 : G.Wire) => cpy a0) x) rfl (by kernel_rfl)
    fun x r hb h => (e43 x).trans (laws_toWire.ok hb h)

def an20 : An := ⟨[], [(0, ⟨[.own 3 .Wire], [(4, 4), (8, 21)], []⟩)], [(3, ⟨[.slot 4 (.v .int), .own 3 .Wire], [(8, 21)], []⟩)], [], []⟩
noncomputable def C20 : Cx := ⟨Try.prog, tnT, fun f => lookC f [(43, ci43)], 23⟩
noncomputable def ci20 : CInfo := ⟨(plains 1), TyTup [.sl .Wire], TyTup [.sl .Wire], decTup [.sl .Wire], fun x => (fun (a0 : List G.Wire) => cpy a0) x, flatTup [.sl .Wire], [(false, 1)], [0]⟩
theorem e20 (x : TyTup [.sl .Wire]) : evalF C20 Try.f20 (Try.f20.body.getD .skip) an20 (plains 1) [0] [(false, 1)] [.sl .Wire] (encTup [.sl .Wire] x) = laws_toWireS.raw x := by kernel_rfl
theorem c20 : Contract Try.prog 20 ci20 :=
  evalF_ok (C := C20) (tnOk_of tn_mixed tn_ok _ _) (phi_cons c43 phi_nil) Try.func20 (by kernel_rfl : Try.f20.body = some (Try.f20.body.getD .skip)) (by kernel_rfl) (by kernel_rfl) an20 (plains 1) [0] [(false, 1)] [.sl .Wire] [.sl .Wire] (fun x => (fun (a0 : List G.Wire) => cpy a0) x) rfl (by kernel_rfl)
    fun x r hb h => (e20 x).trans (laws_toWireS.ok hb h)

def an44 : An := ⟨[], [], [], [], []⟩
noncomputable def C44 : Cx := ⟨Try.prog, tnT, fun f => lookC f [(7, ci7), (42, ci42)], 43⟩
noncomputable def ci44 : CInfo := ⟨(plains 1), TyTup [.v .Note], TyTup [.v .Note], decTup [.v .Note], fun x => (fun (a0 : G.Note) => cpy a0) x, flatTup [.v .Note], [(true, 12)], [3, 4, 7, 8]⟩
theorem e44 (x : TyTup [.v .Note]) : evalF C44 Try.f44 (Try.f44.body.getD .skip) an44 (plains 1) [3, 4, 7, 8] [(true, 12)] [.v .Note] (encTup [.v .Note] x) = laws_toNote.raw x := by kernel_rfl
theorem c44 : Contract Try.prog 44 ci44 :=
  evalF_ok (C := C44) (tnOk_of tn_mixed tn_ok _ _) (phi_cons c7 (phi_cons c42 phi_nil)) Try.func44 (by kernel_rfl : Try.f44.body = some (Try.f44.body.getD .skip)) (by kernel_rfl) (by kernel_rfl) an44 (plains 1) [3, 4, 7, 8] [(true, 12)] [.v .Note] [.v .Note] (fun x => (fun (a0 : G.Note) => cpy a0) x) rfl (by kernel_rfl)
    fun x r hb h => (e44 x).trans (laws_toNote.ok hb h)

def an22 : An := ⟨[], [(0, ⟨[.own 3 .Note], [(4, 4), (8, 21)], []⟩)], [(3, ⟨[.slot 4 (.v .int), .own 3 .Note], [(8, 21)], []⟩)], [], []⟩
noncomputable def C22 : Cx := ⟨Try.prog, tnT, fun f => lookC f [(44, ci44)], 23⟩
noncomputable def ci22 : CInfo := ⟨(plains 1), TyTup [.sl .Note], TyTup [.sl .Note], decTup [.sl .Note], fun x => (fun (a0 : List G.Note) => cpy a0) x, flatTup [.sl .Note], [(false, 1)], [0]⟩
theorem e22 (x : TyTup [.sl .Note]) : evalF C22 Try.f22 (Try.f22.body.getD .skip) an22 (plains 1) [0] [(false, 1)] [.sl .Note] (encTup [.sl .Note] x) = laws_toNoteS.raw x := by kernel_rfl
theorem c22 : Contract Try.prog 22 ci22 :=
  evalF_ok (C := C22) (tnOk_of tn_mixed tn_ok _ _) (phi_cons c44 phi_nil) Try.func22 (by kernel_rfl : Try.f22.body = some (Try.f22.body.getD .skip)) (by kernel_rfl) (by kernel_rfl) an22 (plains 1) [0] [(false, 1)] [.sl .Note] [.sl .Note] (fun x => (fun (a0 : List G.Note) => cpy a0) x) rfl (by kernel_rfl)
    fun x r hb h => (e22 x).trans (laws_toNoteS.ok hb h)

def an6 : An := ⟨[], [], [], [], []⟩
noncomputable def C6 : Cx := ⟨Try.prog, tnT, fun f => lookC f [(17, ci17), (18, ci18), (19, ci19), (20, ci20), (21, ci21), (22, ci22)], 32⟩
noncomputable def ci6 : CInfo := ⟨(plains 1), TyTup [.v .World], TyTup [.v .World], decTup [.v .World], fun x => (fun (a0 : G.World) => cpy a0) x, flatTup [.v .World], [(true, 14)], [1, 2, 3, 4, 7, 8, 9, 11, 12, 13]⟩
theorem e6 (x : TyTup [.v .World]) : evalF C6 Try.f6 (Try.f6.body.getD .skip) an6 (plains 1) [1, 2, 3, 4, 7, 8, 9, 11, 12, 13] [(true, 14)] [.v .World] (encTup [.v .World] x) = laws_toWorld.raw x := by kernel_rfl
theorem c6 : Contract Try.prog 6 ci6 :=
  evalF_ok (C := C6) (tnOk_of tn_mixed tn_ok _ _) (phi_cons c17 (phi_cons c18 (phi_cons c19 (phi_cons c20 (phi_cons c21 (phi_cons c22 phi_nil)))))) Try.func6 (by kernel_rfl : Try.f6.body = some (Try.f6.body.getD .skip)) (by kernel_rfl) (by kernel_rfl) an6 (plains 1) [1, 2, 3, 4, 7, 8, 9, 11, 12, 13] [(true, 14)] [.v .World] [.v .World] (fun x => (fun (a0 : G.World) => cpy a0) x) rfl (by kernel_rfl)
    fun x r hb h => (e6 x).trans (laws_toWorld.ok hb h)

def an56 : An := ⟨[], [], [], [(1, ⟨[.slot 6 (.v .bool)], [(7, 14)], []⟩)], []⟩
noncomputable def C56 : Cx := ⟨Try.prog, tnT, fun f => lookC f [], 15⟩
noncomputable def ci56 : CInfo := ⟨(plains 3), TyTup [.v .int, .v .int, .v .int], TyTup [.v .bool], decTup [.v .int, .v .int, .v .int], fun x => some ((fun (a0 : Int) (a1 : Int) (a2 : Int) => inR a0 a1 a2) x.1 x.2.1 x.2.2), flatTup [.v .bool], [(false, 1)], []⟩
theorem e56 (x : TyTup [.v .int, .v .int, .v .int]) : evalF C56 Try.f56 (Try.f56.body.getD .skip) an56 (plains 3) [] [(false, 1)] [.v .bool] (encTup [.v .int, .v .int, .v .int] x) = spec_l1In.raw x.1 x.2.1 x.2.2 := by kernel_rfl
theorem c56 : Contract Try.prog 56 ci56 :=
  evalF_ok (C := C56) (tnOk_of tn_mixed tn_ok _ _) phi_nil Try.func56 (by kernel_rfl : Try.f56.body = some (Try.f56.body.getD .skip)) (by kernel_rfl) (by kernel_rfl) an56 (plains 3) [] [(false, 1)] [.v .int, .v .int, .v .int] [.v .bool] (fun x => some ((fun (a0 : Int) (a1 : Int) (a2 : Int) => inR a0 a1 a2) x.1 x.2.1 x.2.2)) rfl (by kernel_rfl)
    fun x r hb h => (e56 x).trans ((spec_l1In.ok hb).trans h)

def an37 : An := ⟨[], [], [], [], []⟩
noncomputable def C37 : Cx := ⟨Try.prog, tnT, fun f => lookC f [(56, ci56)], 12⟩
noncomputable def ci37 : CInfo := ⟨(plains 1), TyTup [.v .int], TyTup [.v .Addr], decTup [.v .int], fun x => some ((fun (a0 : Int) => near a0) x), flatTup [.v .Addr], [(true, 2)], []⟩
theorem e37 (x : TyTup [.v .int]) : evalF C37 Try.f37 (Try.f37.body.getD .skip) an37 (plains 1) [] [(true, 2)] [.v .Addr] (encTup [.v .int] x) = spec_Near.raw x := by kernel_rfl
theorem c37 : Contract Try.prog 37 ci37 :=
  evalF_ok (C := C37) (tnOk_of tn_mixed tn_ok _ _) (phi_cons c56 phi_nil) Try.func37 (by kernel_rfl : Try.f37.body = some (Try.f37.body.getD .skip)) (by kernel_rfl) (by kernel_rfl) an37 (plains 1) [] [(true, 2)] [.v .int] [.v .Addr] (fun x => some ((fun (a0 : Int) => near a0) x)) rfl (by kernel_rfl)
    fun x r hb h => (e37 x).trans ((spec_Near.ok hb).trans h)

def an16 : An := ⟨[], [], [], [], []⟩
noncomputable def C16 : Cx := ⟨Try.prog, tnT, fun f => lookC f [(37, ci37)], 2⟩
noncomputable def ci16 : CInfo := ⟨(plains 0), TyTup [], TyTup [.v .Addr], decTup [], fun x => some (hub), flatTup [.v .Addr], [(true, 2)], []⟩
theorem e16 (x : TyTup []) : evalF C16 Try.f16 (Try.f16.body.getD .skip) an16 (plains 0) [] [(true, 2)] [.v .Addr] (encTup [] x) = spec_Hub.raw := by kernel_rfl
theorem c16 : Contract Try.prog 16 ci16 :=
  evalF_ok (C := C16) (tnOk_of tn_mixed tn_ok _ _) (phi_cons c37 phi_nil) Try.func16 (by kernel_rfl : Try.f16.body = some (Try.f16.body.getD .skip)) (by kernel_rfl) (by kernel_rfl) an16 (plains 0) [] [(true, 2)] [] [.v .Addr] (fun x => some (hub)) rfl (by kernel_rfl)
    fun x r hb h => (e16 x).trans ((spec_Hub.ok hb).trans h)

def an5 : An := ⟨[], [(0, ⟨[], [(4, 5), (9, 29)], []⟩)], [(4, ⟨[.slot 5 (.v .int)], [(4, 4), (9, 29)], []⟩)], [], []⟩
noncomputable def C5 : Cx := ⟨Try.prog, tnT, fun f => lookC f [(16, ci16)], 30⟩
noncomputable def ci5 : CInfo := ⟨(plains 2), TyTup [.v .World, .v .Addr], TyTup [.v .int], decTup [.v .World, .v .Addr], fun x => (fun (a0 : G.World) (a1 : G.Addr) => partyAtO a0 a1) x.1 x.2, flatTup [.v .int], [(false, 1)], []⟩
theorem e5 (x : TyTup [.v .World, .v .Addr]) : evalF C5 Try.f5 (Try.f5.body.getD .skip) an5 (plains 2) [] [(false, 1)] [.v .int] (encTup [.v .World, .v .Addr] x) = spec_PartyAt.raw x.1 x.2 := by kernel_rfl
theorem c5 : Contract Try.prog 5 ci5 :=
  evalF_ok (C := C5) (tnOk_of tn_mixed tn_ok _ _) (phi_cons c16 phi_nil) Try.func5 (by kernel_rfl : Try.f5.body = some (Try.f5.body.getD .skip)) (by kernel_rfl) (by kernel_rfl) an5 (plains 2) [] [(false, 1)] [.v .World, .v .Addr] [.v .int] (fun x => (fun (a0 : G.World) (a1 : G.Addr) => partyAtO a0 a1) x.1 x.2) rfl (by kernel_rfl)
    fun x r hb h => (e5 x).trans (spec_PartyAt.ok hb h)

def an62 : An := ⟨[], [], [], [(1, ⟨[.slot 6 (.v .bool)], [(7, 14)], []⟩)], []⟩
noncomputable def C62 : Cx := ⟨Try.prog, tnT, fun f => lookC f [], 15⟩
noncomputable def ci62 : CInfo := ⟨(plains 3), TyTup [.v .int, .v .int, .v .int], TyTup [.v .bool], decTup [.v .int, .v .int, .v .int], fun x => some ((fun (a0 : Int) (a1 : Int) (a2 : Int) => inR a0 a1 a2) x.1 x.2.1 x.2.2), flatTup [.v .bool], [(false, 1)], []⟩
theorem e62 (x : TyTup [.v .int, .v .int, .v .int]) : evalF C62 Try.f62 (Try.f62.body.getD .skip) an62 (plains 3) [] [(false, 1)] [.v .bool] (encTup [.v .int, .v .int, .v .int] x) = impl_within.raw x.1 x.2.1 x.2.2 := by kernel_rfl
theorem c62 : Contract Try.prog 62 ci62 :=
  evalF_ok (C := C62) (tnOk_of tn_mixed tn_ok _ _) phi_nil Try.func62 (by kernel_rfl : Try.f62.body = some (Try.f62.body.getD .skip)) (by kernel_rfl) (by kernel_rfl) an62 (plains 3) [] [(false, 1)] [.v .int, .v .int, .v .int] [.v .bool] (fun x => some ((fun (a0 : Int) (a1 : Int) (a2 : Int) => inR a0 a1 a2) x.1 x.2.1 x.2.2)) rfl (by kernel_rfl)
    fun x r hb h => (e62 x).trans ((impl_within.ok hb).trans h)

def an45 : An := ⟨[], [], [], [], []⟩
noncomputable def C45 : Cx := ⟨Try.prog, tnT, fun f => lookC f [(62, ci62)], 12⟩
noncomputable def ci45 : CInfo := ⟨(plains 1), TyTup [.v .int], TyTup [.v .Addr], decTup [.v .int], fun x => some ((fun (a0 : Int) => near a0) x), flatTup [.v .Addr], [(true, 2)], []⟩
theorem e45 (x : TyTup [.v .int]) : evalF C45 Try.f45 (Try.f45.body.getD .skip) an45 (plains 1) [] [(true, 2)] [.v .Addr] (encTup [.v .int] x) = impl_Near.raw x := by kernel_rfl
theorem c45 : Contract Try.prog 45 ci45 :=
  evalF_ok (C := C45) (tnOk_of tn_mixed tn_ok _ _) (phi_cons c62 phi_nil) Try.func45 (by kernel_rfl : Try.f45.body = some (Try.f45.body.getD .skip)) (by kernel_rfl) (by kernel_rfl) an45 (plains 1) [] [(true, 2)] [.v .int] [.v .Addr] (fun x => some ((fun (a0 : Int) => near a0) x)) rfl (by kernel_rfl)
    fun x r hb h => (e45 x).trans ((impl_Near.ok hb).trans h)

def an23 : An := ⟨[], [], [], [], []⟩
noncomputable def C23 : Cx := ⟨Try.prog, tnT, fun f => lookC f [(45, ci45)], 2⟩
noncomputable def ci23 : CInfo := ⟨(plains 0), TyTup [], TyTup [.v .Addr], decTup [], fun x => some (hub), flatTup [.v .Addr], [(true, 2)], []⟩
theorem e23 (x : TyTup []) : evalF C23 Try.f23 (Try.f23.body.getD .skip) an23 (plains 0) [] [(true, 2)] [.v .Addr] (encTup [] x) = impl_Hub.raw := by kernel_rfl
theorem c23 : Contract Try.prog 23 ci23 :=
  evalF_ok (C := C23) (tnOk_of tn_mixed tn_ok _ _) (phi_cons c45 phi_nil) Try.func23 (by kernel_rfl : Try.f23.body = some (Try.f23.body.getD .skip)) (by kernel_rfl) (by kernel_rfl) an23 (plains 0) [] [(true, 2)] [] [.v .Addr] (fun x => some (hub)) rfl (by kernel_rfl)
    fun x r hb h => (e23 x).trans ((impl_Hub.ok hb).trans h)

def an8 : An := ⟨[], [(0, ⟨[], [(4, 4), (6, 6), (13, 23)], []⟩)], [(4, ⟨[.slot 13 (.v .int)], [(4, 4), (6, 6), (14, 23)], []⟩)], [], []⟩
noncomputable def C8 : Cx := ⟨Try.prog, tnT, fun f => lookC f [(23, ci23)], 24⟩
noncomputable def ci8 : CInfo := ⟨(plains 2), TyTup [.v .World, .v .Addr], TyTup [.v .int], decTup [.v .World, .v .Addr], fun x => (fun (a0 : G.World) (a1 : G.Addr) => partyAtO a0 a1) x.1 x.2, flatTup [.v .int], [(false, 1)], []⟩
theorem e8 (x : TyTup [.v .World, .v .Addr]) : evalF C8 Try.f8 (Try.f8.body.getD .skip) an8 (plains 2) [] [(false, 1)] [.v .int] (encTup [.v .World, .v .Addr] x) = impl_PartyAt.raw x.1 x.2 := by kernel_rfl
theorem c8 : Contract Try.prog 8 ci8 :=
  evalF_ok (C := C8) (tnOk_of tn_mixed tn_ok _ _) (phi_cons c23 phi_nil) Try.func8 (by kernel_rfl : Try.f8.body = some (Try.f8.body.getD .skip)) (by kernel_rfl) (by kernel_rfl) an8 (plains 2) [] [(false, 1)] [.v .World, .v .Addr] [.v .int] (fun x => (fun (a0 : G.World) (a1 : G.Addr) => partyAtO a0 a1) x.1 x.2) rfl (by kernel_rfl)
    fun x r hb h => (e8 x).trans (impl_PartyAt.ok hb h)

def an50 : An := ⟨[], [(0, ⟨[], [(4, 5), (11, 25)], []⟩)], [(4, ⟨[.slot 5 (.v .int)], [(4, 4), (11, 25)], []⟩)], [], []⟩
noncomputable def C50 : Cx := ⟨Try.prog, tnT, fun f => lookC f [], 26⟩
noncomputable def ci50 : CInfo := ⟨(plains 2), TyTup [.sl .byte, .sl .byte], TyTup [.v .bool], decTup [.sl .byte, .sl .byte], fun x => some ((fun (a0 : List UInt8) (a1 : List UInt8) => eqq a0 a1) x.1 x.2), flatTup [.v .bool], [(false, 1)], []⟩
theorem e50 (x : TyTup [.sl .byte, .sl .byte]) : evalF C50 Try.f50 (Try.f50.body.getD .skip) an50 (plains 2) [] [(false, 1)] [.v .bool] (encTup [.sl .byte, .sl .byte] x) = laws_eqByteS.raw x.1 x.2 := by kernel_rfl
theorem c50 : Contract Try.prog 50 ci50 :=
  evalF_ok (C := C50) (tnOk_of tn_mixed tn_ok _ _) phi_nil Try.func50 (by kernel_rfl : Try.f50.body = some (Try.f50.body.getD .skip)) (by kernel_rfl) (by kernel_rfl) an50 (plains 2) [] [(false, 1)] [.sl .byte, .sl .byte] [.v .bool] (fun x => some ((fun (a0 : List UInt8) (a1 : List UInt8) => eqq a0 a1) x.1 x.2)) rfl (by kernel_rfl)
    fun x r hb h => (e50 x).trans ((laws_eqByteS.ok hb).trans h)

def an63 : An := ⟨[], [], [], [], []⟩
noncomputable def C63 : Cx := ⟨Try.prog, tnT, fun f => lookC f [], 15⟩
noncomputable def ci63 : CInfo := ⟨(plains 2), TyTup [.v .Addr, .v .Addr], TyTup [.v .bool], decTup [.v .Addr, .v .Addr], fun x => some ((fun (a0 : G.Addr) (a1 : G.Addr) => eqq a0 a1) x.1 x.2), flatTup [.v .bool], [(false, 1)], []⟩
theorem e63 (x : TyTup [.v .Addr, .v .Addr]) : evalF C63 Try.f63 (Try.f63.body.getD .skip) an63 (plains 2) [] [(false, 1)] [.v .bool] (encTup [.v .Addr, .v .Addr] x) = laws_eqAddr.raw x.1 x.2 := by kernel_rfl
theorem c63 : Contract Try.prog 63 ci63 :=
  evalF_ok (C := C63) (tnOk_of tn_mixed tn_ok _ _) phi_nil Try.func63 (by kernel_rfl : Try.f63.body = some (Try.f63.body.getD .skip)) (by kernel_rfl) (by kernel_rfl) an63 (plains 2) [] [(false, 1)] [.v .Addr, .v .Addr] [.v .bool] (fun x => some ((fun (a0 : G.Addr) (a1 : G.Addr) => eqq a0 a1) x.1 x.2)) rfl (by kernel_rfl)
    fun x r hb h => (e63 x).trans ((laws_eqAddr.ok hb).trans h)

def an64 : An := ⟨[], [], [], [], []⟩
noncomputable def C64 : Cx := ⟨Try.prog, tnT, fun f => lookC f [(50, ci50)], 66⟩
noncomputable def ci64 : CInfo := ⟨(plains 2), TyTup [.v .Frame, .v .Frame], TyTup [.v .bool], decTup [.v .Frame, .v .Frame], fun x => some ((fun (a0 : G.Frame) (a1 : G.Frame) => eqq a0 a1) x.1 x.2), flatTup [.v .bool], [(false, 1)], []⟩
theorem e64 (x : TyTup [.v .Frame, .v .Frame]) : evalF C64 Try.f64 (Try.f64.body.getD .skip) an64 (plains 2) [] [(false, 1)] [.v .bool] (encTup [.v .Frame, .v .Frame] x) = laws_eqFrame.raw x.1 x.2 := by kernel_rfl
theorem c64 : Contract Try.prog 64 ci64 :=
  evalF_ok (C := C64) (tnOk_of tn_mixed tn_ok _ _) (phi_cons c50 phi_nil) Try.func64 (by kernel_rfl : Try.f64.body = some (Try.f64.body.getD .skip)) (by kernel_rfl) (by kernel_rfl) an64 (plains 2) [] [(false, 1)] [.v .Frame, .v .Frame] [.v .bool] (fun x => some ((fun (a0 : G.Frame) (a1 : G.Frame) => eqq a0 a1) x.1 x.2)) rfl (by kernel_rfl)
    fun x r hb h => (e64 x).trans ((laws_eqFrame.ok hb).trans h)

def an85 : An := ⟨[], [(0, ⟨[], [(4, 5), (11, 25)], []⟩)], [(4, ⟨[.slot 5 (.v .int)], [(4, 4), (11, 25)], []⟩)], [], []⟩
noncomputable def C85 : Cx := ⟨Try.prog, tnT, fun f => lookC f [], 26⟩
noncomputable def ci85 : CInfo := ⟨(plains 2), TyTup [.sl .int, .sl .int], TyTup [.v .bool], decTup [.sl .int, .sl .int], fun x => some ((fun (a0 : List Int) (a1 : List Int) => eqq a0 a1) x.1 x.2), flatTup [.v .bool], [(false, 1)], []⟩
theorem e85 (x : TyTup [.sl .int, .sl .int]) : evalF C85 Try.f85 (Try.f85.body.getD .skip) an85 (plains 2) [] [(false, 1)] [.v .bool] (encTup [.sl .int, .sl .int] x) = laws_eqIntS.raw x.1 x.2 := by kernel_rfl
theorem c85 : Contract Try.prog 85 ci85 :=
  evalF_ok (C := C85) (tnOk_of tn_mixed tn_ok _ _) phi_nil Try.func85 (by kernel_rfl : Try.f85.body = some (Try.f85.body.getD .skip)) (by kernel_rfl) (by kernel_rfl) an85 (plains 2) [] [(false, 1)] [.sl .int, .sl .int] [.v .bool] (fun x => some ((fun (a0 : List Int) (a1 : List Int) => eqq a0 a1) x.1 x.2)) rfl (by kernel_rfl)
    fun x r hb h => (e85 x).trans ((laws_eqIntS.ok hb).trans h)

def an79 : An := ⟨[], [], [], [], []⟩
noncomputable def C79 : Cx := ⟨Try.prog, tnT, fun f => lookC f [(85, ci85)], 16⟩
noncomputable def ci79 : CInfo := ⟨(plains 2), TyTup [.v .Win, .v .Win], TyTup [.v .bool], decTup [.v .Win, .v .Win], fun x => some ((fun (a0 : G.Win) (a1 : G.Win) => eqq a0 a1) x.1 x.2), flatTup [.v .bool], [(false, 1)], []⟩
theorem e79 (x : TyTup [.v .Win, .v .Win]) : evalF C79 Try.f79 (Try.f79.body.getD .skip) an79 (plains 2) [] [(false, 1)] [.v .bool] (encTup [.v .Win, .v .Win] x) = laws_eqWin.raw x.1 x.2 := by kernel_rfl
theorem c79 : Contract Try.prog 79 ci79 :=
  evalF_ok (C := C79) (tnOk_of tn_mixed tn_ok _ _) (phi_cons c85 phi_nil) Try.func79 (by kernel_rfl : Try.f79.body = some (Try.f79.body.getD .skip)) (by kernel_rfl) (by kernel_rfl) an79 (plains 2) [] [(false, 1)] [.v .Win, .v .Win] [.v .bool] (fun x => some ((fun (a0 : G.Win) (a1 : G.Win) => eqq a0 a1) x.1 x.2)) rfl (by kernel_rfl)
    fun x r hb h => (e79 x).trans ((laws_eqWin.ok hb).trans h)

def an73 : An := ⟨[], [], [], [], []⟩
noncomputable def C73 : Cx := ⟨Try.prog, tnT, fun f => lookC f [(50, ci50), (79, ci79)], 27⟩
noncomputable def ci73 : CInfo := ⟨(plains 2), TyTup [.v .Ep, .v .Ep], TyTup [.v .bool], decTup [.v .Ep, .v .Ep], fun x => some ((fun (a0 : G.Ep) (a1 : G.Ep) => eqq a0 a1) x.1 x.2), flatTup [.v .bool], [(false, 1)], []⟩
theorem e73 (x : TyTup [.v .Ep, .v .Ep]) : evalF C73 Try.f73 (Try.f73.body.getD .skip) an73 (plains 2) [] [(false, 1)] [.v .bool] (encTup [.v .Ep, .v .Ep] x) = laws_eqEp.raw x.1 x.2 := by kernel_rfl
theorem c73 : Contract Try.prog 73 ci73 :=
  evalF_ok (C := C73) (tnOk_of tn_mixed tn_ok _ _) (phi_cons c50 (phi_cons c79 phi_nil)) Try.func73 (by kernel_rfl : Try.f73.body = some (Try.f73.body.getD .skip)) (by kernel_rfl) (by kernel_rfl) an73 (plains 2) [] [(false, 1)] [.v .Ep, .v .Ep] [.v .bool] (fun x => some ((fun (a0 : G.Ep) (a1 : G.Ep) => eqq a0 a1) x.1 x.2)) rfl (by kernel_rfl)
    fun x r hb h => (e73 x).trans ((laws_eqEp.ok hb).trans h)

def an65 : An := ⟨[], [], [], [], []⟩
noncomputable def C65 : Cx := ⟨Try.prog, tnT, fun f => lookC f [(50, ci50), (73, ci73)], 44⟩
noncomputable def ci65 : CInfo := ⟨(plains 2), TyTup [.v .Chan, .v .Chan], TyTup [.v .bool], decTup [.v .Chan, .v .Chan], fun x => some ((fun (a0 : G.Chan) (a1 : G.Chan) => eqq a0 a1) x.1 x.2), flatTup [.v .bool], [(false, 1)], []⟩
theorem e65 (x : TyTup [.v .Chan, .v .Chan]) : evalF C65 Try.f65 (Try.f65.body.getD .skip) an65 (plains 2) [] [(false, 1)] [.v .bool] (encTup [.v .Chan, .v .Chan] x) = laws_eqChan.raw x.1 x.2 := by kernel_rfl
theorem c65 : Contract Try.prog 65 ci65 :=
  evalF_ok (C := C65) (tnOk_of tn_mixed tn_ok _ _) (phi_cons c50 (phi_cons c73 phi_nil)) Try.func65 (by kernel_rfl : Try.f65.body = some (Try.f65.body.getD .skip)) (by kernel_rfl) (by kernel_rfl) an65 (plains 2) [] [(false, 1)] [.v .Chan, .v .Chan] [.v .bool] (fun x => some ((fun (a0 : G.Chan) (a1 : G.Chan) => eqq a0 a1) x.1 x.2)) rfl (by kernel_rfl)
    fun x r hb h => (e65 x).trans ((laws_eqChan.ok hb).trans h)

def an66 : An := ⟨[], [], [], [], []⟩
noncomputable def C66 : Cx := ⟨Try.prog, tnT, fun f => lookC f [], 25⟩
noncomputable def ci66 : CInfo := ⟨(plains 2), TyTup [.v .Timer, .v .Timer], TyTup [.v .bool], decTup [.v .Timer, .v .Timer], fun x => some ((fun (a0 : G.Timer) (a1 : G.Timer) => eqq a0 a1) x.1 x.2), flatTup [.v .bool], [(false, 1)], []⟩
theorem e66 (x : TyTup [.v .Timer, .v .Timer]) : evalF C66 Try.f66 (Try.f66.body.getD .skip) an66 (plains 2) [] [(false, 1)] [.v .bool] (encTup [.v .Timer, .v .Timer] x) = laws_eqTimer.raw x.1 x.2 := by kernel_rfl
theorem c66 : Contract Try.prog 66 ci66 :=
  evalF_ok (C := C66) (tnOk_of tn_mixed tn_ok _ _) phi_nil Try.func66 (by kernel_rfl : Try.f66.body = some (Try.f66.body.getD .skip)) (by kernel_rfl) (by kernel_rfl) an66 (plains 2) [] [(false, 1)] [.v .Timer, .v .Timer] [.v .bool] (fun x => some ((fun (a0 : G.Timer) (a1 : G.Timer) => eqq a0 a1) x.1 x.2)) rfl (by kernel_rfl)
    fun x r hb h => (e66 x).trans ((laws_eqTimer.ok hb).trans h)

def an46 : An := ⟨[], [], [], [], []⟩
noncomputable def C46 : Cx := ⟨Try.prog, tnT, fun f => lookC f [(50, ci50), (63, ci63), (64, ci64), (65, ci65), (66, ci66)], 62⟩
noncomputable def ci46 : CInfo := ⟨(plains 2), TyTup [.v .Client, .v .Client], TyTup [.v .bool], decTup [.v .Client, .v .Client], fun x => some ((fun (a0 : G.Client) (a1 : G.Client) => eqq a0 a1) x.1 x.2), flatTup [.v .bool], [(false, 1)], []⟩
theorem e46 (x : TyTup [.v .Client, .v .Client]) : evalF C46 Try.f46 (Try.f46.body.getD .skip) an46 (plains 2) [] [(false, 1)] [.v .bool] (encTup [.v .Client, .v .Client] x) = laws_eqClient.raw x.1 x.2 := by kernel_rfl
theorem c46 : Contract Try.prog 46 ci46 :=
  evalF_ok (C := C46) (tnOk_of tn_mixed tn_ok _ _) (phi_cons c50 (phi_cons c63 (phi_cons c64 (phi_cons c65 (phi_cons c66 phi_nil))))) Try.func46 (by kernel_rfl : Try.f46.body = some (Try.f46.body.getD .skip)) (by kernel_rfl) (by kernel_rfl) an46 (plains 2) [] [(false, 1)] [.v .Client, .v .Client] [.v .bool] (fun x => some ((fun (a0 : G.Client) (a1 : G.Client) => eqq a0 a1) x.1 x.2)) rfl (by kernel_rfl)
    fun x r hb h => (e46 x).trans ((laws_eqClient.ok hb).trans h)

def an24 : An := ⟨[], [(0, ⟨[], [(4, 5), (11, 26)], []⟩)], [(4, ⟨[.slot 5 (.v .int)], [(4, 4), (11, 26)], []⟩)], [], []⟩
noncomputable def C24 : Cx := ⟨Try.prog, tnT, fun f => lookC f [(46, ci46)], 27⟩
noncomputable def ci24 : CInfo := ⟨(plains 2), TyTup [.sl .Client, .sl .Client], TyTup [.v .bool], decTup [.sl .Client, .sl .Client], fun x => some ((fun (a0 : List G.Client) (a1 : List G.Client) => eqq a0 a1) x.1 x.2), flatTup [.v .bool], [(false, 1)], []⟩
theorem e24 (x : TyTup [.sl .Client, .sl .Client]) : evalF C24 Try.f24 (Try.f24.body.getD .skip) an24 (plains 2) [] [(false, 1)] [.v .bool] (encTup [.sl .Client, .sl .Client] x) = laws_eqClientS.raw x.1 x.2 := by kernel_rfl
theorem c24 : Contract Try.prog 24 ci24 :=
  evalF_ok (C := C24) (tnOk_of tn_mixed tn_ok _ _) (phi_cons c46 phi_nil) Try.func24 (by kernel_rfl : Try.f24.body = some (Try.f24.body.getD .skip)) (by kernel_rfl) (by kernel_rfl) an24 (plains 2) [] [(false, 1)] [.sl .Client, .sl .Client] [.v .bool] (fun x => some ((fun (a0 : List G.Client) (a1 : List G.Client) => eqq a0 a1) x.1 x.2)) rfl (by kernel_rfl)
    fun x r hb h => (e24 x).trans ((laws_eqClientS.ok hb).trans h)

def an28 : An := ⟨[], [(0, ⟨[], [(4, 5), (11, 26)], []⟩)], [(4, ⟨[.slot 5 (.v .int)], [(4, 4), (11, 26)], []⟩)], [], []⟩
noncomputable def C28 : Cx := ⟨Try.prog, tnT, fun f => lookC f [(50, ci50)], 27⟩
noncomputable def ci28 : CInfo := ⟨(plains 2), TyTup [.sl .bs, .sl .bs], TyTup [.v .bool], decTup [.sl .bs, .sl .bs], fun x => some ((fun (a0 : List (List UInt8)) (a1 : List (List UInt8)) => eqq a0 a1) x.1 x.2), flatTup [.v .bool], [(false, 1)], []⟩
theorem e28 (x : TyTup [.sl .bs, .sl .bs]) : evalF C28 Try.f28 (Try.f28.body.getD .skip) an28 (plains 2) [] [(false, 1)] [.v .bool] (encTup [.sl .bs, .sl .bs] x) = laws_eqByteSS.raw x.1 x.2 := by kernel_rfl
theorem c28 : Contract Try.prog 28 ci28 :=
  evalF_ok (C := C28) (tnOk_of tn_mixed tn_ok _ _) (phi_cons c50 phi_nil) Try.func28 (by kernel_rfl : Try.f28.body = some (Try.f28.body.getD .skip)) (by kernel_rfl) (by kernel_rfl) an28 (plains 2) [] [(false, 1)] [.sl .bs, .sl .bs] [.v .bool] (fun x => some ((fun (a0 : List (List UInt8)) (a1 : List (List UInt8)) => eqq a0 a1) x.1 x.2)) rfl (by kernel_rfl)
    fun x r hb h => (e28 x).trans ((laws_eqByteSS.ok hb).trans h)

def an47 : An := ⟨[], [], [], [], []⟩
noncomputable def C47 : Cx := ⟨Try.prog, tnT, fun f => lookC f [(50, ci50)], 11⟩
noncomputable def ci47 : CInfo := ⟨(plains 2), TyTup [.v .Jar, .v .Jar], TyTup [.v .bool], decTup [.v .Jar, .v .Jar], fun x => some ((fun (a0 : G.Jar) (a1 : G.Jar) => eqq a0 a1) x.1 x.2), flatTup [.v .bool], [(false, 1)], []⟩
theorem e47 (x : TyTup [.v .Jar, .v .Jar]) : evalF C47 Try.f47 (Try.f47.body.getD .skip) an47 (plains 2) [] [(false, 1)] [.v .bool] (encTup [.v .Jar, .v .Jar] x) = laws_eqJar.raw x.1 x.2 := by kernel_rfl
theorem c47 : Contract Try.prog 47 ci47 :=
  evalF_ok (C := C47) (tnOk_of tn_mixed tn_ok _ _) (phi_cons c50 phi_nil) Try.func47 (by kernel_rfl : Try.f47.body = some (Try.f47.body.getD .skip)) (by kernel_rfl) (by kernel_rfl) an47 (plains 2) [] [(false, 1)] [.v .Jar, .v .Jar] [.v .bool] (fun x => some ((fun (a0 : G.Jar) (a1 : G.Jar) => eqq a0 a1) x.1 x.2)) rfl (by kernel_rfl)
    fun x r hb h => (e47 x).trans ((laws_eqJar.ok hb).trans h)

def an26 : An := ⟨[], [], [], [], []⟩
noncomputable def C26 : Cx := ⟨Try.prog, tnT, fun f => lookC f [(50, ci50)], 16⟩
noncomputable def ci26 : CInfo := ⟨(plains 2), TyTup [.v .Dice, .v .Dice], TyTup [.v .bool], decTup [.v .Dice, .v .Dice], fun x => some ((fun (a0 : G.Dice) (a1 : G.Dice) => eqq a0 a1) x.1 x.2), flatTup [.v .bool], [(false, 1)], []⟩
theorem e26 (x : TyTup [.v .Dice, .v .Dice]) : evalF C26 Try.f26 (Try.f26.body.getD .skip) an26 (plains 2) [] [(false, 1)] [.v .bool] (encTup [.v .Dice, .v .Dice] x) = laws_eqDice.raw x.1 x.2 := by kernel_rfl
theorem c26 : Contract Try.prog 26 ci26 :=
  evalF_ok (C := C26) (tnOk_of tn_mixed tn_ok _ _) (phi_cons c50 phi_nil) Try.func26 (by kernel_rfl : Try.f26.body = some (Try.f26.body.getD .skip)) (by kernel_rfl) (by kernel_rfl) an26 (plains 2) [] [(false, 1)] [.v .Dice, .v .Dice] [.v .bool] (fun x => some ((fun (a0 : G.Dice) (a1 : G.Dice) => eqq a0 a1) x.1 x.2)) rfl (by kernel_rfl)
    fun x r hb h => (e26 x).trans ((laws_eqDice.ok hb).trans h)

def an89 : An := ⟨[], [], [], [], []⟩
noncomputable def C89 : Cx := ⟨Try.prog, tnT, fun f => lookC f [(50, ci50), (63, ci63)], 22⟩
noncomputable def ci89 : CInfo := ⟨(plains 2), TyTup [.v .Cand, .v .Cand], TyTup [.v .bool], decTup [.v .Cand, .v .Cand], fun x => some ((fun (a0 : G.Cand) (a1 : G.Cand) => eqq a0 a1) x.1 x.2), flatTup [.v .bool], [(false, 1)], []⟩
theorem e89 (x : TyTup [.v .Cand, .v .Cand]) : evalF C89 Try.f89 (Try.f89.body.getD .skip) an89 (plains 2) [] [(false, 1)] [.v .bool] (encTup [.v .Cand, .v .Cand] x) = laws_eqCand.raw x.1 x.2 := by kernel_rfl
theorem c89 : Contract Try.prog 89 ci89 :=
  evalF_ok (C := C89) (tnOk_of tn_mixed tn_ok _ _) (phi_cons c50 (phi_cons c63 phi_nil)) Try.func89 (by kernel_rfl : Try.f89.body = some (Try.f89.body.getD .skip)) (by kernel_rfl) (by kernel_rfl) an89 (plains 2) [] [(false, 1)] [.v .Cand, .v .Cand] [.v .bool] (fun x => some ((fun (a0 : G.Cand) (a1 : G.Cand) => eqq a0 a1) x.1 x.2)) rfl (by kernel_rfl)
    fun x r hb h => (e89 x).trans ((laws_eqCand.ok hb).trans h)

def an86 : An := ⟨[], [(0, ⟨[], [(4, 5), (11, 26)], []⟩)], [(4, ⟨[.slot 5 (.v .int)], [(4, 4), (11, 26)], []⟩)], [], []⟩
noncomputable def C86 : Cx := ⟨Try.prog, tnT, fun f => lookC f [(89, ci89)], 27⟩
noncomputable def ci86 : CInfo := ⟨(plains 2), TyTup [.sl .Cand, .sl .Cand], TyTup [.v .bool], decTup [.sl .Cand, .sl .Cand], fun x => some ((fun (a0 : List G.Cand) (a1 : List G.Cand) => eqq a0 a1) x.1 x.2), flatTup [.v .bool], [(false, 1)], []⟩
theorem e86 (x : TyTup [.sl .Cand, .sl .Cand]) : evalF C86 Try.f86 (Try.f86.body.getD .skip) an86 (plains 2) [] [(false, 1)] [.v .bool] (encTup [.sl .Cand, .sl .Cand] x) = laws_eqCandS.raw x.1 x.2 := by kernel_rfl
theorem c86 : Contract Try.prog 86 ci86 :=
  evalF_ok (C := C86) (tnOk_of tn_mixed tn_ok _ _) (phi_cons c89 phi_nil) Try.func86 (by kernel_rfl : Try.f86.body = some (Try.f86.body.getD .skip)) (by kernel_rfl) (by kernel_rfl) an86 (plains 2) [] [(false, 1)] [.sl .Cand, .sl .Cand] [.v .bool] (fun x => some ((fun (a0 : List G.Cand) (a1 : List G.Cand) => eqq a0 a1) x.1 x.2)) rfl (by kernel_rfl)
    fun x r hb h => (e86 x).trans ((laws_eqCandS.ok hb).trans h)

def an80 : An := ⟨[], [], [], [], []⟩
noncomputable def C80 : Cx := ⟨Try.prog, tnT, fun f => lookC f [(63, ci63), (86, ci86)], 17⟩
noncomputable def ci80 : CInfo := ⟨(plains 2), TyTup [.v .Paths, .v .Paths], TyTup [.v .bool], decTup [.v .Paths, .v .Paths], fun x => some ((fun (a0 : G.Paths) (a1 : G.Paths) => eqq a0 a1) x.1 x.2), flatTup [.v .bool], [(false, 1)], []⟩
theorem e80 (x : TyTup [.v .Paths, .v .Paths]) : evalF C80 Try.f80 (Try.f80.body.getD .skip) an80 (plains 2) [] [(false, 1)] [.v .bool] (encTup [.v .Paths, .v .Paths] x) = laws_eqPaths.raw x.1 x.2 := by kernel_rfl
theorem c80 : Contract Try.prog 80 ci80 :=
  evalF_ok (C := C80) (tnOk_of tn_mixed tn_ok _ _) (phi_cons c63 (phi_cons c86 phi_nil)) Try.func80 (by kernel_rfl : Try.f80.body = some (Try.f80.body.getD .skip)) (by kernel_rfl) (by kernel_rfl) an80 (plains 2) [] [(false, 1)] [.v .Paths, .v .Paths] [.v .bool] (fun x => some ((fun (a0 : G.Paths) (a1 : G.Paths) => eqq a0 a1) x.1 x.2)) rfl (by kernel_rfl)
    fun x r hb h => (e80 x).trans ((laws_eqPaths.ok hb).trans h)

def an74 : An := ⟨[], [], [], [], []⟩
noncomputable def C74 : Cx := ⟨Try.prog, tnT, fun f => lookC f [(50, ci50), (65, ci65), (80, ci80)], 49⟩
noncomputable def ci74 : CInfo := ⟨(plains 2), TyTup [.v .Sess, .v .Sess], TyTup [.v .bool], decTup [.v .Sess, .v .Sess], fun x => some ((fun (a0 : G.Sess) (a1 : G.Sess) => eqq a0 a1) x.1 x.2), flatTup [.v .bool], [(false, 1)], []⟩
theorem e74 (x : TyTup [.v .Sess, .v .Sess]) : evalF C74 Try.f74 (Try.f74.body.getD .skip) an74 (plains 2) [] [(false, 1)] [.v .bool] (encTup [.v .Sess, .v .Sess] x) = laws_eqSess.raw x.1 x.2 := by kernel_rfl
theorem c74 : Contract Try.prog 74 ci74 :=
  evalF_ok (C := C74) (tnOk_of tn_mixed tn_ok _ _) (phi_cons c50 (phi_cons c65 (phi_cons c80 phi_nil))) Try.func74 (by kernel_rfl : Try.f74.body = some (Try.f74.body.getD .skip)) (by kernel_rfl) (by kernel_rfl) an74 (plains 2) [] [(false, 1)] [.v .Sess, .v .Sess] [.v .bool] (fun x => some ((fun (a0 : G.Sess) (a1 : G.Sess) => eqq a0 a1) x.1 x.2)) rfl (by kernel_rfl)
    fun x r hb h => (e74 x).trans ((laws_eqSess.ok hb).trans h)

def an67 : An := ⟨[], [(0, ⟨[], [(4, 5), (11, 26)], []⟩)], [(4, ⟨[.slot 5 (.v .int)], [(4, 4), (11, 26)], []⟩)], [], []⟩
noncomputable def C67 : Cx := ⟨Try.prog, tnT, fun f => lookC f [(74, ci74)], 27⟩
noncomputable def ci67 : CInfo := ⟨(plains 2), TyTup [.sl .Sess, .sl .Sess], TyTup [.v .bool], decTup [.sl .Sess, .sl .Sess], fun x => some ((fun (a0 : List G.Sess) (a1 : List G.Sess) => eqq a0 a1) x.1 x.2), flatTup [.v .bool], [(false, 1)], []⟩
theorem e67 (x : TyTup [.sl .Sess, .sl .Sess]) : evalF C67 Try.f67 (Try.f67.body.getD .skip) an67 (plains 2) [] [(false, 1)] [.v .bool] (encTup [.sl .Sess, .sl .Sess] x) = laws_eqSessS.raw x.1 x.2 := by kernel_rfl
theorem c67 : Contract Try.prog 67 ci67 :=
  evalF_ok (C := C67) (tnOk_of tn_mixed tn_ok _ _) (phi_cons c74 phi_nil) Try.func67 (by kernel_rfl : Try.f67.body = some (Try.f67.body.getD .skip)) (by kernel_rfl) (by kernel_rfl) an67 (plains 2) [] [(false, 1)] [.sl .Sess, .sl .Sess] [.v .bool] (fun x => some ((fun (a0 : List G.Sess) (a1 : List G.Sess) => eqq a0 a1) x.1 x.2)) rfl (by kernel_rfl)
    fun x r hb h => (e67 x).trans ((laws_eqSessS.ok hb).trans h)

def an48 : An := ⟨[], [], [], [], []⟩
noncomputable def C48 : Cx := ⟨Try.prog, tnT, fun f => lookC f [(67, ci67)], 16⟩
noncomputable def ci48 : CInfo := ⟨(plains 2), TyTup [.v .Tab, .v .Tab], TyTup [.v .bool], decTup [.v .Tab, .v .Tab], fun x => some ((fun (a0 : G.Tab) (a1 : G.Tab) => eqq a0 a1) x.1 x.2), flatTup [.v .bool], [(false, 1)], []⟩
theorem e48 (x : TyTup [.v .Tab, .v .Tab]) : evalF C48 Try.f48 (Try.f48.body.getD .skip) an48 (plains 2) [] [(false, 1)] [.v .bool] (encTup [.v .Tab, .v .Tab] x) = laws_eqTab.raw x.1 x.2 := by kernel_rfl
theorem c48 : Contract Try.prog 48 ci48 :=
  evalF_ok (C := C48) (tnOk_of tn_mixed tn_ok _ _) (phi_cons c67 phi_nil) Try.func48 (by kernel_rfl : Try.f48.body = some (Try.f48.body.getD .skip)) (by kernel_rfl) (by kernel_rfl) an48 (plains 2) [] [(false, 1)] [.v .Tab, .v .Tab] [.v .bool] (fun x => some ((fun (a0 : G.Tab) (a1 : G.Tab) => eqq a0 a1) x.1 x.2)) rfl (by kernel_rfl)
    fun x r hb h => (e48 x).trans ((laws_eqTab.ok hb).trans h)

def an68 : An := ⟨[], [], [], [], []⟩
noncomputable def C68 : Cx := ⟨Try.prog, tnT, fun f => lookC f [(63, ci63)], 21⟩
noncomputable def ci68 : CInfo := ⟨(plains 2), TyTup [.v .Credit, .v .Credit], TyTup [.v .bool], decTup [.v .Credit, .v .Credit], fun x => some ((fun (a0 : G.Credit) (a1 : G.Credit) => eqq a0 a1) x.1 x.2), flatTup [.v .bool], [(false, 1)], []⟩
theorem e68 (x : TyTup [.v .Credit, .v .Credit]) : evalF C68 Try.f68 (Try.f68.body.getD .skip) an68 (plains 2) [] [(false, 1)] [.v .bool] (encTup [.v .Credit, .v .Credit] x) = laws_eqCredit.raw x.1 x.2 := by kernel_rfl
theorem c68 : Contract Try.prog 68 ci68 :=
  evalF_ok (C := C68) (tnOk_of tn_mixed tn_ok _ _) (phi_cons c63 phi_nil) Try.func68 (by kernel_rfl : Try.f68.body = some (Try.f68.body.getD .skip)) (by kernel_rfl) (by kernel_rfl) an68 (plains 2) [] [(false, 1)] [.v .Credit, .v .Credit] [.v .bool] (fun x => some ((fun (a0 : G.Credit) (a1 : G.Credit) => eqq a0 a1) x.1 x.2)) rfl (by kernel_rfl)
    fun x r hb h => (e68 x).trans ((laws_eqCredit.ok hb).trans h)

def an49 : An := ⟨[], [(0, ⟨[], [(4, 5), (11, 26)], []⟩)], [(4, ⟨[.slot 5 (.v .int)], [(4, 4), (11, 26)], []⟩)], [], []⟩
noncomputable def C49 : Cx := ⟨Try.prog, tnT, fun f => lookC f [(68, ci68)], 27⟩
noncomputable def ci49 : CInfo := ⟨(plains 2), TyTup [.sl .Credit, .sl .Credit], TyTup [.v .bool], decTup [.sl .Credit, .sl .Credit], fun x => some ((fun (a0 : List G.Credit) (a1 : List G.Credit) => eqq a0 a1) x.1 x.2), flatTup [.v .bool], [(false, 1)], []⟩
theorem e49 (x : TyTup [.sl .Credit, .sl .Credit]) : evalF C49 Try.f49 (Try.f49.body.getD .skip) an49 (plains 2) [] [(false, 1)] [.v .bool] (encTup [.sl .Credit, .sl .Credit] x) = laws_eqCreditS.raw x.1 x.2 := by kernel_rfl
theorem c49 : Contract Try.prog 49 ci49 :=
  evalF_ok (C := C49) (tnOk_of tn_mixed tn_ok _ _) (phi_cons c68 phi_nil) Try.func49 (by kernel_rfl : Try.f49.body = some (Try.f49.body.getD .skip)) (by kernel_rfl) (by kernel_rfl) an49 (plains 2) [] [(false, 1)] [.sl .Credit, .sl .Credit] [.v .bool] (fun x => some ((fun (a0 : List G.Credit) (a1 : List G.Credit) => eqq a0 a1) x.1 x.2)) rfl (by kernel_rfl)
    fun x r hb h => (e49 x).trans ((laws_eqCreditS.ok hb).trans h)

def an25 : An := ⟨[], [], [], [], []⟩
noncomputable def C25 : Cx := ⟨Try.prog, tnT, fun f => lookC f [(26, ci26), (28, ci28), (47, ci47), (48, ci48), (49, ci49)], 35⟩
noncomputable def ci25 : CInfo := ⟨(plains 2), TyTup [.v .Server, .v .Server], TyTup [.v .bool], decTup [.v .Server, .v .Server], fun x => some ((fun (a0 : G.Server) (a1 : G.Server) => eqq a0 a1) x.1 x.2), flatTup [.v .bool], [(false, 1)], []⟩
theorem e25 (x : TyTup [.v .Server, .v .Server]) : evalF C25 Try.f25 (Try.f25.body.getD .skip) an25 (plains 2) [] [(false, 1)] [.v .bool] (encTup [.v .Server, .v .Server] x) = laws_eqServer.raw x.1 x.2 := by kernel_rfl
theorem c25 : Contract Try.prog 25 ci25 :=
  evalF_ok (C := C25) (tnOk_of tn_mixed tn_ok _ _) (phi_cons c26 (phi_cons c28 (phi_cons c47 (phi_cons c48 (phi_cons c49 phi_nil))))) Try.func25 (by kernel_rfl : Try.f25.body = some (Try.f25.body.getD .skip)) (by kernel_rfl) (by kernel_rfl) an25 (plains 2) [] [(false, 1)] [.v .Server, .v .Server] [.v .bool] (fun x => some ((fun (a0 : G.Server) (a1 : G.Server) => eqq a0 a1) x.1 x.2)) rfl (by kernel_rfl)
    fun x r hb h => (e25 x).trans ((laws_eqServer.ok hb).trans h)

def an51 : An := ⟨[], [], [], [], []⟩
noncomputable def C51 : Cx := ⟨Try.prog, tnT, fun f => lookC f [(50, ci50), (63, ci63)], 23⟩
noncomputable def ci51 : CInfo := ⟨(plains 2), TyTup [.v .Wire, .v .Wire], TyTup [.v .bool], decTup [.v .Wire, .v .Wire], fun x => some ((fun (a0 : G.Wire) (a1 : G.Wire) => eqq a0 a1) x.1 x.2), flatTup [.v .bool], [(false, 1)], []⟩
theorem e51 (x : TyTup [.v .Wire, .v .Wire]) : evalF C51 Try.f51 (Try.f51.body.getD .skip) an51 (plains 2) [] [(false, 1)] [.v .bool] (encTup [.v .Wire, .v .Wire] x) = laws_eqWire.raw x.1 x.2 := by kernel_rfl
theorem c51 : Contract Try.prog 51 ci51 :=
  evalF_ok (C := C51) (tnOk_of tn_mixed tn_ok _ _) (phi_cons c50 (phi_cons c63 phi_nil)) Try.func51 (by kernel_rfl : Try.f51.body = some (Try.f51.body.getD .skip)) (by kernel_rfl) (by kernel_rfl) an51 (plains 2) [] [(false, 1)] [.v .Wire, .v .Wire] [.v .bool] (fun x => some ((fun (a0 : G.Wire) (a1 : G.Wire) => eqq a0 a1) x.1 x.2)) rfl (by kernel_rfl)
    fun x r hb h => (e51 x).trans ((laws_eqWire.ok hb).trans h)

def an27 : An := ⟨[], [(0, ⟨[], [(4, 5), (11, 26)], []⟩)], [(4, ⟨[.slot 5 (.v .int)], [(4, 4), (11, 26)], []⟩)], [], []⟩
noncomputable def C27 : Cx := ⟨Try.prog, tnT, fun f => lookC f [(51, ci51)], 27⟩
noncomputable def ci27 : CInfo := ⟨(plains 2), TyTup [.sl .Wire, .sl .Wire], TyTup [.v .bool], decTup [.sl .Wire, .sl .Wire], fun x => some ((fun (a0 : List G.Wire) (a1 : List G.Wire) => eqq a0 a1) x.1 x.2), flatTup [.v .bool], [(false, 1)], []⟩
theorem e27 (x : TyTup [.sl .Wire, .sl .Wire]) : evalF C27 Try.f27 (Try.f27.body.getD .skip) an27 (plains 2) [] [(false, 1)] [.v .bool] (encTup [.sl .Wire, .sl .Wire] x) = laws_eqWireS.raw x.1 x.2 := by kernel_rfl
theorem c27 : Contract Try.prog 27 ci27 :=
  evalF_ok (C := C27) (tnOk_of tn_mixed tn_ok _ _) (phi_cons c51 phi_nil) Try.func27 (by kernel_rfl : Try.f27.body = some (Try.f27.body.getD .skip)) (by kernel_rfl) (by kernel_rfl) an27 (plains 2) [] [(false, 1)] [.sl .Wire, .sl .Wire] [.v .bool] (fun x => some ((fun (a0 : List G.Wire) (a1 : List G.Wire) => eqq a0 a1) x.1 x.2)) rfl (by kernel_rfl)
    fun x r hb h => (e27 x).trans ((laws_eqWireS.ok hb).trans h)

def an52 : An := ⟨[], [], [], [], []⟩
noncomputable def C52 : Cx := ⟨Try.prog, tnT, fun f => lookC f [(50, ci50), (63, ci63)], 65⟩
noncomputable def ci52 : CInfo := ⟨(plains 2), TyTup [.v .Note, .v .Note], TyTup [.v .bool], decTup [.v .Note, .v .Note], fun x => some ((fun (a0 : G.Note) (a1 : G.Note) => eqq a0 a1) x.1 x.2), flatTup [.v .bool], [(false, 1)], []⟩
theorem e52 (x : TyTup [.v .Note, .v .Note]) : evalF C52 Try.f52 (Try.f52.body.getD .skip) an52 (plains 2) [] [(false, 1)] [.v .bool] (encTup [.v .Note, .v .Note] x) = laws_eqNote.raw x.1 x.2 := by kernel_rfl
theorem c52 : Contract Try.prog 52 ci52 :=
  evalF_ok (C := C52) (tnOk_of tn_mixed tn_ok _ _) (phi_cons c50 (phi_cons c63 phi_nil)) Try.func52 (by kernel_rfl : Try.f52.body = some (Try.f52.body.getD .skip)) (by kernel_rfl) (by kernel_rfl) an52 (plains 2) [] [(false, 1)] [.v .Note, .v .Note] [.v .bool] (fun x => some ((fun (a0 : G.Note) (a1 : G.Note) => eqq a0 a1) x.1 x.2)) rfl (by kernel_rfl)
    fun x r hb h => (e52 x).trans ((laws_eqNote.ok hb).trans h)

def an29 : An := ⟨[], [(0, ⟨[], [(4, 5), (11, 26)], []⟩)], [(4, ⟨[.slot 5 (.v .int)], [(4, 4), (11, 26)], []⟩)], [], []⟩
noncomputable def C29 : Cx := ⟨Try.prog, tnT, fun f => lookC f [(52, ci52)], 27⟩
noncomputable def ci29 : CInfo := ⟨(plains 2), TyTup [.sl .Note, .sl .Note], TyTup [.v .bool], decTup [.sl .Note, .sl .Note], fun x => some ((fun (a0 : List G.Note) (a1 : List G.Note) => eqq a0 a1) x.1 x.2), flatTup [.v .bool], [(false, 1)], []⟩
theorem e29 (x : TyTup [.sl .Note, .sl .Note]) : evalF C29 Try.f29 (Try.f29.body.getD .skip) an29 (plains 2) [] [(false, 1)] [.v .bool] (encTup [.sl .Note, .sl .Note] x) = laws_eqNoteS.raw x.1 x.2 := by kernel_rfl
theorem c29 : Contract Try.prog 29 ci29 :=
  evalF_ok (C := C29) (tnOk_of tn_mixed tn_ok _ _) (phi_cons c52 phi_nil) Try.func29 (by kernel_rfl : Try.f29.body = some (Try.f29.body.getD .skip)) (by kernel_rfl) (by kernel_rfl) an29 (plains 2) [] [(false, 1)] [.sl .Note, .sl .Note] [.v .bool] (fun x => some ((fun (a0 : List G.Note) (a1 : List G.Note) => eqq a0 a1) x.1 x.2)) rfl (by kernel_rfl)
    fun x r hb h => (e29 x).trans ((laws_eqNoteS.ok hb).trans h)

def an9 : An := ⟨[], [], [], [], []⟩
noncomputable def C9 : Cx := ⟨Try.prog, tnT, fun f => lookC f [(24, ci24), (25, ci25), (26, ci26), (27, ci27), (28, ci28), (29, ci29)], 46⟩
noncomputable def ci9 : CInfo := ⟨(plains 2), TyTup [.v .World, .v .World], TyTup [.v .bool], decTup [.v .World, .v .World], fun x => some ((fun (a0 : G.World) (a1 : G.World) => eqq a0 a1) x.1 x.2), flatTup [.v .bool], [(false, 1)], []⟩
theorem e9 (x : TyTup [.v .World, .v .World]) : evalF C9 Try.f9 (Try.f9.body.getD .skip) an9 (plains 2) [] [(false, 1)] [.v .bool] (encTup [.v .World, .v .World] x) = laws_eqWorld.raw x.1 x.2 := by kernel_rfl
theorem c9 : Contract Try.prog 9 ci9 :=
  evalF_ok (C := C9) (tnOk_of tn_mixed tn_ok _ _) (phi_cons c24 (phi_cons c25 (phi_cons c26 (phi_cons c27 (phi_cons c28 (phi_cons c29 phi_nil)))))) Try.func9 (by kernel_rfl : Try.f9.body = some (Try.f9.body.getD .skip)) (by kernel_rfl) (by kernel_rfl) an9 (plains 2) [] [(false, 1)] [.v .World, .v .World] [.v .bool] (fun x => some ((fun (a0 : G.World) (a1 : G.World) => eqq a0 a1) x.1 x.2)) rfl (by kernel_rfl)
    fun x r hb h => (e9 x).trans ((laws_eqWorld.ok hb).trans h)

def an3 : An := ⟨[], [], [], [], []⟩
noncomputable def C3 : Cx := ⟨Try.prog, tnT, fun f => lookC f [(4, ci4), (5, ci5), (6, ci6), (7, ci7), (8, ci8), (9, ci9)], 33⟩
noncomputable def ci3 : CInfo := ⟨(plains 2), TyTup [.v .World, .v .Addr], TyTup [.v .bool], decTup [.v .World, .v .Addr], fun x => some ((fun (a0 : G.World) (a1 : G.Addr) => always2 a0 a1) x.1 x.2), flatTup [.v .bool], [(false, 1)], []⟩
theorem e3 (x : TyTup [.v .World, .v .Addr]) : evalF C3 Try.f3 (Try.f3.body.getD .skip) an3 (plains 2) [] [(false, 1)] [.v .bool] (encTup [.v .World, .v .Addr] x) = laws_FnExactPartyAt.raw x.1 x.2 := by kernel_rfl
theorem c3 : Contract Try.prog 3 ci3 :=
  evalF_ok (C := C3) (tnOk_of tn_mixed tn_ok _ _) (phi_cons c4 (phi_cons c5 (phi_cons c6 (phi_cons c7 (phi_cons c8 (phi_cons c9 phi_nil)))))) Try.func3 (by kernel_rfl : Try.f3.body = some (Try.f3.body.getD .skip)) (by kernel_rfl) (by kernel_rfl) an3 (plains 2) [] [(false, 1)] [.v .World, .v .Addr] [.v .bool] (fun x => some ((fun (a0 : G.World) (a1 : G.Addr) => always2 a0 a1) x.1 x.2)) rfl (by kernel_rfl)
    fun x r hb h => (e3 x).trans ((laws_FnExactPartyAt.ok hb).trans h)

end Go.D

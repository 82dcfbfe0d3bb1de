/-
  The functions of the program: each computes what is said of it.
-/
import Derived.Test.YtjbdhhdfmfaheaaOks
import Derived.Test.YtjbdhhdfmfaheaaProg
import Derived.KernelRfl
namespace Go.D
open Go.Proofs

def tnT : TypeId → Option TN := fun t => look t [(9, .str), (44, .Credit), (47, .Credit)]
theorem tn_mixed : Try.prog.follows .mixedOrders = true := by kernel_rfl
theorem tn_ok : tnAll Try.prog [(9, .str), (44, .Credit), (47, .Credit)] = true := by kernel_rfl

def an6 : An := ⟨[], [], [], [], []⟩
noncomputable def C6 : Cx := ⟨Try.prog, tnT, fun f => lookC f [], 12⟩
noncomputable def ci6 : CInfo := ⟨(plains 1), TyTup [.v .int], TyTup [.v .str], decTup [.v .int], fun x => some (stName x), flatTup [.v .str], [(false, 1)], []⟩
theorem e6 (x : TyTup [.v .int]) : evalF C6 Try.f6 (Try.f6.body.getD .skip) an6 (plains 1) [] [(false, 1)] [.v .str] (encTup [.v .int] x) = spec_StName.raw x := by kernel_rfl
theorem c6 : Contract Try.prog 6 ci6 :=
  evalF_ok (C := C6) (tnOk_of tn_mixed tn_ok _ _) phi_nil Try.func6 (by kernel_rfl : Try.f6.body = some (Try.f6.body.getD .skip)) (by kernel_rfl) (by kernel_rfl) an6 (plains 1) [] [(false, 1)] [.v .int] [.v .str] (fun x => some (stName x)) rfl (by kernel_rfl)
    fun x r hb h => (e6 x).trans ((spec_StName.ok hb).trans h)

def an17 : An := ⟨[], [], [], [(1, ⟨[.slot 6 (.v .bool)], [(7, 14)], []⟩)], []⟩
noncomputable def C17 : Cx := ⟨Try.prog, tnT, fun f => lookC f [], 15⟩
noncomputable def ci17 : CInfo := ⟨(plains 3), TyTup [.v .int, .v .int, .v .int], TyTup [.v .bool], decTup [.v .int, .v .int, .v .int], fun x => some (inR x.1 x.2.1 x.2.2), flatTup [.v .bool], [(false, 1)], []⟩
theorem e17 (x : TyTup [.v .int, .v .int, .v .int]) : evalF C17 Try.f17 (Try.f17.body.getD .skip) an17 (plains 3) [] [(false, 1)] [.v .bool] (encTup [.v .int, .v .int, .v .int] x) = impl_within.raw x.1 x.2.1 x.2.2 := by kernel_rfl
theorem c17 : Contract Try.prog 17 ci17 :=
  evalF_ok (C := C17) (tnOk_of tn_mixed tn_ok _ _) phi_nil Try.func17 (by kernel_rfl : Try.f17.body = some (Try.f17.body.getD .skip)) (by kernel_rfl) (by kernel_rfl) an17 (plains 3) [] [(false, 1)] [.v .int, .v .int, .v .int] [.v .bool] (fun x => some (inR x.1 x.2.1 x.2.2)) rfl (by kernel_rfl)
    fun x r hb h => (e17 x).trans ((impl_within.ok hb).trans h)

def an7 : An := ⟨[], [], [], [], []⟩
noncomputable def C7 : Cx := ⟨Try.prog, tnT, fun f => lookC f [(17, ci17)], 10⟩
noncomputable def ci7 : CInfo := ⟨(plains 1), TyTup [.v .int], TyTup [.v .str], decTup [.v .int], fun x => some (stName x), flatTup [.v .str], [(false, 1)], []⟩
theorem e7 (x : TyTup [.v .int]) : evalF C7 Try.f7 (Try.f7.body.getD .skip) an7 (plains 1) [] [(false, 1)] [.v .str] (encTup [.v .int] x) = impl_StName.raw x := by kernel_rfl
theorem c7 : Contract Try.prog 7 ci7 :=
  evalF_ok (C := C7) (tnOk_of tn_mixed tn_ok _ _) (phi_cons c17 phi_nil) Try.func7 (by kernel_rfl : Try.f7.body = some (Try.f7.body.getD .skip)) (by kernel_rfl) (by kernel_rfl) an7 (plains 1) [] [(false, 1)] [.v .int] [.v .str] (fun x => some (stName x)) rfl (by kernel_rfl)
    fun x r hb h => (e7 x).trans ((impl_StName.ok hb).trans h)

def an3 : An := ⟨[], [], [], [], []⟩
noncomputable def C3 : Cx := ⟨Try.prog, tnT, fun f => lookC f [(6, ci6), (7, ci7)], 12⟩
noncomputable def ci3 : CInfo := ⟨(plains 1), TyTup [.v .int], TyTup [.v .bool], decTup [.v .int], fun x => some (always x), flatTup [.v .bool], [(false, 1)], []⟩
theorem e3 (x : TyTup [.v .int]) : evalF C3 Try.f3 (Try.f3.body.getD .skip) an3 (plains 1) [] [(false, 1)] [.v .bool] (encTup [.v .int] x) = laws_FnExactStName.raw x := by kernel_rfl
theorem c3 : Contract Try.prog 3 ci3 :=
  evalF_ok (C := C3) (tnOk_of tn_mixed tn_ok _ _) (phi_cons c6 (phi_cons c7 phi_nil)) Try.func3 (by kernel_rfl : Try.f3.body = some (Try.f3.body.getD .skip)) (by kernel_rfl) (by kernel_rfl) an3 (plains 1) [] [(false, 1)] [.v .int] [.v .bool] (fun x => some (always x)) rfl (by kernel_rfl)
    fun x r hb h => (e3 x).trans ((laws_FnExactStName.ok hb).trans h)

def an26 : An := ⟨[], [], [], [(1, ⟨[.slot 6 (.v .bool)], [(7, 14)], []⟩)], []⟩
noncomputable def C26 : Cx := ⟨Try.prog, tnT, fun f => lookC f [], 15⟩
noncomputable def ci26 : CInfo := ⟨(plains 3), TyTup [.v .int, .v .int, .v .int], TyTup [.v .bool], decTup [.v .int, .v .int, .v .int], fun x => some (inR x.1 x.2.1 x.2.2), flatTup [.v .bool], [(false, 1)], []⟩
theorem e26 (x : TyTup [.v .int, .v .int, .v .int]) : evalF C26 Try.f26 (Try.f26.body.getD .skip) an26 (plains 3) [] [(false, 1)] [.v .bool] (encTup [.v .int, .v .int, .v .int] x) = spec_l1In.raw x.1 x.2.1 x.2.2 := by kernel_rfl
theorem c26 : Contract Try.prog 26 ci26 :=
  evalF_ok (C := C26) (tnOk_of tn_mixed tn_ok _ _) phi_nil Try.func26 (by kernel_rfl : Try.f26.body = some (Try.f26.body.getD .skip)) (by kernel_rfl) (by kernel_rfl) an26 (plains 3) [] [(false, 1)] [.v .int, .v .int, .v .int] [.v .bool] (fun x => some (inR x.1 x.2.1 x.2.2)) rfl (by kernel_rfl)
    fun x r hb h => (e26 x).trans ((spec_l1In.ok hb).trans h)

def an18 : An := ⟨[], [], [], [], []⟩
noncomputable def C18 : Cx := ⟨Try.prog, tnT, fun f => lookC f [(26, ci26)], 12⟩
noncomputable def ci18 : CInfo := ⟨(plains 1), TyTup [.v .int], TyTup [.v .Addr], decTup [.v .int], fun x => some (near x), flatTup [.v .Addr], [(true, 2)], []⟩
theorem e18 (x : TyTup [.v .int]) : evalF C18 Try.f18 (Try.f18.body.getD .skip) an18 (plains 1) [] [(true, 2)] [.v .Addr] (encTup [.v .int] x) = spec_Near.raw x := by kernel_rfl
theorem c18 : Contract Try.prog 18 ci18 :=
  evalF_ok (C := C18) (tnOk_of tn_mixed tn_ok _ _) (phi_cons c26 phi_nil) Try.func18 (by kernel_rfl : Try.f18.body = some (Try.f18.body.getD .skip)) (by kernel_rfl) (by kernel_rfl) an18 (plains 1) [] [(true, 2)] [.v .int] [.v .Addr] (fun x => some (near x)) rfl (by kernel_rfl)
    fun x r hb h => (e18 x).trans ((spec_Near.ok hb).trans h)

def an8 : An := ⟨[], [], [], [], []⟩
noncomputable def C8 : Cx := ⟨Try.prog, tnT, fun f => lookC f [(18, ci18)], 2⟩
noncomputable def ci8 : CInfo := ⟨(plains 0), TyTup [], TyTup [.v .Addr], decTup [], fun x => some (hub), flatTup [.v .Addr], [(true, 2)], []⟩
theorem e8 (x : TyTup []) : evalF C8 Try.f8 (Try.f8.body.getD .skip) an8 (plains 0) [] [(true, 2)] [.v .Addr] (encTup [] x) = spec_Hub.raw := by kernel_rfl
theorem c8 : Contract Try.prog 8 ci8 :=
  evalF_ok (C := C8) (tnOk_of tn_mixed tn_ok _ _) (phi_cons c18 phi_nil) Try.func8 (by kernel_rfl : Try.f8.body = some (Try.f8.body.getD .skip)) (by kernel_rfl) (by kernel_rfl) an8 (plains 0) [] [(true, 2)] [] [.v .Addr] (fun x => some (hub)) rfl (by kernel_rfl)
    fun x r hb h => (e8 x).trans ((spec_Hub.ok hb).trans h)

def an19 : An := ⟨[], [], [], [], []⟩
noncomputable def C19 : Cx := ⟨Try.prog, tnT, fun f => lookC f [(17, ci17)], 12⟩
noncomputable def ci19 : CInfo := ⟨(plains 1), TyTup [.v .int], TyTup [.v .Addr], decTup [.v .int], fun x => some (near x), flatTup [.v .Addr], [(true, 2)], []⟩
theorem e19 (x : TyTup [.v .int]) : evalF C19 Try.f19 (Try.f19.body.getD .skip) an19 (plains 1) [] [(true, 2)] [.v .Addr] (encTup [.v .int] x) = impl_Near.raw x := by kernel_rfl
theorem c19 : Contract Try.prog 19 ci19 :=
  evalF_ok (C := C19) (tnOk_of tn_mixed tn_ok _ _) (phi_cons c17 phi_nil) Try.func19 (by kernel_rfl : Try.f19.body = some (Try.f19.body.getD .skip)) (by kernel_rfl) (by kernel_rfl) an19 (plains 1) [] [(true, 2)] [.v .int] [.v .Addr] (fun x => some (near x)) rfl (by kernel_rfl)
    fun x r hb h => (e19 x).trans ((impl_Near.ok hb).trans h)

def an9 : An := ⟨[], [], [], [], []⟩
noncomputable def C9 : Cx := ⟨Try.prog, tnT, fun f => lookC f [(19, ci19)], 2⟩
noncomputable def ci9 : CInfo := ⟨(plains 0), TyTup [], TyTup [.v .Addr], decTup [], fun x => some (hub), flatTup [.v .Addr], [(true, 2)], []⟩
theorem e9 (x : TyTup []) : evalF C9 Try.f9 (Try.f9.body.getD .skip) an9 (plains 0) [] [(true, 2)] [.v .Addr] (encTup [] x) = impl_Hub.raw := by kernel_rfl
theorem c9 : Contract Try.prog 9 ci9 :=
  evalF_ok (C := C9) (tnOk_of tn_mixed tn_ok _ _) (phi_cons c19 phi_nil) Try.func9 (by kernel_rfl : Try.f9.body = some (Try.f9.body.getD .skip)) (by kernel_rfl) (by kernel_rfl) an9 (plains 0) [] [(true, 2)] [] [.v .Addr] (fun x => some (hub)) rfl (by kernel_rfl)
    fun x r hb h => (e9 x).trans ((impl_Hub.ok hb).trans h)

def an10 : An := ⟨[], [], [], [], []⟩
noncomputable def C10 : Cx := ⟨Try.prog, tnT, fun f => lookC f [], 15⟩
noncomputable def ci10 : CInfo := ⟨(plains 2), TyTup [.v .Addr, .v .Addr], TyTup [.v .bool], decTup [.v .Addr, .v .Addr], fun x => some (eqq x.1 x.2), flatTup [.v .bool], [(false, 1)], []⟩
theorem e10 (x : TyTup [.v .Addr, .v .Addr]) : evalF C10 Try.f10 (Try.f10.body.getD .skip) an10 (plains 2) [] [(false, 1)] [.v .bool] (encTup [.v .Addr, .v .Addr] x) = laws_eqAddr.raw x.1 x.2 := by kernel_rfl
theorem c10 : Contract Try.prog 10 ci10 :=
  evalF_ok (C := C10) (tnOk_of tn_mixed tn_ok _ _) phi_nil Try.func10 (by kernel_rfl : Try.f10.body = some (Try.f10.body.getD .skip)) (by kernel_rfl) (by kernel_rfl) an10 (plains 2) [] [(false, 1)] [.v .Addr, .v .Addr] [.v .bool] (fun x => some (eqq x.1 x.2)) rfl (by kernel_rfl)
    fun x r hb h => (e10 x).trans ((laws_eqAddr.ok hb).trans h)

def an4 : An := ⟨[], [], [], [], []⟩
noncomputable def C4 : Cx := ⟨Try.prog, tnT, fun f => lookC f [(8, ci8), (9, ci9), (10, ci10)], 9⟩
noncomputable def ci4 : CInfo := ⟨(plains 0), TyTup [], TyTup [.v .bool], decTup [], fun x => some (always0), flatTup [.v .bool], [(false, 1)], []⟩
theorem e4 (x : TyTup []) : evalF C4 Try.f4 (Try.f4.body.getD .skip) an4 (plains 0) [] [(false, 1)] [.v .bool] (encTup [] x) = laws_FnExactHub.raw := by kernel_rfl
theorem c4 : Contract Try.prog 4 ci4 :=
  evalF_ok (C := C4) (tnOk_of tn_mixed tn_ok _ _) (phi_cons c8 (phi_cons c9 (phi_cons c10 phi_nil))) Try.func4 (by kernel_rfl : Try.f4.body = some (Try.f4.body.getD .skip)) (by kernel_rfl) (by kernel_rfl) an4 (plains 0) [] [(false, 1)] [] [.v .bool] (fun x => some (always0)) rfl (by kernel_rfl)
    fun x r hb h => (e4 x).trans ((laws_FnExactHub.ok hb).trans h)

def an11 : An := ⟨[], [], [], [], []⟩
noncomputable def C11 : Cx := ⟨Try.prog, tnT, fun f => lookC f [], 12⟩
noncomputable def ci11 : CInfo := ⟨(plains 2), TyTup [.sl .Credit, .v .int], TyTup [.v .int], decTup [.sl .Credit, .v .int], fun x => some (szList x.1 x.2), flatTup [.v .int], [(false, 1)], []⟩
theorem e11 (x : TyTup [.sl .Credit, .v .int]) : evalF C11 Try.f11 (Try.f11.body.getD .skip) an11 (plains 2) [] [(false, 1)] [.v .int] (encTup [.sl .Credit, .v .int] x) = laws_szCreditS.raw x.1 x.2 := by kernel_rfl
theorem c11 : Contract Try.prog 11 ci11 :=
  evalF_ok (C := C11) (tnOk_of tn_mixed tn_ok _ _) phi_nil Try.func11 (by kernel_rfl : Try.f11.body = some (Try.f11.body.getD .skip)) (by kernel_rfl) (by kernel_rfl) an11 (plains 2) [] [(false, 1)] [.sl .Credit, .v .int] [.v .int] (fun x => some (szList x.1 x.2)) rfl (by kernel_rfl)
    fun x r hb h => (e11 x).trans ((laws_szCreditS.ok hb).trans h)

def an14 : An := ⟨[], [], [], [], []⟩
noncomputable def C14 : Cx := ⟨Try.prog, tnT, fun f => lookC f [], 11⟩
noncomputable def ci14 : CInfo := ⟨(plains 1), TyTup [.v .Addr], TyTup [.v .Addr], decTup [.v .Addr], fun x => some (same x), flatTup [.v .Addr], [(true, 2)], []⟩
theorem e14 (x : TyTup [.v .Addr]) : evalF C14 Try.f14 (Try.f14.body.getD .skip) an14 (plains 1) [] [(true, 2)] [.v .Addr] (encTup [.v .Addr] x) = laws_toAddr.raw x := by kernel_rfl
theorem c14 : Contract Try.prog 14 ci14 :=
  evalF_ok (C := C14) (tnOk_of tn_mixed tn_ok _ _) phi_nil Try.func14 (by kernel_rfl : Try.f14.body = some (Try.f14.body.getD .skip)) (by kernel_rfl) (by kernel_rfl) an14 (plains 1) [] [(true, 2)] [.v .Addr] [.v .Addr] (fun x => some (same x)) rfl (by kernel_rfl)
    fun x r hb h => (e14 x).trans ((laws_toAddr.ok hb).trans h)

def an22 : An := ⟨[], [], [], [], []⟩
noncomputable def C22 : Cx := ⟨Try.prog, tnT, fun f => lookC f [(14, ci14)], 15⟩
noncomputable def ci22 : CInfo := ⟨(plains 1), TyTup [.v .Credit], TyTup [.v .Credit], decTup [.v .Credit], fun x => some (same x), flatTup [.v .Credit], [(true, 4)], []⟩
theorem e22 (x : TyTup [.v .Credit]) : evalF C22 Try.f22 (Try.f22.body.getD .skip) an22 (plains 1) [] [(true, 4)] [.v .Credit] (encTup [.v .Credit] x) = laws_toCredit.raw x := by kernel_rfl
theorem c22 : Contract Try.prog 22 ci22 :=
  evalF_ok (C := C22) (tnOk_of tn_mixed tn_ok _ _) (phi_cons c14 phi_nil) Try.func22 (by kernel_rfl : Try.f22.body = some (Try.f22.body.getD .skip)) (by kernel_rfl) (by kernel_rfl) an22 (plains 1) [] [(true, 4)] [.v .Credit] [.v .Credit] (fun x => some (same x)) rfl (by kernel_rfl)
    fun x r hb h => (e22 x).trans ((laws_toCredit.ok hb).trans h)

def an13 : An := ⟨[], [(0, ⟨[.own 3 .Credit], [(4, 4), (8, 21)], []⟩)], [(3, ⟨[.slot 4 (.v .int), .own 3 .Credit], [(8, 21)], []⟩)], [], []⟩
noncomputable def C13 : Cx := ⟨Try.prog, tnT, fun f => lookC f [(22, ci22)], 23⟩
noncomputable def ci13 : CInfo := ⟨(plains 1), TyTup [.sl .Credit], TyTup [.sl .Credit], decTup [.sl .Credit], fun x => small x, flatTup [.sl .Credit], [(false, 1)], [0]⟩
theorem e13 (x : TyTup [.sl .Credit]) : evalF C13 Try.f13 (Try.f13.body.getD .skip) an13 (plains 1) [0] [(false, 1)] [.sl .Credit] (encTup [.sl .Credit] x) = laws_toCreditS.raw x := by kernel_rfl
theorem c13 : Contract Try.prog 13 ci13 :=
  evalF_ok (C := C13) (tnOk_of tn_mixed tn_ok _ _) (phi_cons c22 phi_nil) Try.func13 (by kernel_rfl : Try.f13.body = some (Try.f13.body.getD .skip)) (by kernel_rfl) (by kernel_rfl) an13 (plains 1) [0] [(false, 1)] [.sl .Credit] [.sl .Credit] (fun x => small x) rfl (by kernel_rfl)
    fun x r hb h => (e13 x).trans (laws_toCreditS.ok hb h)

def an27 : An := ⟨[], [], [], [(1, ⟨[.slot 2 (.v .bool)], [(3, 10)], []⟩)], []⟩
noncomputable def C27 : Cx := ⟨Try.prog, tnT, fun f => lookC f [(26, ci26)], 11⟩
noncomputable def ci27 : CInfo := ⟨(plains 1), TyTup [.v .Addr], TyTup [.v .bool], decTup [.v .Addr], fun x => some (addrOk x), flatTup [.v .bool], [(false, 1)], []⟩
theorem e27 (x : TyTup [.v .Addr]) : evalF C27 Try.f27 (Try.f27.body.getD .skip) an27 (plains 1) [] [(false, 1)] [.v .bool] (encTup [.v .Addr] x) = spec_AddrOk.raw x := by kernel_rfl
theorem c27 : Contract Try.prog 27 ci27 :=
  evalF_ok (C := C27) (tnOk_of tn_mixed tn_ok _ _) (phi_cons c26 phi_nil) Try.func27 (by kernel_rfl : Try.f27.body = some (Try.f27.body.getD .skip)) (by kernel_rfl) (by kernel_rfl) an27 (plains 1) [] [(false, 1)] [.v .Addr] [.v .bool] (fun x => some (addrOk x)) rfl (by kernel_rfl)
    fun x r hb h => (e27 x).trans ((spec_AddrOk.ok hb).trans h)

def an20 : An := ⟨[], [(0, ⟨[], [(2, 4), (8, 60)], []⟩), (2, ⟨[], [(2, 2), (4, 4), (45, 60)], []⟩)], [(4, ⟨[.slot 3 (.v .int)], [(2, 2), (4, 4), (8, 60)], []⟩), (9, ⟨[.slot 4 (.v .int)], [(2, 2), (45, 60)], []⟩)], [(6, ⟨[.slot 44 (.v .bool)], [(14, 43)], []⟩)], []⟩
noncomputable def C20 : Cx := ⟨Try.prog, tnT, fun f => lookC f [(26, ci26), (27, ci27)], 61⟩
noncomputable def ci20 : CInfo := ⟨(plains 1), TyTup [.sl .Credit], TyTup [.v .bool], decTup [.sl .Credit], fun x => some (creditsOk x), flatTup [.v .bool], [(false, 1)], []⟩
theorem e20 (x : TyTup [.sl .Credit]) : evalF C20 Try.f20 (Try.f20.body.getD .skip) an20 (plains 1) [] [(false, 1)] [.v .bool] (encTup [.sl .Credit] x) = spec_CreditsOk.raw x := by kernel_rfl
theorem c20 : Contract Try.prog 20 ci20 :=
  evalF_ok (C := C20) (tnOk_of tn_mixed tn_ok _ _) (phi_cons c26 (phi_cons c27 phi_nil)) Try.func20 (by kernel_rfl : Try.f20.body = some (Try.f20.body.getD .skip)) (by kernel_rfl) (by kernel_rfl) an20 (plains 1) [] [(false, 1)] [.sl .Credit] [.v .bool] (fun x => some (creditsOk x)) rfl (by kernel_rfl)
    fun x r hb h => (e20 x).trans ((spec_CreditsOk.ok hb).trans h)

def an21 : An := ⟨[], [(0, ⟨[], [(4, 19)], []⟩)], [(2, ⟨[.slot 5 (.v .int)], [(4, 4), (6, 19)], []⟩)], [], []⟩
noncomputable def C21 : Cx := ⟨Try.prog, tnT, fun f => lookC f [], 20⟩
noncomputable def ci21 : CInfo := ⟨(plains 2), TyTup [.sl .Credit, .v .Addr], TyTup [.v .int], decTup [.sl .Credit, .v .Addr], fun x => some (cAt x.1 x.2), flatTup [.v .int], [(false, 1)], []⟩
theorem e21 (x : TyTup [.sl .Credit, .v .Addr]) : evalF C21 Try.f21 (Try.f21.body.getD .skip) an21 (plains 2) [] [(false, 1)] [.v .int] (encTup [.sl .Credit, .v .Addr] x) = spec_l17At.raw x.1 x.2 := by kernel_rfl
theorem c21 : Contract Try.prog 21 ci21 :=
  evalF_ok (C := C21) (tnOk_of tn_mixed tn_ok _ _) phi_nil Try.func21 (by kernel_rfl : Try.f21.body = some (Try.f21.body.getD .skip)) (by kernel_rfl) (by kernel_rfl) an21 (plains 2) [] [(false, 1)] [.sl .Credit, .v .Addr] [.v .int] (fun x => some (cAt x.1 x.2)) rfl (by kernel_rfl)
    fun x r hb h => (e21 x).trans ((spec_l17At.ok hb).trans h)

def an12 : An := ⟨[], [], [], [], []⟩
noncomputable def C12 : Cx := ⟨Try.prog, tnT, fun f => lookC f [(20, ci20), (21, ci21)], 23⟩
noncomputable def ci12 : CInfo := ⟨(plains 2), TyTup [.sl .Credit, .v .Addr], TyTup [.v .bool], decTup [.sl .Credit, .v .Addr], fun x => some (creditFor x.1 x.2), flatTup [.v .bool], [(false, 1)], []⟩
theorem e12 (x : TyTup [.sl .Credit, .v .Addr]) : evalF C12 Try.f12 (Try.f12.body.getD .skip) an12 (plains 2) [] [(false, 1)] [.v .bool] (encTup [.sl .Credit, .v .Addr] x) = spec_CreditFor.raw x.1 x.2 := by kernel_rfl
theorem c12 : Contract Try.prog 12 ci12 :=
  evalF_ok (C := C12) (tnOk_of tn_mixed tn_ok _ _) (phi_cons c20 (phi_cons c21 phi_nil)) Try.func12 (by kernel_rfl : Try.f12.body = some (Try.f12.body.getD .skip)) (by kernel_rfl) (by kernel_rfl) an12 (plains 2) [] [(false, 1)] [.sl .Credit, .v .Addr] [.v .bool] (fun x => some (creditFor x.1 x.2)) rfl (by kernel_rfl)
    fun x r hb h => (e12 x).trans ((spec_CreditFor.ok hb).trans h)

def an28 : An := ⟨[], [], [], [(1, ⟨[.slot 2 (.v .bool)], [(3, 10)], []⟩)], []⟩
noncomputable def C28 : Cx := ⟨Try.prog, tnT, fun f => lookC f [(17, ci17)], 11⟩
noncomputable def ci28 : CInfo := ⟨(plains 1), TyTup [.v .Addr], TyTup [.v .bool], decTup [.v .Addr], fun x => some (addrOk x), flatTup [.v .bool], [(false, 1)], []⟩
theorem e28 (x : TyTup [.v .Addr]) : evalF C28 Try.f28 (Try.f28.body.getD .skip) an28 (plains 1) [] [(false, 1)] [.v .bool] (encTup [.v .Addr] x) = impl_AddrOk.raw x := by kernel_rfl
theorem c28 : Contract Try.prog 28 ci28 :=
  evalF_ok (C := C28) (tnOk_of tn_mixed tn_ok _ _) (phi_cons c17 phi_nil) Try.func28 (by kernel_rfl : Try.f28.body = some (Try.f28.body.getD .skip)) (by kernel_rfl) (by kernel_rfl) an28 (plains 1) [] [(false, 1)] [.v .Addr] [.v .bool] (fun x => some (addrOk x)) rfl (by kernel_rfl)
    fun x r hb h => (e28 x).trans ((impl_AddrOk.ok hb).trans h)

def an24 : An := ⟨[], [(0, ⟨[], [(4, 6), (9, 19)], []⟩)], [(2, ⟨[.slot 9 (.v .int)], [(4, 6), (10, 19)], []⟩)], [], []⟩
noncomputable def C24 : Cx := ⟨Try.prog, tnT, fun f => lookC f [], 20⟩
noncomputable def ci24 : CInfo := ⟨(plains 2), TyTup [.sl .Credit, .v .Addr], TyTup [.v .int], decTup [.sl .Credit, .v .Addr], fun x => some (cAt x.1 x.2), flatTup [.v .int], [(false, 1)], []⟩
theorem e24 (x : TyTup [.sl .Credit, .v .Addr]) : evalF C24 Try.f24 (Try.f24.body.getD .skip) an24 (plains 2) [] [(false, 1)] [.v .int] (encTup [.sl .Credit, .v .Addr] x) = impl_creditAt.raw x.1 x.2 := by kernel_rfl
theorem c24 : Contract Try.prog 24 ci24 :=
  evalF_ok (C := C24) (tnOk_of tn_mixed tn_ok _ _) phi_nil Try.func24 (by kernel_rfl : Try.f24.body = some (Try.f24.body.getD .skip)) (by kernel_rfl) (by kernel_rfl) an24 (plains 2) [] [(false, 1)] [.sl .Credit, .v .Addr] [.v .int] (fun x => some (cAt x.1 x.2)) rfl (by kernel_rfl)
    fun x r hb h => (e24 x).trans ((impl_creditAt.ok hb).trans h)

def an23 : An := ⟨[], [(0, ⟨[], [(2, 4), (10, 42)], []⟩)], [(4, ⟨[.slot 10 (.v .int)], [(2, 4), (11, 42)], []⟩)], [(6, ⟨[.slot 41 (.v .bool)], [(15, 40)], []⟩)], []⟩
noncomputable def C23 : Cx := ⟨Try.prog, tnT, fun f => lookC f [(17, ci17), (24, ci24), (28, ci28)], 43⟩
noncomputable def ci23 : CInfo := ⟨(plains 1), TyTup [.sl .Credit], TyTup [.v .bool], decTup [.sl .Credit], fun x => some (creditsOk x), flatTup [.v .bool], [(false, 1)], []⟩
theorem e23 (x : TyTup [.sl .Credit]) : evalF C23 Try.f23 (Try.f23.body.getD .skip) an23 (plains 1) [] [(false, 1)] [.v .bool] (encTup [.sl .Credit] x) = impl_CreditsOk.raw x := by kernel_rfl
theorem c23 : Contract Try.prog 23 ci23 :=
  evalF_ok (C := C23) (tnOk_of tn_mixed tn_ok _ _) (phi_cons c17 (phi_cons c24 (phi_cons c28 phi_nil))) Try.func23 (by kernel_rfl : Try.f23.body = some (Try.f23.body.getD .skip)) (by kernel_rfl) (by kernel_rfl) an23 (plains 1) [] [(false, 1)] [.sl .Credit] [.v .bool] (fun x => some (creditsOk x)) rfl (by kernel_rfl)
    fun x r hb h => (e23 x).trans ((impl_CreditsOk.ok hb).trans h)

def an15 : An := ⟨[], [], [], [], []⟩
noncomputable def C15 : Cx := ⟨Try.prog, tnT, fun f => lookC f [(23, ci23), (24, ci24)], 23⟩
noncomputable def ci15 : CInfo := ⟨(plains 2), TyTup [.sl .Credit, .v .Addr], TyTup [.v .bool], decTup [.sl .Credit, .v .Addr], fun x => some (creditFor x.1 x.2), flatTup [.v .bool], [(false, 1)], []⟩
theorem e15 (x : TyTup [.sl .Credit, .v .Addr]) : evalF C15 Try.f15 (Try.f15.body.getD .skip) an15 (plains 2) [] [(false, 1)] [.v .bool] (encTup [.sl .Credit, .v .Addr] x) = impl_CreditFor.raw x.1 x.2 := by kernel_rfl
theorem c15 : Contract Try.prog 15 ci15 :=
  evalF_ok (C := C15) (tnOk_of tn_mixed tn_ok _ _) (phi_cons c23 (phi_cons c24 phi_nil)) Try.func15 (by kernel_rfl : Try.f15.body = some (Try.f15.body.getD .skip)) (by kernel_rfl) (by kernel_rfl) an15 (plains 2) [] [(false, 1)] [.sl .Credit, .v .Addr] [.v .bool] (fun x => some (creditFor x.1 x.2)) rfl (by kernel_rfl)
    fun x r hb h => (e15 x).trans ((impl_CreditFor.ok hb).trans h)

def an25 : An := ⟨[], [], [], [], []⟩
noncomputable def C25 : Cx := ⟨Try.prog, tnT, fun f => lookC f [(10, ci10)], 21⟩
noncomputable def ci25 : CInfo := ⟨(plains 2), TyTup [.v .Credit, .v .Credit], TyTup [.v .bool], decTup [.v .Credit, .v .Credit], fun x => some (eqq x.1 x.2), flatTup [.v .bool], [(false, 1)], []⟩
theorem e25 (x : TyTup [.v .Credit, .v .Credit]) : evalF C25 Try.f25 (Try.f25.body.getD .skip) an25 (plains 2) [] [(false, 1)] [.v .bool] (encTup [.v .Credit, .v .Credit] x) = laws_eqCredit.raw x.1 x.2 := by kernel_rfl
theorem c25 : Contract Try.prog 25 ci25 :=
  evalF_ok (C := C25) (tnOk_of tn_mixed tn_ok _ _) (phi_cons c10 phi_nil) Try.func25 (by kernel_rfl : Try.f25.body = some (Try.f25.body.getD .skip)) (by kernel_rfl) (by kernel_rfl) an25 (plains 2) [] [(false, 1)] [.v .Credit, .v .Credit] [.v .bool] (fun x => some (eqq x.1 x.2)) rfl (by kernel_rfl)
    fun x r hb h => (e25 x).trans ((laws_eqCredit.ok hb).trans h)

def an16 : An := ⟨[], [(0, ⟨[], [(4, 5), (11, 26)], []⟩)], [(4, ⟨[.slot 5 (.v .int)], [(4, 4), (11, 26)], []⟩)], [], []⟩
noncomputable def C16 : Cx := ⟨Try.prog, tnT, fun f => lookC f [(25, ci25)], 27⟩
noncomputable def ci16 : CInfo := ⟨(plains 2), TyTup [.sl .Credit, .sl .Credit], TyTup [.v .bool], decTup [.sl .Credit, .sl .Credit], fun x => some (eqq x.1 x.2), flatTup [.v .bool], [(false, 1)], []⟩
theorem e16 (x : TyTup [.sl .Credit, .sl .Credit]) : evalF C16 Try.f16 (Try.f16.body.getD .skip) an16 (plains 2) [] [(false, 1)] [.v .bool] (encTup [.sl .Credit, .sl .Credit] x) = laws_eqCreditS.raw x.1 x.2 := by kernel_rfl
theorem c16 : Contract Try.prog 16 ci16 :=
  evalF_ok (C := C16) (tnOk_of tn_mixed tn_ok _ _) (phi_cons c25 phi_nil) Try.func16 (by kernel_rfl : Try.f16.body = some (Try.f16.body.getD .skip)) (by kernel_rfl) (by kernel_rfl) an16 (plains 2) [] [(false, 1)] [.sl .Credit, .sl .Credit] [.v .bool] (fun x => some (eqq x.1 x.2)) rfl (by kernel_rfl)
    fun x r hb h => (e16 x).trans ((laws_eqCreditS.ok hb).trans h)

def an5 : An := ⟨[], [], [], [], []⟩
noncomputable def C5 : Cx := ⟨Try.prog, tnT, fun f => lookC f [(11, ci11), (12, ci12), (13, ci13), (14, ci14), (15, ci15), (16, ci16)], 33⟩
noncomputable def ci5 : CInfo := ⟨(plains 2), TyTup [.sl .Credit, .v .Addr], TyTup [.v .bool], decTup [.sl .Credit, .v .Addr], fun x => some (always2 x.1 x.2), flatTup [.v .bool], [(false, 1)], []⟩
theorem e5 (x : TyTup [.sl .Credit, .v .Addr]) : evalF C5 Try.f5 (Try.f5.body.getD .skip) an5 (plains 2) [] [(false, 1)] [.v .bool] (encTup [.sl .Credit, .v .Addr] x) = laws_FnExactCreditFor.raw x.1 x.2 := by kernel_rfl
theorem c5 : Contract Try.prog 5 ci5 :=
  evalF_ok (C := C5) (tnOk_of tn_mixed tn_ok _ _) (phi_cons c11 (phi_cons c12 (phi_cons c13 (phi_cons c14 (phi_cons c15 (phi_cons c16 phi_nil)))))) Try.func5 (by kernel_rfl : Try.f5.body = some (Try.f5.body.getD .skip)) (by kernel_rfl) (by kernel_rfl) an5 (plains 2) [] [(false, 1)] [.sl .Credit, .v .Addr] [.v .bool] (fun x => some (always2 x.1 x.2)) rfl (by kernel_rfl)
    fun x r hb h => (e5 x).trans ((laws_FnExactCreditFor.ok hb).trans h)

end Go.D

/-
  What is known of the package's variables; strconv's two functions as contracts of this program.
-/
import Derived.Test.YtnmnifbcflablaaDoorN9
import Derived.Test.YtnmnifbcflablaaDoorSh
import Derived.Lib.LaidTab
import Derived.Lib.AtoiErrMem
namespace Go.D
open Go.Proofs Go.RowKit

theorem gT : Tryd.prog.globalNamed "internal/strconv.uint64pow10" = some 2 := by kernel_rfl
theorem gS : Tryd.prog.globalNamed "strconv.ErrSyntax" = some 0 := by kernel_rfl
theorem gR : Tryd.prog.globalNamed "strconv.ErrRange" = some 1 := by kernel_rfl
theorem var_stay {P : Program} {n : String} {g K : Nat} (hg : P.globalNamed n = some g) (hK : g < K) {w w' : World} (h : ∀ b, b < K → w'.heap[b]? = w.heap[b]?) : w'.var? P n = w.var? P n := by
  simp only [World.var?, hg, Option.bind_some, h g hK]
theorem var_lt {P : Program} {n : String} {g : Nat} {w : World} {cs : Array Value} (hg : P.globalNamed n = some g) (h : w.var? P n = some cs) : g < w.heap.size := by
  simp only [World.var?, hg, Option.bind_some] at h
  cases hh : w.heap[g]? with
  | none => rw [hh] at h; cases h
  | some o => exact (Array.getElem?_eq_some_iff.1 hh).1
def tabP (w : World) : Prop := Lib.TabIs Tryd.prog w "internal/strconv.uint64pow10" .u64 Lib.pow10Tab
def errP (n : String) (w : World) : Prop := ∃ tp p, w.var? Tryd.prog n = some #[.iface tp p]
theorem errP_stay {n : String} {g K : Nat} (hg : Tryd.prog.globalNamed n = some g) (hK : g < K) {w w' : World} (h : ∀ b, b < K → w'.heap[b]? = w.heap[b]?) : errP n w → errP n w' := by
  rintro ⟨tp, p, k⟩
  exact ⟨tp, p, (var_stay hg hK h).trans k⟩
def glP : Gl := ⟨3, fun w => tabP w ∧ errP "strconv.ErrSyntax" w ∧ errP "strconv.ErrRange" w,
  fun _ _ h hp => ⟨(var_stay gT (by decide) h).trans hp.1, errP_stay gS (by decide) h hp.2.1, errP_stay gR (by decide) h hp.2.2⟩, fun _ hp => var_lt gT hp.1⟩

theorem ent16 (args : Array Value) (w : World) : (callFunc 16 args).run Tryd.prog w = .ok (.enter 16 args) w :=
  enter_ok Tryd.func16 (by kernel_rfl : Tryd.f16.body = some (Tryd.f16.body.getD .skip)) (by kernel_rfl) args
theorem ent18 (args : Array Value) (w : World) : (callFunc 18 args).run Tryd.prog w = .ok (.enter 18 args) w :=
  enter_ok Tryd.func18 (by kernel_rfl : Tryd.f18.body = some (Tryd.f18.body.getD .skip)) (by kernel_rfl) args

theorem below_grow (w : World) (k : Nat) (os : Array Obj) : Below w.heap.size w (Go.Sort.grow (w.drewN k) os) :=
  ⟨rfl, rfl, rfl, by show w.heap.size ≤ (w.heap ++ os).size; rw [Array.size_append]; omega, fun i hi => Array.getElem?_append_left hi⟩

theorem itoaC (g : Gl) (hg : ∀ w, g.p w → tabP w) : Contract Tryd.prog 16 (mkCI (plains 1) [.v .int] [.v .str] (fun x => some (itoaT x)) [(false, 1)] [] false) g :=
  itoa_ctr g ent16 fun n w h0 h1 hp => Calls.mono' (Tryd.strconv_Itoa n h0 h1 w (hg w hp)) fun e w' ⟨he, k, os, hw⟩ => ⟨he, by rw [hw]; exact below_grow w k os⟩

theorem atoiC (g : Gl) (hg : ∀ w, g.p w → errP "strconv.ErrSyntax" w ∧ errP "strconv.ErrRange" w) : Contract Tryd.prog 18 ciAtoi g :=
  atoi_ctr g ent18 fun s w hs hp => by
    have key : ∀ x, Lib.atoiAll s.data.toList = x → Calls Tryd.prog 18 #[.string s] w fun e w' => (∃ v, e = .returned (.tuple #[.int .i64 (atoiT s.data.toList).1, v]) ∧ ((atoiT s.data.toList).2 = true ∧ v = .nilIface ∨ (atoiT s.data.toList).2 = false ∧ ∃ t p, v = .iface t p)) ∧ Below w.heap.size w w' := by
      intro x hx
      cases x with
      | ok v =>
        have e1 : atoiT s.data.toList = (v, true) := by unfold atoiT; rw [hx]
        rw [e1]
        refine Calls.mono' (Tryd.strconv_Atoi_ok s (by omega) v hx w) fun e w' ⟨he, hw⟩ => ⟨⟨_, he, .inl ⟨rfl, rfl⟩⟩, ?_⟩
        rcases hw with rfl | ⟨t, rfl⟩
        · exact Below.refl _ _
        · exact Lib.bytesWorld_below _ _ _
      | «syntax» =>
        have e1 : atoiT s.data.toList = (0, false) := by unfold atoiT; rw [hx]
        rw [e1]
        obtain ⟨tp, p, hv⟩ := (hg w hp).1
        exact Calls.mono' (Tryd.strconv_Atoi_syntax_var s hs hx tp p w hv) fun e w' ⟨N, he, _, _, hb⟩ => ⟨⟨_, he, .inr ⟨rfl, _, _, rfl⟩⟩, hb⟩
      | range =>
        have e1 : atoiT s.data.toList = (Lib.atoiSat s.data.toList, false) := by unfold atoiT; rw [hx]
        rw [e1]
        obtain ⟨tp, p, hv⟩ := (hg w hp).2
        exact Calls.mono' (Tryd.strconv_Atoi_range_var s hs hx tp p w hv) fun e w' ⟨N, he, _, _, hb⟩ => ⟨⟨_, he, .inr ⟨rfl, _, _, rfl⟩⟩, hb⟩
    exact key _ rfl

end Go.D


/-
  Itoa and Atoi, as the laws on numbers that are parsed use them.
-/
namespace Go.D
noncomputable def ci16 : CInfo := mkCI (plains 1) [.v .int] [.v .str] (fun x => some (itoaT x)) [(false, 1)] [] false
theorem c16 : Contract Go.Proofs.Tryd.prog 16 ci16 glP := itoaC glP fun _ h => h.1
noncomputable def ci18 : CInfo := ciAtoi
theorem c18 : Contract Go.Proofs.Tryd.prog 18 ci18 glP := atoiC glP fun _ h => h.2
end Go.D

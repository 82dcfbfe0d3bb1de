/-
  What is known of the package's variables; strconv's two functions as contracts of this program.
-/
import Derived.Test.YtnmnifbcflablaaDoorN9
import Derived.Test.YtnmnifbcflablaaDoorSh
import Derived.Lib.LaidTab
import Derived.Lib.AtoiErrMem
namespace Go.D
open Go.Proofs Go.RowKit

theorem gT : Tryd.prog.globalNamed "internal/strconv.uint64pow10" = some 2 := by kernel_rfl
theorem var_stay {P : Program} {n : String} {g K : Nat} (hg : P.globalNamed n = some g) (hK : g < K) {w w' : World} (h : ∀ b, b < K → w'.heap[b]? = w.heap[b]?) : w'.var? P n = w.var? P n := by
  simp only [World.var?, hg, Option.bind_some, h g hK]
theorem var_lt {P : Program} {n : String} {g : Nat} {w : World} {cs : Array Value} (hg : P.globalNamed n = some g) (h : w.var? P n = some cs) : g < w.heap.size := by
  simp only [World.var?, hg, Option.bind_some] at h
  cases hh : w.heap[g]? with
  | none => rw [hh] at h; cases h
  | some o => exact (Array.getElem?_eq_some_iff.1 hh).1
def tabP (w : World) : Prop := Lib.TabIs Tryd.prog w "internal/strconv.uint64pow10" .u64 Lib.pow10Tab
def glN : Gl := ⟨3, tabP, fun _ _ h hp => (var_stay gT (by decide) h).trans hp, fun _ hp => var_lt gT hp⟩
theorem ent16 (args : Array Value) (w : World) : (callFunc 16 args).run Tryd.prog w = .ok (.enter 16 args) w :=
  enter_ok Tryd.func16 (by kernel_rfl : Tryd.f16.body = some (Tryd.f16.body.getD .skip)) (by kernel_rfl) args
theorem below_grow (w : World) (k : Nat) (os : Array Obj) : Below w.heap.size w (Go.Sort.grow (w.drewN k) os) :=
  ⟨rfl, rfl, rfl, by show w.heap.size ≤ (w.heap ++ os).size; rw [Array.size_append]; omega, fun i hi => Array.getElem?_append_left hi⟩

theorem itoaC (g : Gl) (hg : ∀ w, g.p w → tabP w) : Contract Tryd.prog 16 (mkCI (plains 1) [.v .int] [.v .str] (fun x => some (itoaT x)) [(false, 1)] [] false) g :=
  itoa_ctr g ent16 fun n w h0 h1 hp => Calls.mono' (Tryd.strconv_Itoa n h0 h1 w (hg w hp)) fun e w' ⟨he, k, os, hw⟩ => ⟨he, by rw [hw]; exact below_grow w k os⟩

end Go.D


/-
  Itoa, as the laws on numbers' texts use it.
-/
namespace Go.D
noncomputable def ci16 : CInfo := mkCI (plains 1) [.v .int] [.v .str] (fun x => some (itoaT x)) [(false, 1)] [] false
theorem c16 : Contract Go.Proofs.Tryd.prog 16 ci16 glN := itoaC glN fun _ h => h
end Go.D

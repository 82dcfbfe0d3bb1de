/- The law FnNums holds; condition: the listed package variables start as the program's text lays them (the card ties them to it). -/
import Derived.Test.YtnmnifbcflablaaDoorCtr
import Derived.Test.YtnmnifbcflablaaDoorRows
import Derived.Test.YtnmnifbcflablaaDoorTie
import Derived.Test.YtnmnifbcflablaaDoorCards
import Derived.WalkKit
import Derived.ProofKit
import Derived.OpenShut
import Derived.LaidLaws
import Derived.Stop.LaidErr
import Derived.Deep.DeepLaidRun
import Derived.SevenTiedAt
namespace Go.Proofs.YtnmnifbcflablaaDoor.fnNums
open Go.ChangeShapes Go.WideShapes Go.ChangeAt Go.RowKit Go.D

theorem own : ownKnob Tryd.prog.godebug = none := by kernel_rfl
theorem kinds : KindsOk Tryd.prog tnT 8 := kindsOk_of (l := [(3, .int), (5, .byte), (9, .str)]) (by kernel_rfl)

def laidL : List (String × DataW Unit) := Rows.fnNumsRow.laid
def tabC (l : List Nat) : Array Value := (l.map fun (z : Nat) => Value.int .u8 (z : Int)).toArray
def t32 : List Nat := [0, 1, 28, 2, 29, 14, 24, 3, 30, 22, 20, 15, 25, 17, 4, 8, 31, 27, 13, 23, 21, 19, 16, 7, 26, 12, 18, 6, 11, 5, 10, 9]
def t64 : List Nat := [0, 1, 56, 2, 57, 49, 28, 3, 61, 58, 42, 50, 38, 29, 17, 4, 62, 47, 59, 36, 45, 43, 51, 22, 53, 39, 33, 30, 24, 18, 12, 5, 63, 55, 48, 27, 60, 41, 37, 16, 46, 35, 44, 21, 52, 32, 23, 11, 54, 26, 40, 15, 34, 20, 31, 10, 25, 14, 19, 9, 13, 8, 7, 6]
def put (cs : Array Value) : Obj → Obj
  | .cells _ t z => .cells cs t z
  | o => o
def synS : ByteArray := { data := #[105, 110, 118, 97, 108, 105, 100, 32, 115, 121, 110, 116, 97, 120] }
def rngS : ByteArray := { data := #[118, 97, 108, 117, 101, 32, 111, 117, 116, 32, 111, 102, 32, 114, 97, 110, 103, 101] }
/-- So many blocks has the settled world. -/
noncomputable def low : Nat := (World.holding Tryd.prog default ⟨#[], #[], []⟩).heap.size
/-- One start that fits: the settled world, the variables laid. -/
noncomputable def laidWorld (os : Os) : World :=
  let w0 := World.holding Tryd.prog os ⟨#[.cells #[.string synS] 78, .cells #[.string rngS] 78], #[], []⟩
  { w0 with heap := ((((w0.heap.modify 0 (put #[.iface 76 (.pointer (some ⟨low, 0, none⟩))])).modify 1 (put #[.iface 76 (.pointer (some ⟨low + 1, 0, none⟩))])).modify 2 (put (Lib.pow10Tab.map fun z => Value.int .u64 z).toArray)).modify 3 (put (tabC t32))).modify 4 (put (tabC t64)) }
theorem laidWorld_met (os : Os) (args : Array Value) : laidMet Tryd.prog laidL ((laidWorld os).forCall (fun _ _ => 0) ⟨#[], args, []⟩).memory :=
  laidMet_of_run3 8 (by kernel_rfl) (by kernel_rfl) (by kernel_rfl)

theorem cells78 : Tryd.prog.cellsOf 78 = 1 := by kernel_rfl
theorem cells9 : Tryd.prog.cellsOf 9 = 1 := by kernel_rfl
theorem star : "*" ++ "errors.errorString" = "*errors.errorString" := by decide
theorem row76 (u : TypeId) (h : Tryd.prog.typeName? 3 u = some "*errors.errorString") : u = 76 :=
  typeName_ptr_named (nm := "errors.errorString") (by rw [star]; kernel_rfl) (by kernel_rfl) (by decide) u (by rw [star]; exact h)
theorem known {W : World} (hL : laidMet Tryd.prog laidL W) : glP.p W := by
  have h3 : Lib.TabIs Tryd.prog W "internal/strconv.uint64pow10" .u64 Lib.pow10Tab := Lib.tabIs_of_head gT (by kernel_rfl : (Tryd.prog.globals[2]?).map (·.type) = some 70) (by kernel_rfl : Tryd.prog.underlying 70 = some (.array 20 57)) (by kernel_rfl : Tryd.prog.underlying 57 = some (.int .u64)) (by kernel_rfl) (by kernel_rfl) hL.tail.tail
  obtain ⟨a1, s1, hv1, -, -, -⟩ := laid_sentinel hL.tail.tail.tail gR (by kernel_rfl : (Tryd.prog.globals[1]?).map (·.type) = some 33) Tryd.underlying33 row76 Tryd.underlying76 Tryd.underlying78 rfl rfl Tryd.underlying9 cells78 cells9
  obtain ⟨a0, s0, hv0, -, -, -⟩ := laid_sentinel hL.tail.tail.tail.tail gS (by kernel_rfl : (Tryd.prog.globals[0]?).map (·.type) = some 33) Tryd.underlying33 row76 Tryd.underlying76 Tryd.underlying78 rfl rfl Tryd.underlying9 cells78 cells9
  exact ⟨h3, ⟨_, _, hv0⟩, ⟨_, _, hv1⟩⟩

def wit : Array Value := #[.slice none 0 0]
theorem w1 (os : Os) : ((laidWorld os).forCall (fun _ _ => 0) ⟨#[], wit, []⟩).variablesB Tryd.checked.prog = true := by kernel_rfl
theorem w2 (os : Os) : (((laidWorld os).forCall (fun _ _ => 0) ⟨#[], wit, []⟩).heap.toList.drop Tryd.checked.prog.globals.size).take ((begin Tryd.checked.prog (fun _ _ => 0) default).world.heap.size - Tryd.checked.prog.globals.size) =
    (begin Tryd.checked.prog (fun _ _ => 0) default).world.heap.toList.drop Tryd.checked.prog.globals.size := by kernel_rfl
theorem w3 (os : Os) : Input.okWideB Tryd.checked.prog ((laidWorld os).forCall (fun _ _ => 0) ⟨#[], wit, []⟩) 5 ⟨#[], wit, []⟩ = true := by kernel_rfl
theorem w4 (os : Os) (H : Type) (enc : TypeId × Value → H) : Rows.fnNumsSpec.preB enc Tryd.checked.prog Tryd.f5 Rows.fnNumsRow.domain false ((laidWorld os).forCall (fun _ _ => 0) ⟨#[], wit, []⟩).memory wit 8 = true := by kernel_rfl
theorem w5 (os : Os) (H : Type) (enc : TypeId × Value → H) : Rows.fnNumsSpec.sizedB enc Tryd.checked.prog Tryd.f5 false ((laidWorld os).forCall (fun _ _ => 0) ⟨#[], wit, []⟩).memory wit 8 = true := by kernel_rfl
theorem noInit : Tryd.checked.prog.inits.idxOf? 5 = none := by kernel_rfl
theorem tys : tysOk Tryd.prog tnT 8 Tryd.f5.params.toList [.sl .byte] = true := by kernel_rfl
theorem laidOut : laidOutB Tryd.prog = true := by kernel_rfl
theorem readable : (Tryd.f5.params.toList.all fun t => Tryd.prog.readableRec t && Nat.blt t Tryd.prog.types.size) = true := by kernel_rfl
theorem body : Tryd.f5.body = some (Tryd.f5.body.getD .skip) := by kernel_rfl
theorem noName : (Tryd.f5.name == "runtime.NumGoroutine") = false := by kernel_rfl
theorem results : Tryd.f5.resultTypes = #[4] := by kernel_rfl
theorem params : Tryd.f5.params.toList = [27] := by kernel_rfl

set_option maxRecDepth 100000 in
theorem lifted (os : Os) (started : os.Started) (H : Type) (enc : TypeId × Value → H) :
    ReturnsInHanded {} Tryd.checked os 5 .any (fun w args => (Rows.fnNumsSpec.pre enc Tryd.prog Tryd.f5 Rows.fnNumsRow.domain false w args ∧ laidMet Tryd.prog laidL w) ∧ sizedMet enc Tryd.prog Tryd.f5 (OpenSpec.ofChange Rows.fnNumsSpec) false w args)
      (Rows.fnNumsSpec.post enc Tryd.prog Tryd.f5 false true false false) := by
  refine returnsInHanded_of_change_and (C := Tryd.checked) (X := fun w _ => laidMet Tryd.prog laidL w) (fun _ _ _ hh h => h.of_heap hh) own started noInit Tryd.func5
    (ChangeSpec.witness_at (enc := enc) (C := Tryd.checked) (os := os) (X := fun w _ => laidMet Tryd.prog laidL w) false (laidWorld os) wit 8 rfl (w1 os) (w2 os) (w3 os) (w4 os H enc) (w5 os H enc) (laidWorld_met os _)) ?_
  intro W base args ds gs before hval hW hcnd _ hL _
  refine law_rowG (g := glP) (known hL) (W := W) (tn := tnT) kinds (ats := [.sl .byte]) c5 rfl (fun _ => rfl) Tryd.func5 body noName tys laidOut readable
    results Tryd.underlying4 rfl hW ?_ hval
  intro hgs
  subst hgs
  obtain ⟨p, q, hA, _⟩ := hW
  have hA : DataW.TrodAll enc Tryd.prog W 0 (fun _ => true) true Tryd.f5.params.toList args.toList ds p := hA
  rw [params] at hA
  obtain ⟨v0, vs0, d0, ds0, p0, q0, h, rfl, rfl, h0, r0⟩ := trodAll_cons hA
  obtain ⟨rfl, rfl, rfl⟩ := trodAll_nil r0
  rfl

theorem named : Tryd.checked.prog.funcNamed Rows.fnNumsRow.func = some 5 := by kernel_rfl
theorem facts : joinedFacts Tryd.checked.prog 5 Tryd.f5 Rows.fnNumsSpec Rows.fnNumsRow = true := by kernel_rfl
theorem inst : Tryd.f5.isInstance Tryd.checked.prog Rows.fnNumsRow.origin Rows.fnNumsRow.targs := of_decide_eq_true (by kernel_rfl)
theorem wrap : Tryd.f5.isWrapper Tryd.checked.prog Rows.fnNumsRow.wrapper Rows.fnNumsRow.mainSum := by unfold Func.isWrapper; first | (rw [if_pos (by decide +kernel)]; kernel_rfl) | (rw [if_neg (by decide +kernel)]; exact ⟨rfl, rfl⟩)
theorem over : Rows.fnNumsRow.holds Tryd.pinned (OpenSpec.ofChange Rows.fnNumsSpec) :=
  OpenClaim.holds_of_wide 5 Tryd.f5 rfl rfl rfl rfl rfl rfl rfl ⟨rfl, rfl, rfl, rfl, rfl⟩ rfl rfl rfl rfl rfl named Tryd.func5 facts inst wrap
    (fun os started H enc _ => lifted os started H enc)

theorem wfT : Rows.fnNumsRow.wfByText (OpenSpec.ofChange Rows.fnNumsSpec) = true := by kernel_rfl
theorem mainT : Tryd.checked.prog.mainIs = some (true, ((true, "f858f0597f6a3e3a018a6b3c82e54a03b0bc2e5259f23e1596888d4aafa48592").2).toList) := by kernel_rfl
theorem looksT : true = Tryd.checked.prog.looks [] := by kernel_rfl
theorem wantsT : Tryd.checked.prog.wantsStandIn 27 = false := by kernel_rfl
theorem goesT : false = Rows.fnNumsRow.goesBy Tryd.checked.prog := by kernel_rfl
theorem proved : Rows.FnNumsCardSaid :=
  Claim7.holds_tied_plain_at .later [] [.data, .data, .data, .sentinel, .sentinel] true (true, "f858f0597f6a3e3a018a6b3c82e54a03b0bc2e5259f23e1596888d4aafa48592") true
    over (fun _ h => by cases h) wfT (fun _ h => by cases h) fnNums_row_tie rfl ⟨rfl, rfl⟩ mainT rfl
    (fun f fn hf hfn => by
      obtain rfl : f = 5 := (Option.some.inj (named.symm.trans hf)).symm
      obtain rfl : fn = Tryd.f5 := (Option.some.inj (Tryd.func5.symm.trans hfn)).symm
      refine ⟨looksT, fun j t ht => ?_⟩
      have hp : Tryd.f5.params.toList[j]? = some t := by rw [Array.getElem?_toList]; exact ht
      rw [params] at hp
      have h3 : t = 27 := by
        rcases j with _ | j
        · simpa using hp.symm
        · simp at hp
      subst h3
      exact wantsT)
    goesT
#print axioms proved
end Go.Proofs.YtnmnifbcflablaaDoor.fnNums

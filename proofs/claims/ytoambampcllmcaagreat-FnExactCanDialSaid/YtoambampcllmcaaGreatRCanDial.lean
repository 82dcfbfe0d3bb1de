/- The law FnExactCanDial: the program's CanDial returns what the reference's CanDial returns, for all arguments, and leaves its arguments as they were; no condition. -/
import Derived.Test.YtoambampcllmcaaGreatCtr
import Derived.Test.YtoambampcllmcaaGreatRows
import Derived.WalkKit
import Derived.ProofKit
import Derived.OpenShut
namespace Go.Proofs.YtoambampcllmcaaGreat.fnExactCanDial
open Go.ChangeShapes Go.WideShapes Go.ChangeAt Go.RowKit Go.D

theorem own : ownKnob Tryz.prog.godebug = none := by kernel_rfl
theorem kinds : KindsOk Tryz.prog tnT 8 := kindsOk_of (l := [(3, .int), (5, .byte), (24, .bs), (88, .Client), (92, .Note), (111, .Sess), (118, .Cand), (133, .Client), (140, .Wire), (143, .Note), (150, .Wire), (175, .Credit), (190, .Credit), (205, .Sess), (244, .Cand)]) (by kernel_rfl)

set_option maxRecDepth 100000 in
theorem lifted (os : Os) (started : os.Started) (H : Type) (enc : TypeId × Value → H) :
    ReturnsInHanded {} Tryz.checked os 10 .any (Rows.fnExactCanDialSpec.pre6 enc Tryz.prog Tryz.f10 Rows.fnExactCanDialRow.domain false) (Rows.fnExactCanDialSpec.post enc Tryz.prog Tryz.f10 false true false false) := by
  refine returnsInHanded_of_change (C := Tryz.checked) own started (by kernel_rfl) Tryz.func10
    (ChangeSpec.witness6 (enc := enc) (C := Tryz.checked) false ⟨#[], #[.agg #[.int .i64 0, .slice none 0 0, .slice none 0 0, .slice none 0 0, .slice none 0 0, .int .i64 0, .int .i64 0, .slice none 0 0, .slice none 0 0, .slice none 0 0, .int .i64 0, .slice none 0 0, .slice none 0 0, .slice none 0 0], .int .i64 0], []⟩ 8 (by kernel_rfl) (by kernel_rfl) (by kernel_rfl) (by kernel_rfl)) ?_
  intro W base args ds gs before hval hW hcnd _
  refine law_row (W := W) (tn := tnT) kinds (ats := [.v .World, .v .int]) c10 rfl (fun _ => rfl) Tryz.func10 (by kernel_rfl : Tryz.f10.body = some (Tryz.f10.body.getD .skip)) (by kernel_rfl) (by kernel_rfl) (by kernel_rfl) (by kernel_rfl)
    (by kernel_rfl) Tryz.underlying4 rfl hW ?_ hval
  intro hgs
  subst hgs
  obtain ⟨p, q, hA, _⟩ := hW
  have hA : DataW.TrodAll enc Tryz.prog W 0 (fun _ => true) true Tryz.f10.params.toList args.toList ds p := hA
  rw [show Tryz.f10.params.toList = [38, 3] by kernel_rfl] at hA
  obtain ⟨v0, vs0, d0, ds0, p0, q0, h, rfl, rfl, h0, r0⟩ := trodAll_cons hA
  obtain ⟨v1, vs1, d1, ds1, p1, q1, rfl, rfl, rfl, h1, r1⟩ := trodAll_cons r0
  obtain ⟨rfl, rfl, rfl⟩ := trodAll_nil r1
  rfl

theorem named : Tryz.checked.prog.funcNamed Rows.fnExactCanDialRow.func = some 10 := by kernel_rfl
theorem facts : joinedFacts Tryz.checked.prog 10 Tryz.f10 Rows.fnExactCanDialSpec Rows.fnExactCanDialRow = true := by kernel_rfl
theorem inst : Tryz.f10.isInstance Tryz.checked.prog Rows.fnExactCanDialRow.origin Rows.fnExactCanDialRow.targs := of_decide_eq_true (by kernel_rfl)
theorem wrap : Tryz.f10.isWrapper Tryz.checked.prog Rows.fnExactCanDialRow.wrapper Rows.fnExactCanDialRow.mainSum := by unfold Func.isWrapper; first | (rw [if_pos (by decide +kernel)]; kernel_rfl) | (rw [if_neg (by decide +kernel)]; exact ⟨rfl, rfl⟩)
theorem over : Rows.fnExactCanDialRow.holds Tryz.pinned (OpenSpec.ofChange Rows.fnExactCanDialSpec) :=
  OpenClaim.holds_of_wide 10 Tryz.f10 rfl rfl rfl rfl rfl rfl rfl ⟨rfl, rfl, rfl, rfl, rfl⟩ rfl rfl rfl rfl rfl named Tryz.func10 facts inst wrap
    (fun os started H enc _ => lifted os started H enc)

theorem proved : Rows.FnExactCanDialSaid := over
#print axioms proved
end Go.Proofs.YtoambampcllmcaaGreat.fnExactCanDial

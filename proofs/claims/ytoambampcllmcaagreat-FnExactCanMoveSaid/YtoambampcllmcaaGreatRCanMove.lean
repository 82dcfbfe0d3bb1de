/- The law FnExactCanMove: the program's CanMove returns what the reference's CanMove returns, for all arguments, and leaves its arguments as they were; no condition. -/
import Derived.Test.YtoambampcllmcaaGreatCtr
import Derived.Test.YtoambampcllmcaaGreatRows
import Derived.WalkKit
import Derived.ProofKit
import Derived.OpenShut
namespace Go.Proofs.YtoambampcllmcaaGreat.fnExactCanMove
open Go.ChangeShapes Go.WideShapes Go.ChangeAt Go.RowKit Go.D

theorem own : ownKnob Tryz.prog.godebug = none := by kernel_rfl
theorem kinds : KindsOk Tryz.prog tnT 8 := kindsOk_of (l := [(3, .int), (5, .byte), (24, .bs), (88, .Client), (92, .Note), (111, .Sess), (118, .Cand), (133, .Client), (140, .Wire), (143, .Note), (150, .Wire), (175, .Credit), (190, .Credit), (205, .Sess), (244, .Cand)]) (by kernel_rfl)

set_option maxRecDepth 100000 in
theorem lifted (os : Os) (started : os.Started) (H : Type) (enc : TypeId × Value → H) :
    ReturnsInHanded {} Tryz.checked os 9 .any (Rows.fnExactCanMoveSpec.pre6 enc Tryz.prog Tryz.f9 Rows.fnExactCanMoveRow.domain false) (Rows.fnExactCanMoveSpec.post enc Tryz.prog Tryz.f9 false true false false) := by
  refine returnsInHanded_of_change (C := Tryz.checked) own started (by kernel_rfl) Tryz.func9
    (ChangeSpec.witness6 (enc := enc) (C := Tryz.checked) false ⟨#[], #[.agg #[.int .i64 0, .slice none 0 0, .slice none 0 0, .slice none 0 0, .slice none 0 0, .int .i64 0, .int .i64 0, .slice none 0 0, .slice none 0 0, .slice none 0 0, .int .i64 0, .slice none 0 0, .slice none 0 0, .slice none 0 0], .int .i64 0, .agg #[.int .i64 0, .int .i64 0]], []⟩ 8 (by kernel_rfl) (by kernel_rfl) (by kernel_rfl) (by kernel_rfl)) ?_
  intro W base args ds gs before hval hW hcnd _
  refine law_row (W := W) (tn := tnT) kinds (ats := [.v .World, .v .int, .v .Addr]) c9 rfl (fun _ => rfl) Tryz.func9 (by kernel_rfl : Tryz.f9.body = some (Tryz.f9.body.getD .skip)) (by kernel_rfl) (by kernel_rfl) (by kernel_rfl) (by kernel_rfl)
    (by kernel_rfl) Tryz.underlying4 rfl hW ?_ hval
  intro hgs
  subst hgs
  obtain ⟨p, q, hA, _⟩ := hW
  have hA : DataW.TrodAll enc Tryz.prog W 0 (fun _ => true) true Tryz.f9.params.toList args.toList ds p := hA
  rw [show Tryz.f9.params.toList = [38, 3, 60] by kernel_rfl] at hA
  obtain ⟨v0, vs0, d0, ds0, p0, q0, h, rfl, rfl, h0, r0⟩ := trodAll_cons hA
  obtain ⟨v1, vs1, d1, ds1, p1, q1, rfl, rfl, rfl, h1, r1⟩ := trodAll_cons r0
  obtain ⟨v2, vs2, d2, ds2, p2, q2, rfl, rfl, rfl, h2, r2⟩ := trodAll_cons r1
  obtain ⟨rfl, rfl, rfl⟩ := trodAll_nil r2
  rfl

theorem named : Tryz.checked.prog.funcNamed Rows.fnExactCanMoveRow.func = some 9 := by kernel_rfl
theorem facts : joinedFacts Tryz.checked.prog 9 Tryz.f9 Rows.fnExactCanMoveSpec Rows.fnExactCanMoveRow = true := by kernel_rfl
theorem inst : Tryz.f9.isInstance Tryz.checked.prog Rows.fnExactCanMoveRow.origin Rows.fnExactCanMoveRow.targs := of_decide_eq_true (by kernel_rfl)
theorem wrap : Tryz.f9.isWrapper Tryz.checked.prog Rows.fnExactCanMoveRow.wrapper Rows.fnExactCanMoveRow.mainSum := by unfold Func.isWrapper; first | (rw [if_pos (by decide +kernel)]; kernel_rfl) | (rw [if_neg (by decide +kernel)]; exact ⟨rfl, rfl⟩)
theorem over : Rows.fnExactCanMoveRow.holds Tryz.pinned (OpenSpec.ofChange Rows.fnExactCanMoveSpec) :=
  OpenClaim.holds_of_wide 9 Tryz.f9 rfl rfl rfl rfl rfl rfl rfl ⟨rfl, rfl, rfl, rfl, rfl⟩ rfl rfl rfl rfl rfl named Tryz.func9 facts inst wrap
    (fun os started H enc _ => lifted os started H enc)

theorem proved : Rows.FnExactCanMoveSaid := over
#print axioms proved
end Go.Proofs.YtoambampcllmcaaGreat.fnExactCanMove

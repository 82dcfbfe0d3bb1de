/- The law FnExactCanTurn: the program's CanTurn returns what the reference's CanTurn returns, for all arguments, and leaves its arguments as they were; no condition. -/
import Derived.Test.YtoambampcllmcaaGreatCtr
import Derived.Test.YtoambampcllmcaaGreatRows
import Derived.WalkKit
import Derived.ProofKit
import Derived.OpenShut
namespace Go.Proofs.YtoambampcllmcaaGreat.fnExactCanTurn
open Go.ChangeShapes Go.WideShapes Go.ChangeAt Go.RowKit Go.D

theorem own : ownKnob Tryz.prog.godebug = none := by kernel_rfl
theorem kinds : KindsOk Tryz.prog tnT 8 := kindsOk_of (l := [(3, .int), (5, .byte), (24, .bs), (88, .Client), (92, .Note), (111, .Sess), (118, .Cand), (133, .Client), (140, .Wire), (143, .Note), (150, .Wire), (175, .Credit), (190, .Credit), (205, .Sess), (244, .Cand)]) (by kernel_rfl)

set_option maxRecDepth 100000 in
theorem lifted (os : Os) (started : os.Started) (H : Type) (enc : TypeId × Value → H) :
    ReturnsInHanded {} Tryz.checked os 8 .any (Rows.fnExactCanTurnSpec.pre6 enc Tryz.prog Tryz.f8 Rows.fnExactCanTurnRow.domain false) (Rows.fnExactCanTurnSpec.post enc Tryz.prog Tryz.f8 false true false false) := by
  refine returnsInHanded_of_change (C := Tryz.checked) own started (by kernel_rfl) Tryz.func8
    (ChangeSpec.witness6 (enc := enc) (C := Tryz.checked) false ⟨#[], #[.agg #[.int .i64 0, .slice none 0 0, .slice none 0 0, .slice none 0 0, .slice none 0 0, .int .i64 0, .int .i64 0, .slice none 0 0, .slice none 0 0, .slice none 0 0, .int .i64 0, .slice none 0 0, .slice none 0 0, .slice none 0 0], .int .i64 0], []⟩ 8 (by kernel_rfl) (by kernel_rfl) (by kernel_rfl) (by kernel_rfl)) ?_
  intro W base args ds gs before hval hW hcnd _
  refine law_row (W := W) (tn := tnT) kinds (ats := [.v .World, .v .int]) c8 rfl (fun _ => rfl) Tryz.func8 (by kernel_rfl : Tryz.f8.body = some (Tryz.f8.body.getD .skip)) (by kernel_rfl) (by kernel_rfl) (by kernel_rfl) (by kernel_rfl)
    (by kernel_rfl) Tryz.underlying4 rfl hW ?_ hval
  intro hgs
  subst hgs
  obtain ⟨p, q, hA, _⟩ := hW
  have hA : DataW.TrodAll enc Tryz.prog W 0 (fun _ => true) true Tryz.f8.params.toList args.toList ds p := hA
  rw [show Tryz.f8.params.toList = [38, 3] by kernel_rfl] at hA
  obtain ⟨v0, vs0, d0, ds0, p0, q0, h, rfl, rfl, h0, r0⟩ := trodAll_cons hA
  obtain ⟨v1, vs1, d1, ds1, p1, q1, rfl, rfl, rfl, h1, r1⟩ := trodAll_cons r0
  obtain ⟨rfl, rfl, rfl⟩ := trodAll_nil r1
  rfl

theorem named : Tryz.checked.prog.funcNamed Rows.fnExactCanTurnRow.func = some 8 := by kernel_rfl
theorem facts : joinedFacts Tryz.checked.prog 8 Tryz.f8 Rows.fnExactCanTurnSpec Rows.fnExactCanTurnRow = true := by kernel_rfl
theorem inst : Tryz.f8.isInstance Tryz.checked.prog Rows.fnExactCanTurnRow.origin Rows.fnExactCanTurnRow.targs := of_decide_eq_true (by kernel_rfl)
theorem wrap : Tryz.f8.isWrapper Tryz.checked.prog Rows.fnExactCanTurnRow.wrapper Rows.fnExactCanTurnRow.mainSum := by unfold Func.isWrapper; first | (rw [if_pos (by decide +kernel)]; kernel_rfl) | (rw [if_neg (by decide +kernel)]; exact ⟨rfl, rfl⟩)
theorem over : Rows.fnExactCanTurnRow.holds Tryz.pinned (OpenSpec.ofChange Rows.fnExactCanTurnSpec) :=
  OpenClaim.holds_of_wide 8 Tryz.f8 rfl rfl rfl rfl rfl rfl rfl ⟨rfl, rfl, rfl, rfl, rfl⟩ rfl rfl rfl rfl rfl named Tryz.func8 facts inst wrap
    (fun os started H enc _ => lifted os started H enc)

theorem proved : Rows.FnExactCanTurnSaid := over
#print axioms proved
end Go.Proofs.YtoambampcllmcaaGreat.fnExactCanTurn

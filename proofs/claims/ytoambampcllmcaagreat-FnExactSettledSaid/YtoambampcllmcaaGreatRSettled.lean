/- The law FnExactSettled: the program's Settled returns what the reference's Settled returns, for all arguments, and leaves its arguments as they were; no condition. -/
import Derived.Test.YtoambampcllmcaaGreatCtr
import Derived.Test.YtoambampcllmcaaGreatRows
import Derived.WalkKit
import Derived.ProofKit
import Derived.OpenShut
namespace Go.Proofs.YtoambampcllmcaaGreat.fnExactSettled
open Go.ChangeShapes Go.WideShapes Go.ChangeAt Go.RowKit Go.D

theorem own : ownKnob Tryz.prog.godebug = none := by kernel_rfl
theorem kinds : KindsOk Tryz.prog tnT 8 := kindsOk_of (l := [(3, .int), (5, .byte), (24, .bs), (88, .Client), (92, .Note), (111, .Sess), (118, .Cand), (133, .Client), (140, .Wire), (143, .Note), (150, .Wire), (175, .Credit), (190, .Credit), (205, .Sess), (244, .Cand)]) (by kernel_rfl)

set_option maxRecDepth 100000 in
theorem lifted (os : Os) (started : os.Started) (H : Type) (enc : TypeId × Value → H) :
    ReturnsInHanded {} Tryz.checked os 5 .any (Rows.fnExactSettledSpec.pre6 enc Tryz.prog Tryz.f5 Rows.fnExactSettledRow.domain false) (Rows.fnExactSettledSpec.post enc Tryz.prog Tryz.f5 false true false false) := by
  refine returnsInHanded_of_change (C := Tryz.checked) own started (by kernel_rfl) Tryz.func5
    (ChangeSpec.witness6 (enc := enc) (C := Tryz.checked) false ⟨#[], #[.agg #[.int .i64 0, .slice none 0 0, .slice none 0 0, .slice none 0 0, .slice none 0 0, .int .i64 0, .int .i64 0, .slice none 0 0, .slice none 0 0, .slice none 0 0, .int .i64 0, .slice none 0 0, .slice none 0 0, .slice none 0 0]], []⟩ 8 (by kernel_rfl) (by kernel_rfl) (by kernel_rfl) (by kernel_rfl)) ?_
  intro W base args ds gs before hval hW hcnd _
  refine law_row (W := W) (tn := tnT) kinds (ats := [.v .World]) c5 rfl (fun _ => rfl) Tryz.func5 (by kernel_rfl : Tryz.f5.body = some (Tryz.f5.body.getD .skip)) (by kernel_rfl) (by kernel_rfl) (by kernel_rfl) (by kernel_rfl)
    (by kernel_rfl) Tryz.underlying4 rfl hW ?_ hval
  intro hgs
  subst hgs
  obtain ⟨p, q, hA, _⟩ := hW
  have hA : DataW.TrodAll enc Tryz.prog W 0 (fun _ => true) true Tryz.f5.params.toList args.toList ds p := hA
  rw [show Tryz.f5.params.toList = [38] by kernel_rfl] at hA
  obtain ⟨v0, vs0, d0, ds0, p0, q0, h, rfl, rfl, h0, r0⟩ := trodAll_cons hA
  obtain ⟨rfl, rfl, rfl⟩ := trodAll_nil r0
  rfl

theorem named : Tryz.checked.prog.funcNamed Rows.fnExactSettledRow.func = some 5 := by kernel_rfl
theorem facts : joinedFacts Tryz.checked.prog 5 Tryz.f5 Rows.fnExactSettledSpec Rows.fnExactSettledRow = true := by kernel_rfl
theorem inst : Tryz.f5.isInstance Tryz.checked.prog Rows.fnExactSettledRow.origin Rows.fnExactSettledRow.targs := of_decide_eq_true (by kernel_rfl)
theorem wrap : Tryz.f5.isWrapper Tryz.checked.prog Rows.fnExactSettledRow.wrapper Rows.fnExactSettledRow.mainSum := by unfold Func.isWrapper; first | (rw [if_pos (by decide +kernel)]; kernel_rfl) | (rw [if_neg (by decide +kernel)]; exact ⟨rfl, rfl⟩)
theorem over : Rows.fnExactSettledRow.holds Tryz.pinned (OpenSpec.ofChange Rows.fnExactSettledSpec) :=
  OpenClaim.holds_of_wide 5 Tryz.f5 rfl rfl rfl rfl rfl rfl rfl ⟨rfl, rfl, rfl, rfl, rfl⟩ rfl rfl rfl rfl rfl named Tryz.func5 facts inst wrap
    (fun os started H enc _ => lifted os started H enc)

theorem proved : Rows.FnExactSettledSaid := over
#print axioms proved
end Go.Proofs.YtoambampcllmcaaGreat.fnExactSettled

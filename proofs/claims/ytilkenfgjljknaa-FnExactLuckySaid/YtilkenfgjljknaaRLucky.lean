/- The law FnExactLucky: the program's Lucky returns what the reference's Lucky returns, for all arguments, and leaves its arguments as they were; no condition. -/
import Derived.Test.YtilkenfgjljknaaCtr
import Derived.Test.YtilkenfgjljknaaRows
import Derived.WalkKit
import Derived.ProofKit
import Derived.OpenShut
namespace Go.Proofs.Ytilkenfgjljknaa.fnExactLucky
open Go.ChangeShapes Go.WideShapes Go.ChangeAt Go.RowKit Go.D

theorem own : ownKnob Try.prog.godebug = none := by kernel_rfl
theorem kinds : KindsOk Try.prog tnT 8 := kindsOk_of (l := [(3, .int), (5, .byte), (9, .str), (87, .Credit), (90, .Credit), (98, .Note), (100, .Note), (113, .Op), (114, .Op)]) (by kernel_rfl)

set_option maxRecDepth 100000 in
theorem lifted (os : Os) (started : os.Started) (H : Type) (enc : TypeId × Value → H) :
    ReturnsInHanded {} Try.checked os 12 .any (Rows.fnExactLuckySpec.pre6 enc Try.prog Try.f12 Rows.fnExactLuckyRow.domain false) (Rows.fnExactLuckySpec.post enc Try.prog Try.f12 false true false false) := by
  refine returnsInHanded_of_change (C := Try.checked) own started (by kernel_rfl) Try.func12
    (ChangeSpec.witness6 (enc := enc) (C := Try.checked) false ⟨#[], #[.slice none 0 0], []⟩ 8 (by kernel_rfl) (by kernel_rfl) (by kernel_rfl) (by kernel_rfl)) ?_
  intro W base args ds gs before hval hW hcnd _
  refine law_row (W := W) (tn := tnT) kinds (ats := [.sl .Note]) c12 rfl (fun _ => rfl) Try.func12 (by kernel_rfl : Try.f12.body = some (Try.f12.body.getD .skip)) (by kernel_rfl) (by kernel_rfl) (by kernel_rfl) (by kernel_rfl)
    (by kernel_rfl) Try.underlying4 rfl hW ?_ hval
  intro hgs
  subst hgs
  obtain ⟨p, q, hA, _⟩ := hW
  have hA : DataW.TrodAll enc Try.prog W 0 (fun _ => true) true Try.f12.params.toList args.toList ds p := hA
  rw [show Try.f12.params.toList = [50] by kernel_rfl] at hA
  obtain ⟨v0, vs0, d0, ds0, p0, q0, h, rfl, rfl, h0, r0⟩ := trodAll_cons hA
  obtain ⟨rfl, rfl, rfl⟩ := trodAll_nil r0
  rfl

theorem over : Rows.fnExactLuckyRow.holds Try.pinned (OpenSpec.ofChange Rows.fnExactLuckySpec) :=
  OpenClaim.holds_of_wide 12 Try.f12 rfl rfl rfl rfl rfl rfl rfl ⟨rfl, rfl, rfl, rfl, rfl⟩ rfl rfl rfl rfl rfl (by kernel_rfl) Try.func12 (by kernel_rfl)
    (of_decide_eq_true (by kernel_rfl)) (by unfold Func.isWrapper; first | (rw [if_pos (by decide +kernel)]; kernel_rfl) | (rw [if_neg (by decide +kernel)]; exact ⟨rfl, rfl⟩))
    (fun os started H enc _ => lifted os started H enc)

theorem proved : Rows.FnExactLuckySaid := over
#print axioms proved
end Go.Proofs.Ytilkenfgjljknaa.fnExactLucky

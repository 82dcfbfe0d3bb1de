/- The law FnExactLuckyAt: the program's LuckyAt returns what the reference's LuckyAt returns, for all arguments, and leaves its arguments as they were; no condition. -/
import Derived.Test.YtilkenfgjljknaaCtr
import Derived.Test.YtilkenfgjljknaaRows
import Derived.WalkKit
import Derived.ProofKit
import Derived.OpenShut
namespace Go.Proofs.Ytilkenfgjljknaa.fnExactLuckyAt
open Go.ChangeShapes Go.WideShapes Go.ChangeAt Go.RowKit Go.D

theorem own : ownKnob Try.prog.godebug = none := by kernel_rfl
theorem kinds : KindsOk Try.prog tnT 8 := kindsOk_of (l := [(3, .int), (5, .byte), (9, .str), (87, .Credit), (90, .Credit), (98, .Note), (100, .Note), (113, .Op), (114, .Op)]) (by kernel_rfl)

set_option maxRecDepth 100000 in
theorem lifted (os : Os) (started : os.Started) (H : Type) (enc : TypeId × Value → H) :
    ReturnsInHanded {} Try.checked os 11 .any (Rows.fnExactLuckyAtSpec.pre6 enc Try.prog Try.f11 Rows.fnExactLuckyAtRow.domain false) (Rows.fnExactLuckyAtSpec.post enc Try.prog Try.f11 false true false false) := by
  refine returnsInHanded_of_change (C := Try.checked) own started (by kernel_rfl) Try.func11
    (ChangeSpec.witness6 (enc := enc) (C := Try.checked) false ⟨#[], #[.slice none 0 0], []⟩ 8 (by kernel_rfl) (by kernel_rfl) (by kernel_rfl) (by kernel_rfl)) ?_
  intro W base args ds gs before hval hW hcnd _
  refine law_row (W := W) (tn := tnT) kinds (ats := [.sl .Note]) c11 rfl (fun _ => rfl) Try.func11 (by kernel_rfl : Try.f11.body = some (Try.f11.body.getD .skip)) (by kernel_rfl) (by kernel_rfl) (by kernel_rfl) (by kernel_rfl)
    (by kernel_rfl) Try.underlying4 rfl hW ?_ hval
  intro hgs
  subst hgs
  obtain ⟨p, q, hA, _⟩ := hW
  have hA : DataW.TrodAll enc Try.prog W 0 (fun _ => true) true Try.f11.params.toList args.toList ds p := hA
  rw [show Try.f11.params.toList = [50] by kernel_rfl] at hA
  obtain ⟨v0, vs0, d0, ds0, p0, q0, h, rfl, rfl, h0, r0⟩ := trodAll_cons hA
  obtain ⟨rfl, rfl, rfl⟩ := trodAll_nil r0
  rfl

theorem over : Rows.fnExactLuckyAtRow.holds Try.pinned (OpenSpec.ofChange Rows.fnExactLuckyAtSpec) :=
  OpenClaim.holds_of_wide 11 Try.f11 rfl rfl rfl rfl rfl rfl rfl ⟨rfl, rfl, rfl, rfl, rfl⟩ rfl rfl rfl rfl rfl (by kernel_rfl) Try.func11 (by kernel_rfl)
    (of_decide_eq_true (by kernel_rfl)) (by unfold Func.isWrapper; first | (rw [if_pos (by decide +kernel)]; kernel_rfl) | (rw [if_neg (by decide +kernel)]; exact ⟨rfl, rfl⟩))
    (fun os started H enc _ => lifted os started H enc)

theorem proved : Rows.FnExactLuckyAtSaid := over
#print axioms proved
end Go.Proofs.Ytilkenfgjljknaa.fnExactLuckyAt

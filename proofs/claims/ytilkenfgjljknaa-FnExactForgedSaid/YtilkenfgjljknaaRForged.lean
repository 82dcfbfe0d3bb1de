/- The law FnExactForged: the program's Forged returns what the reference's Forged returns, for all arguments, and leaves its arguments as they were; no condition. -/
import Derived.Test.YtilkenfgjljknaaCtr
import Derived.Test.YtilkenfgjljknaaRows
import Derived.WalkKit
import Derived.ProofKit
import Derived.OpenShut
namespace Go.Proofs.Ytilkenfgjljknaa.fnExactForged
open Go.ChangeShapes Go.WideShapes Go.ChangeAt Go.RowKit Go.D

theorem own : ownKnob Try.prog.godebug = none := by kernel_rfl
theorem kinds : KindsOk Try.prog tnT 8 := kindsOk_of (l := [(3, .int), (5, .byte), (9, .str), (87, .Credit), (90, .Credit), (98, .Note), (100, .Note), (113, .Op), (114, .Op)]) (by kernel_rfl)

set_option maxRecDepth 100000 in
theorem lifted (os : Os) (started : os.Started) (H : Type) (enc : TypeId × Value → H) :
    ReturnsInHanded {} Try.checked os 10 .any (Rows.fnExactForgedSpec.pre6 enc Try.prog Try.f10 Rows.fnExactForgedRow.domain false) (Rows.fnExactForgedSpec.post enc Try.prog Try.f10 false true false false) := by
  refine returnsInHanded_of_change (C := Try.checked) own started (by kernel_rfl) Try.func10
    (ChangeSpec.witness6 (enc := enc) (C := Try.checked) false ⟨#[], #[.slice none 0 0], []⟩ 8 (by kernel_rfl) (by kernel_rfl) (by kernel_rfl) (by kernel_rfl)) ?_
  intro W base args ds gs before hval hW hcnd _
  refine law_row (W := W) (tn := tnT) kinds (ats := [.sl .Note]) c10 rfl (fun _ => rfl) Try.func10 (by kernel_rfl : Try.f10.body = some (Try.f10.body.getD .skip)) (by kernel_rfl) (by kernel_rfl) (by kernel_rfl) (by kernel_rfl)
    (by kernel_rfl) Try.underlying4 rfl hW ?_ hval
  intro hgs
  subst hgs
  obtain ⟨p, q, hA, _⟩ := hW
  have hA : DataW.TrodAll enc Try.prog W 0 (fun _ => true) true Try.f10.params.toList args.toList ds p := hA
  rw [show Try.f10.params.toList = [50] by kernel_rfl] at hA
  obtain ⟨v0, vs0, d0, ds0, p0, q0, h, rfl, rfl, h0, r0⟩ := trodAll_cons hA
  obtain ⟨rfl, rfl, rfl⟩ := trodAll_nil r0
  rfl

theorem over : Rows.fnExactForgedRow.holds Try.pinned (OpenSpec.ofChange Rows.fnExactForgedSpec) :=
  OpenClaim.holds_of_wide 10 Try.f10 rfl rfl rfl rfl rfl rfl rfl ⟨rfl, rfl, rfl, rfl, rfl⟩ rfl rfl rfl rfl rfl (by kernel_rfl) Try.func10 (by kernel_rfl)
    (of_decide_eq_true (by kernel_rfl)) (by unfold Func.isWrapper; first | (rw [if_pos (by decide +kernel)]; kernel_rfl) | (rw [if_neg (by decide +kernel)]; exact ⟨rfl, rfl⟩))
    (fun os started H enc _ => lifted os started H enc)

theorem proved : Rows.FnExactForgedSaid := over
#print axioms proved
end Go.Proofs.Ytilkenfgjljknaa.fnExactForged

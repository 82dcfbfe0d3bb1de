/- The law FnErased holds; no condition. -/
import Derived.Test.YtinolgjddfjojaaGreatCtr
import Derived.Test.YtinolgjddfjojaaGreatRows
import Derived.WalkKit
import Derived.ProofKit
import Derived.OpenShut
namespace Go.Proofs.YtinolgjddfjojaaGreat.fnErased
open Go.ChangeShapes Go.WideShapes Go.ChangeAt Go.RowKit Go.D
theorem own:ownKnob Tryz.prog.godebug=none:=by kernel_rfl
theorem kinds:KindsOk Tryz.prog tnT 8:=kindsOk_of (l:=[(3, .int),(5, .byte),(22, .bs),(45, .Frame),(56, .Client),(63, .Sess),(73, .Note),(102, .Event),(127, .Op),(129, .Wire),(191, .Out),(242, .Credit),(275, .Cand)]) (by kernel_rfl)
set_option maxRecDepth 100000 in
theorem lifted (os:Os) (started:os.Started) (H:Type) (enc:TypeId × Value→H):
    ReturnsInHanded {} Tryz.checked os 3 .any (Rows.fnErasedSpec.pre6 enc Tryz.prog Tryz.f3 Rows.fnErasedRow.domain false) (Rows.fnErasedSpec.post enc Tryz.prog Tryz.f3 false true false false):=by
  refine returnsInHanded_of_change (C:=Tryz.checked) own started (by kernel_rfl) Tryz.func3
    (ChangeSpec.witness6 (enc:=enc) (C:=Tryz.checked) false ⟨#[], #[.slice none 0 0],[]⟩ 8 (by kernel_rfl) (by kernel_rfl) (by kernel_rfl) (by kernel_rfl)) ?_
  intro W base args ds gs before hval hW hcnd _
  refine law_row (W:=W) (tn:=tnT) kinds (ats:=[.sl .byte]) c3 rfl (fun _=>rfl) Tryz.func3 (by kernel_rfl:Tryz.f3.body=some (Tryz.f3.body.getD .skip)) (by kernel_rfl) (by kernel_rfl) (by kernel_rfl) (by kernel_rfl)
    (by kernel_rfl) Tryz.underlying4 rfl hW ?_ hval
  intro hgs
  subst hgs
  obtain ⟨p,q,hA,_⟩:=hW
  have hA:DataW.TrodAll enc Tryz.prog W 0 (fun _=>true) true Tryz.f3.params.toList args.toList ds p:=hA
  rw [show Tryz.f3.params.toList=[22] by kernel_rfl] at hA
  obtain ⟨v0,vs0,d0,ds0,p0,q0,h,rfl,rfl,h0,r0⟩:=trodAll_cons hA
  obtain ⟨rfl,rfl,rfl⟩:=trodAll_nil r0
  rfl
theorem named:Tryz.checked.prog.funcNamed Rows.fnErasedRow.func=some 3:=by kernel_rfl
theorem facts:joinedFacts Tryz.checked.prog 3 Tryz.f3 Rows.fnErasedSpec Rows.fnErasedRow=true:=by kernel_rfl
theorem inst:Tryz.f3.isInstance Tryz.checked.prog Rows.fnErasedRow.origin Rows.fnErasedRow.targs:=of_decide_eq_true (by kernel_rfl)
theorem wrap:Tryz.f3.isWrapper Tryz.checked.prog Rows.fnErasedRow.wrapper Rows.fnErasedRow.mainSum:=by unfold Func.isWrapper;first | (rw [if_pos (by decide+kernel)];kernel_rfl) | (rw [if_neg (by decide+kernel)];exact ⟨rfl,rfl⟩)
theorem over:Rows.fnErasedRow.holds Tryz.pinned (OpenSpec.ofChange Rows.fnErasedSpec):=
  OpenClaim.holds_of_wide 3 Tryz.f3 rfl rfl rfl rfl rfl rfl rfl ⟨rfl,rfl,rfl,rfl,rfl⟩ rfl rfl rfl rfl rfl named Tryz.func3 facts inst wrap
    (fun os started H enc _=>lifted os started H enc)
theorem proved:Rows.FnErasedSaid:=over
#print axioms proved
end Go.Proofs.YtinolgjddfjojaaGreat.fnErased

/- The law FnIdeals holds; no condition. -/
import Derived.Test.YtdmiplkjdpcbeaaGreatCtr
import Derived.Test.YtdmiplkjdpcbeaaGreatRows
import Derived.WalkKit
import Derived.ProofKit
import Derived.OpenShut
namespace Go.Proofs.YtdmiplkjdpcbeaaGreat.fnIdeals
open Go.ChangeShapes Go.WideShapes Go.ChangeAt Go.RowKit Go.D
theorem own:ownKnob Tryz.prog.godebug=none:=by kernel_rfl
theorem kinds:WH Tryz.prog tnT 8:=zqN (l:=[(3, .int),(5, .byte),(22, .bs),(52, .Frame),(63, .Client),(87, .Sess),(94, .Cand),(100, .Credit),(107, .Note),(131, .Wire),(154, .Event),(198, .Op),(273, .Out)]) (by kernel_rfl)
set_option maxRecDepth 100000 in
theorem lifted (os:Os) (started:os.Started) (H:Type) (enc:TypeId × Value→H):
    ReturnsInHanded {} Tryz.checked os 4 .any (Rows.fnIdealsSpec.pre6 enc Tryz.prog Tryz.f4 Rows.fnIdealsRow.domain false) (Rows.fnIdealsSpec.post enc Tryz.prog Tryz.f4 false true false false):=by
  refine returnsInHanded_of_change (C:=Tryz.checked) own started (by kernel_rfl) Tryz.func4
    (ChangeSpec.witness6 (enc:=enc) (C:=Tryz.checked) false ⟨#[], #[.slice none 0 0],[]⟩ 8 (by kernel_rfl) (by kernel_rfl) (by kernel_rfl) (by kernel_rfl)) ?_
  intro W base args ds gs before hval hW hcnd _
  refine zqQ (W:=W) (tn:=tnT) kinds (ats:=[.sl .byte]) (fun m=>@c4 {tn:=fun t=>SB t TL,base:=m,is:=fun _ _ h=>h}) rfl (fun _=>rfl) Tryz.func4 (by kernel_rfl:Tryz.f4.body=some (Tryz.f4.body.getD .skip)) (by kernel_rfl) (by kernel_rfl) (by kernel_rfl) (by kernel_rfl)
    (by kernel_rfl) Tryz.underlying4 rfl hW ?_ hval
  intro hgs
  subst hgs
  obtain ⟨p,q,hA,_⟩:=hW
  have hA:DataW.TrodAll enc Tryz.prog W 0 (fun _=>true) true Tryz.f4.params.toList args.toList ds p:=hA
  rw [show Tryz.f4.params.toList=[22] by kernel_rfl] at hA
  obtain ⟨v0,vs0,d0,ds0,p0,q0,h,rfl,rfl,h0,r0⟩:=trodAll_cons hA
  obtain ⟨rfl,rfl,rfl⟩:=trodAll_nil r0
  rfl
theorem named:Tryz.checked.prog.funcNamed Rows.fnIdealsRow.func=some 4:=by kernel_rfl
theorem facts:joinedFacts Tryz.checked.prog 4 Tryz.f4 Rows.fnIdealsSpec Rows.fnIdealsRow=true:=by kernel_rfl
theorem inst:Tryz.f4.isInstance Tryz.checked.prog Rows.fnIdealsRow.origin Rows.fnIdealsRow.targs:=of_decide_eq_true (by kernel_rfl)
theorem wrap:Tryz.f4.isWrapper Tryz.checked.prog Rows.fnIdealsRow.wrapper Rows.fnIdealsRow.mainSum:=by unfold Func.isWrapper;first | (rw [if_pos (by decide+kernel)];kernel_rfl) | (rw [if_neg (by decide+kernel)];exact ⟨rfl,rfl⟩)
theorem over:Rows.fnIdealsRow.holds Tryz.pinned (OpenSpec.ofChange Rows.fnIdealsSpec):=
  OpenClaim.holds_of_wide 4 Tryz.f4 rfl rfl rfl rfl rfl rfl rfl ⟨rfl,rfl,rfl,rfl,rfl⟩ rfl rfl rfl rfl rfl named Tryz.func4 facts inst wrap
    (fun os started H enc _=>lifted os started H enc)
theorem proved:Rows.FnIdealsSaid:=over
#print axioms proved
end Go.Proofs.YtdmiplkjdpcbeaaGreat.fnIdeals

/- The law FnExactWorldNew: the program's WorldNew returns what the reference's WorldNew returns, for all arguments, and leaves its arguments as they were; no condition. -/
import Derived.Test.YtkpkommmdacjlaaGreatCtr
import Derived.Test.YtkpkommmdacjlaaGreatRows
import Derived.WalkKit
import Derived.ProofKit
import Derived.OpenShut
namespace Go.Proofs.YtkpkommmdacjlaaGreat.fnExactWorldNew
open Go.ChangeShapes Go.WideShapes Go.ChangeAt Go.RowKit Go.D
theorem own:ownKnob Tryz.prog.godebug=none:=by kernel_rfl
theorem kinds:RH Tryz.prog tnT 8:=zeX (l:=[(3, .int),(5, .byte),(24, .bs),(79, .Wire),(84, .Wire),(104, .Frame),(115, .Client),(119, .Note),(141, .Client),(147, .Note),(185, .Sess),(211, .Credit),(214, .Credit),(247, .Sess),(283, .Cand),(309, .Cand)]) (by kernel_rfl)
set_option maxRecDepth 100000 in
theorem lifted (os:Os) (started:os.Started) (H:Type) (enc:TypeId × Value→H):
    ReturnsInHanded {} Tryz.checked os 4 .any (Rows.fnExactWorldNewSpec.pre6 enc Tryz.prog Tryz.f4 Rows.fnExactWorldNewRow.domain false) (Rows.fnExactWorldNewSpec.post enc Tryz.prog Tryz.f4 false true false false):=by
  refine returnsInHanded_of_change (C:=Tryz.checked) own started (by kernel_rfl) Tryz.func4
    (ChangeSpec.witness6 (enc:=enc) (C:=Tryz.checked) false ⟨#[], #[.slice none 0 0, .slice none 0 0, .slice none 0 0, .int .i64 0],[]⟩ 8 (by kernel_rfl) (by kernel_rfl) (by kernel_rfl) (by kernel_rfl)) ?_
  intro W base args ds gs before hval hW hcnd _
  refine zhZ (W:=W) (tn:=tnT) kinds (ats:=[.sl .byte, .sl .byte, .sl .byte, .v .int]) (fun m=>@c4 {tn:=fun t=>KA t TL,base:=m,is:=fun _ _ h=>h}) rfl (fun _=>rfl) Tryz.func4 (by kernel_rfl:Tryz.f4.body=some (Tryz.f4.body.getD .skip)) (by kernel_rfl) (by kernel_rfl) (by kernel_rfl) (by kernel_rfl)
    (by kernel_rfl) Tryz.underlying4 rfl hW ?_ hval
  intro hgs
  subst hgs
  obtain ⟨p,q,hA,_⟩:=hW
  have hA:DataW.TrodAll enc Tryz.prog W 0 (fun _=>true) true Tryz.f4.params.toList args.toList ds p:=hA
  rw [show Tryz.f4.params.toList=[24,24,24,3] by kernel_rfl] at hA
  obtain ⟨v0,vs0,d0,ds0,p0,q0,h,rfl,rfl,h0,r0⟩:=trodAll_cons hA
  obtain ⟨v1,vs1,d1,ds1,p1,q1,rfl,rfl,rfl,h1,r1⟩:=trodAll_cons r0
  obtain ⟨v2,vs2,d2,ds2,p2,q2,rfl,rfl,rfl,h2,r2⟩:=trodAll_cons r1
  obtain ⟨v3,vs3,d3,ds3,p3,q3,rfl,rfl,rfl,h3,r3⟩:=trodAll_cons r2
  obtain ⟨rfl,rfl,rfl⟩:=trodAll_nil r3
  rfl
theorem named:Tryz.checked.prog.funcNamed Rows.fnExactWorldNewRow.func=some 4:=by kernel_rfl
theorem facts:joinedFacts Tryz.checked.prog 4 Tryz.f4 Rows.fnExactWorldNewSpec Rows.fnExactWorldNewRow=true:=by kernel_rfl
theorem inst:Tryz.f4.isInstance Tryz.checked.prog Rows.fnExactWorldNewRow.origin Rows.fnExactWorldNewRow.targs:=of_decide_eq_true (by kernel_rfl)
theorem wrap:Tryz.f4.isWrapper Tryz.checked.prog Rows.fnExactWorldNewRow.wrapper Rows.fnExactWorldNewRow.mainSum:=by unfold Func.isWrapper;first | (rw [if_pos (by decide+kernel)];kernel_rfl) | (rw [if_neg (by decide+kernel)];exact ⟨rfl,rfl⟩)
theorem over:Rows.fnExactWorldNewRow.holds Tryz.pinned (OpenSpec.ofChange Rows.fnExactWorldNewSpec):=
  OpenClaim.holds_of_wide 4 Tryz.f4 rfl rfl rfl rfl rfl rfl rfl ⟨rfl,rfl,rfl,rfl,rfl⟩ rfl rfl rfl rfl rfl named Tryz.func4 facts inst wrap
    (fun os started H enc _=>lifted os started H enc)
theorem proved:Rows.FnExactWorldNewSaid:=over
#print axioms proved
end Go.Proofs.YtkpkommmdacjlaaGreat.fnExactWorldNew

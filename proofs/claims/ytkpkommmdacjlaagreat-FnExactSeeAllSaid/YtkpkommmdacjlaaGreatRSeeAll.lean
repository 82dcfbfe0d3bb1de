/- The law FnExactSeeAll: the program's SeeAll returns what the reference's SeeAll returns, for all arguments, and leaves its arguments as they were; no condition. -/
import Derived.Test.YtkpkommmdacjlaaGreatCtr
import Derived.Test.YtkpkommmdacjlaaGreatRows
import Derived.WalkKit
import Derived.ProofKit
import Derived.OpenShut
namespace Go.Proofs.YtkpkommmdacjlaaGreat.fnExactSeeAll
open Go.ChangeShapes Go.WideShapes Go.ChangeAt Go.RowKit Go.D
theorem own:ownKnob Tryz.prog.godebug=none:=by kernel_rfl
theorem kinds:qG Tryz.prog aU 8:=zaY (l:=[(3, .int),(5, .byte),(24, .bs),(79, .Wire),(84, .Wire),(104, .Frame),(115, .Client),(119, .Note),(141, .Client),(147, .Note),(185, .Sess),(211, .Credit),(214, .Credit),(247, .Sess),(283, .Cand),(309, .Cand)]) (by kernel_rfl)
set_option maxRecDepth 100000 in
theorem lifted (os:Os) (started:os.Started) (H:Type) (enc:TypeId × Value→H):
    ReturnsInHanded {} Tryz.checked os 3 .any (Rows.fnExactSeeAllSpec.pre6 enc Tryz.prog Tryz.f3 Rows.fnExactSeeAllRow.domain false) (Rows.fnExactSeeAllSpec.post enc Tryz.prog Tryz.f3 false true false false):=by
  refine returnsInHanded_of_change (C:=Tryz.checked) own started (by kernel_rfl) Tryz.func3
    (ChangeSpec.witness6 (enc:=enc) (C:=Tryz.checked) false ⟨#[], #[.agg #[.int .i64 0, .slice none 0 0, .slice none 0 0, .slice none 0 0, .slice none 0 0, .int .i64 0, .int .i64 0, .slice none 0 0, .slice none 0 0, .slice none 0 0, .int .i64 0, .slice none 0 0, .slice none 0 0, .slice none 0 0], .slice none 0 0],[]⟩ 8 (by kernel_rfl) (by kernel_rfl) (by kernel_rfl) (by kernel_rfl)) ?_
  intro W base args ds gs before hval hW hcnd _
  refine zdv (W:=W) (tn:=aU) kinds (ats:=[.v .World, .sl .Wire]) (fun m=>@c3 {tn:=fun t=>JA t TL,base:=m,is:=fun _ _ h=>h}) rfl (fun _=>rfl) Tryz.func3 (by kernel_rfl:Tryz.f3.body=some (Tryz.f3.body.getD .skip)) (by kernel_rfl) (by kernel_rfl) (by kernel_rfl) (by kernel_rfl)
    (by kernel_rfl) Tryz.underlying4 rfl hW ?_ hval
  intro hgs
  subst hgs
  obtain ⟨p,q,hA,_⟩:=hW
  have hA:DataW.TrodAll enc Tryz.prog W 0 (fun _=>true) true Tryz.f3.params.toList args.toList ds p:=hA
  rw [show Tryz.f3.params.toList=[38,35] by kernel_rfl] at hA
  obtain ⟨v0,vs0,d0,ds0,p0,q0,h,rfl,rfl,h0,r0⟩:=trodAll_cons hA
  obtain ⟨v1,vs1,d1,ds1,p1,q1,rfl,rfl,rfl,h1,r1⟩:=trodAll_cons r0
  obtain ⟨rfl,rfl,rfl⟩:=trodAll_nil r1
  rfl
theorem named:Tryz.checked.prog.funcNamed Rows.fnExactSeeAllRow.func=some 3:=by kernel_rfl
theorem facts:joinedFacts Tryz.checked.prog 3 Tryz.f3 Rows.fnExactSeeAllSpec Rows.fnExactSeeAllRow=true:=by kernel_rfl
theorem inst:Tryz.f3.isInstance Tryz.checked.prog Rows.fnExactSeeAllRow.origin Rows.fnExactSeeAllRow.targs:=of_decide_eq_true (by kernel_rfl)
theorem wrap:Tryz.f3.isWrapper Tryz.checked.prog Rows.fnExactSeeAllRow.wrapper Rows.fnExactSeeAllRow.mainSum:=by unfold Func.isWrapper;first | (rw [if_pos (by decide+kernel)];kernel_rfl) | (rw [if_neg (by decide+kernel)];exact ⟨rfl,rfl⟩)
theorem over:Rows.fnExactSeeAllRow.holds Tryz.pinned (OpenSpec.ofChange Rows.fnExactSeeAllSpec):=
  OpenClaim.holds_of_wide 3 Tryz.f3 rfl rfl rfl rfl rfl rfl rfl ⟨rfl,rfl,rfl,rfl,rfl⟩ rfl rfl rfl rfl rfl named Tryz.func3 facts inst wrap
    (fun os started H enc _=>lifted os started H enc)
theorem proved:Rows.FnExactSeeAllSaid:=over
#print axioms proved
end Go.Proofs.YtkpkommmdacjlaaGreat.fnExactSeeAll

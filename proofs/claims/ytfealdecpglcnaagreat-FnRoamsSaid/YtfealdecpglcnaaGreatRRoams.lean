/- The law FnRoams holds; no condition. -/
import Derived.Test.YtfealdecpglcnaaGreatCtr
import Derived.Test.YtfealdecpglcnaaGreatRows
import Derived.WalkKit
import Derived.ProofKit
import Derived.OpenShut
namespace Go.Proofs.YtfealdecpglcnaaGreat.fnRoams
open Go.ChangeShapes Go.WideShapes Go.ChangeAt Go.RowKit Go.D
theorem own:ownKnob Tryz.prog.godebug=none:=by kernel_rfl
theorem kinds:QM Tryz.prog tnT 8:=zrP (l:=[(3, .int),(5, .byte),(22, .bs),(48, .Frame),(59, .Client),(66, .Wire),(71, .Note),(77, .Sess),(102, .Cand),(137, .Event),(146, .Credit),(197, .Op),(230, .Out)]) (by kernel_rfl)
set_option maxRecDepth 100000 in
theorem lifted (os:Os) (started:os.Started) (H:Type) (enc:TypeId × Value→H):
    ReturnsInHanded {} Tryz.checked os 3 .any (Rows.fnRoamsSpec.pre6 enc Tryz.prog Tryz.f3 Rows.fnRoamsRow.domain false) (Rows.fnRoamsSpec.post enc Tryz.prog Tryz.f3 false true false false):=by
  refine returnsInHanded_of_change (C:=Tryz.checked) own started (by kernel_rfl) Tryz.func3
    (ChangeSpec.witness6 (enc:=enc) (C:=Tryz.checked) false ⟨#[], #[.slice none 0 0],[]⟩ 8 (by kernel_rfl) (by kernel_rfl) (by kernel_rfl) (by kernel_rfl)) ?_
  intro W base args ds gs before hval hW hcnd _
  refine zvI (W:=W) (tn:=tnT) kinds (ats:=[.sl .byte]) (fun m=>@c3 {tn:=fun t=>MC t TL,base:=m,is:=fun _ _ h=>h}) rfl (fun _=>rfl) Tryz.func3 (by kernel_rfl:Tryz.f3.body=some (Tryz.f3.body.getD .skip)) (by kernel_rfl) (by kernel_rfl) (by kernel_rfl) (by kernel_rfl)
    (by kernel_rfl) Tryz.underlying4 rfl hW ?_ hval
  intro hgs
  subst hgs
  obtain ⟨p,q,hA,_⟩:=hW
  have hA:DataW.TrodAll enc Tryz.prog W 0 (fun _=>true) true Tryz.f3.params.toList args.toList ds p:=hA
  rw [show Tryz.f3.params.toList=[22] by kernel_rfl] at hA
  obtain ⟨v0,vs0,d0,ds0,p0,q0,h,rfl,rfl,h0,r0⟩:=trodAll_cons hA
  obtain ⟨rfl,rfl,rfl⟩:=trodAll_nil r0
  rfl
theorem named:Tryz.checked.prog.funcNamed Rows.fnRoamsRow.func=some 3:=by kernel_rfl
theorem an {a b:Bool} (h:a=true) (k:b=true):(a&&b)=true:=by rw [h,k];rfl
theorem cl {P:Program} {C:Nat→Prop} (c:∀ f,C f→∀ h∈(P.funcs[f]?).elim [] P.leadsTo,C h):∀ n t s,(∀ x∈t,C x)→(∀ x∈s,C x)→∀ x∈P.closureVia n t s,C x
  | 0,_,_,_,b=>by simpa [Program.closureVia] using b
  | _+1,[],_,_,b=>by simpa [Program.closureVia] using b
  | n+1,f::t,s,a,b=>by
    unfold Program.closureVia
    split
    · exact cl c n t s (fun x h=>a x (.tail _ h)) b
    · exact cl c n _ _ (fun x h=>(List.mem_append.1 h).elim (c f (a f (.head _)) x) fun h=>a x (.tail _ h)) (fun x h=>by cases h with |head=>exact a f (.head _) |tail _ h=>exact b x h)
theorem uf {P:Program} {f} (h:P.funcs.toList.all (fun n=>!n.body.elim (entryCalls n) Code.unfollowed)=true):P.unfollowed f=false:=by
  unfold Program.unfollowed
  rw [List.any_eq_false]
  intro g _
  cases e:P.funcs[g]? with
  | none=>simp
  | some v=>have a:=List.all_eq_true.1 h v (Array.mem_toList_iff.2 (Array.mem_of_getElem? e));cases b:v.body<;>simp_all
theorem rc {P:Program} {f} (K:Nat) (u:P.unfollowed f=false) (h:(List.range P.funcs.size).all (fun g=>((P.funcs[g]?).elim [] P.leadsTo).all fun h=>Nat.blt (K/32^h%32) (K/32^g%32))=true):P.recurses f=false:=by
  have l:∀ g,∀ h∈(P.funcs[g]?).elim [] P.leadsTo,K/32^h%32<K/32^g%32:=fun g x m=>by
    by_cases b:g<P.funcs.size
    · exact of_decide_eq_true (by simpa [Nat.blt_eq] using List.all_eq_true.1 (List.all_eq_true.1 h g (List.mem_range.2 b)) x m)
    · rw [Array.getElem?_eq_none (Nat.le_of_not_lt b)] at m;cases m
  unfold Program.recurses
  rw [u,Bool.false_or,List.any_eq_false]
  intro g _ w
  obtain ⟨x,m,y⟩:=List.any_eq_true.1 w
  exact Nat.lt_irrefl _ (Nat.lt_of_le_of_lt (cl (C:=fun y=>K/32^y%32≤K/32^x%32) (fun f a h m=>Nat.le_trans (Nat.le_of_lt (l f h m)) a) _ [x] [] (fun z m=>by cases m with |head=>exact Nat.le_refl _ |tail _ m=>cases m) (fun _ m=>by cases m) g (List.contains_iff_mem.1 y)) (l g x m))
theorem uu:Tryz.checked.prog.unfollowed 3=false:=uf (by kernel_rfl)
theorem rr:Tryz.checked.prog.recurses 3=false:=rc 0x21802120803584A5004011A4480000323080624063A4C1100221A907411246182110C0100080484C4318256816A5840380DE95018108921428013986450467098445A4402B5A140148180E41802200041084621154A21185330472202233982684714402B0A1AD5846A51069580401102841CC50050C58C0900CC202502784C03918120063611C010C20084A0180051106319062594CD48DA5491B203DC11108094563080810B02418026008A72A530694AD618053A8645052108E082B5E3110613102030C21014852846E74C001408598825185A20804010020400A60804109C00102215AC8A2C40E0404739041308C2A0E83088C4038631844148807185030082B00640B9E5189ED5AA801112A87A92C0CC18B0400 uu (by kernel_rfl)
set_option maxHeartbeats 0 in
theorem facts:joinedFacts Tryz.checked.prog 3 Tryz.f3 Rows.fnRoamsSpec Rows.fnRoamsRow=true:=by
  unfold joinedFacts
  iterate 19 refine an ?_ (by kernel_rfl)
  rw [uu,rr]
  refine an (an (an (an ?_ ?_) rfl) rfl) ?_
  all_goals as_aux_lemma=>kernel_rfl
theorem inst:Tryz.f3.isInstance Tryz.checked.prog Rows.fnRoamsRow.origin Rows.fnRoamsRow.targs:=of_decide_eq_true (by kernel_rfl)
theorem wrap:Tryz.f3.isWrapper Tryz.checked.prog Rows.fnRoamsRow.wrapper Rows.fnRoamsRow.mainSum:=by unfold Func.isWrapper;first | (rw [if_pos (by decide+kernel)];kernel_rfl) | (rw [if_neg (by decide+kernel)];exact ⟨rfl,rfl⟩)
theorem over:Rows.fnRoamsRow.holds Tryz.pinned (OpenSpec.ofChange Rows.fnRoamsSpec):=
  OpenClaim.holds_of_wide 3 Tryz.f3 rfl rfl rfl rfl rfl rfl rfl ⟨rfl,rfl,rfl,rfl,rfl⟩ rfl rfl rfl rfl rfl named Tryz.func3 facts inst wrap
    (fun os started H enc _=>lifted os started H enc)
theorem proved:Rows.FnRoamsSaid:=over
#print axioms proved
end Go.Proofs.YtfealdecpglcnaaGreat.fnRoams

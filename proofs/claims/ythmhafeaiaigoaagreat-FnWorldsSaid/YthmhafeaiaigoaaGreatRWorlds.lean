/- The law FnWorlds holds; no condition. -/
import Derived.Test.YthmhafeaiaigoaaGreatCtr
import Derived.Test.YthmhafeaiaigoaaGreatRows
import Derived.WalkKit
import Derived.ProofKit
import Derived.OpenShut
namespace Go.Proofs.YthmhafeaiaigoaaGreat.fnWorlds
open Go.ChangeShapes Go.WideShapes Go.ChangeAt Go.RowKit Go.D
theorem own:ownKnob Tryz.prog.godebug=none:=by kernel_rfl
theorem kinds:LM Tryz.prog tnT 8:=zsF (l:=[(3, .int),(5, .byte),(22, .bs),(51, .Wire),(57, .Frame),(68, .Client),(77, .Event),(113, .Note),(147, .Out),(167, .Sess),(224, .Credit),(272, .Op),(329, .Cand)]) (by kernel_rfl)
set_option maxRecDepth 100000 in
theorem lifted (os:Os) (started:os.Started) (H:Type) (enc:TypeId × Value→H):
    ReturnsInHanded {} Tryz.checked os 3 .any (Rows.fnWorldsSpec.pre6 enc Tryz.prog Tryz.f3 Rows.fnWorldsRow.domain false) (Rows.fnWorldsSpec.post enc Tryz.prog Tryz.f3 false true false false):=by
  refine returnsInHanded_of_change (C:=Tryz.checked) own started (by kernel_rfl) Tryz.func3
    (ChangeSpec.witness6 (enc:=enc) (C:=Tryz.checked) false ⟨#[], #[.slice none 0 0],[]⟩ 8 (by kernel_rfl) (by kernel_rfl) (by kernel_rfl) (by kernel_rfl)) ?_
  intro W base args ds gs before hval hW hcnd _
  refine zvY (W:=W) (tn:=tnT) kinds (ats:=[.sl .byte]) (fun m=>@c3 {tn:=fun t=>RC t TL,base:=m,is:=fun _ _ h=>h}) rfl (fun _=>rfl) Tryz.func3 (by kernel_rfl:Tryz.f3.body=some (Tryz.f3.body.getD .skip)) (by kernel_rfl) (by kernel_rfl) (by kernel_rfl) (by kernel_rfl)
    (by kernel_rfl) Tryz.underlying4 rfl hW ?_ hval
  intro hgs
  subst hgs
  obtain ⟨p,q,hA,_⟩:=hW
  have hA:DataW.TrodAll enc Tryz.prog W 0 (fun _=>true) true Tryz.f3.params.toList args.toList ds p:=hA
  rw [show Tryz.f3.params.toList=[22] by kernel_rfl] at hA
  obtain ⟨v0,vs0,d0,ds0,p0,q0,h,rfl,rfl,h0,r0⟩:=trodAll_cons hA
  obtain ⟨rfl,rfl,rfl⟩:=trodAll_nil r0
  rfl
theorem named:Tryz.checked.prog.funcNamed Rows.fnWorldsRow.func=some 3:=by kernel_rfl
theorem an {a b:Bool} (h:a=true) (k:b=true):(a&&b)=true:=by rw [h,k];rfl
theorem cl {P:Program} {C:Nat→Prop} (c:∀ f,C f→∀ h∈(P.funcs[f]?).elim [] P.leadsTo,C h):∀ n t s,(∀ x∈t,C x)→(∀ x∈s,C x)→∀ x∈P.closureVia n t s,C x
  | 0,_,_,_,b=>by simpa [Program.closureVia] using b
  | _+1,[],_,_,b=>by simpa [Program.closureVia] using b
  | n+1,f::t,s,a,b=>by
    unfold Program.closureVia
    split
    · exact cl c n t s (fun x h=>a x (.tail _ h)) b
    · exact cl c n _ _ (fun x h=>(List.mem_append.1 h).elim (c f (a f (.head _)) x) fun h=>a x (.tail _ h)) (fun x h=>by cases h with |head=>exact a f (.head _) |tail _ h=>exact b x h)
theorem uf {P:Program} {f} (h:P.funcs.toList.all (fun n=>!n.body.elim (entryCalls n) Code.unfollowed)=true):P.unfollowed f=false:=by
  unfold Program.unfollowed
  rw [List.any_eq_false]
  intro g _
  cases e:P.funcs[g]? with
  | none=>simp
  | some v=>have a:=List.all_eq_true.1 h v (Array.mem_toList_iff.2 (Array.mem_of_getElem? e));cases b:v.body<;>simp_all
theorem rc {P:Program} {f} (K:Nat) (u:P.unfollowed f=false) (h:(List.range P.funcs.size).all (fun g=>((P.funcs[g]?).elim [] P.leadsTo).all fun h=>Nat.blt (K/32^h%32) (K/32^g%32))=true):P.recurses f=false:=by
  have l:∀ g,∀ h∈(P.funcs[g]?).elim [] P.leadsTo,K/32^h%32<K/32^g%32:=fun g x m=>by
    by_cases b:g<P.funcs.size
    · exact of_decide_eq_true (by simpa [Nat.blt_eq] using List.all_eq_true.1 (List.all_eq_true.1 h g (List.mem_range.2 b)) x m)
    · rw [Array.getElem?_eq_none (Nat.le_of_not_lt b)] at m;cases m
  unfold Program.recurses
  rw [u,Bool.false_or,List.any_eq_false]
  intro g _ w
  obtain ⟨x,m,y⟩:=List.any_eq_true.1 w
  exact Nat.lt_irrefl _ (Nat.lt_of_le_of_lt (cl (C:=fun y=>K/32^y%32≤K/32^x%32) (fun f a h m=>Nat.le_trans (Nat.le_of_lt (l f h m)) a) _ [x] [] (fun z m=>by cases m with |head=>exact Nat.le_refl _ |tail _ m=>cases m) (fun _ m=>by cases m) g (List.contains_iff_mem.1 y)) (l g x m))
theorem uu:Tryz.checked.prog.unfollowed 3=false:=uf (by kernel_rfl)
theorem rr:Tryz.checked.prog.recurses 3=false:=rc 0x21800109048180691242528020091246042200D6300C001914641D0A018E608801015AD52067218000002C61002601200900909883318250808B0A12212C0839864238E41814208C030042110802185A16816A5840380DE95018108921188455288C2998249C644052C10C470ADEC0816920061420E6280017B108691845940130C002A864508800880120083004C0409E623866730416800008E2880561435AB185440044020CA2594CD48DA5491A4325906A1107A02A114E54A60D095C503586014E4080065AC61014021840108822280053040208447004290842383DC310444210120C563104230144018CA61B9C711E358859109E41200C1100830980201C6142A25810B301843084821501300656ACAE0A88E1108674CA95A02F8B0400 uu (by kernel_rfl)
set_option maxHeartbeats 0 in
theorem facts:joinedFacts Tryz.checked.prog 3 Tryz.f3 Rows.fnWorldsSpec Rows.fnWorldsRow=true:=by
  unfold joinedFacts
  iterate 19 refine an ?_ (by kernel_rfl)
  rw [uu,rr]
  refine an (an (an (an ?_ ?_) rfl) rfl) ?_
  all_goals as_aux_lemma=>kernel_rfl
theorem inst:Tryz.f3.isInstance Tryz.checked.prog Rows.fnWorldsRow.origin Rows.fnWorldsRow.targs:=of_decide_eq_true (by kernel_rfl)
theorem wrap:Tryz.f3.isWrapper Tryz.checked.prog Rows.fnWorldsRow.wrapper Rows.fnWorldsRow.mainSum:=by unfold Func.isWrapper;first | (rw [if_pos (by decide+kernel)];kernel_rfl) | (rw [if_neg (by decide+kernel)];exact ⟨rfl,rfl⟩)
theorem over:Rows.fnWorldsRow.holds Tryz.pinned (OpenSpec.ofChange Rows.fnWorldsSpec):=
  OpenClaim.holds_of_wide 3 Tryz.f3 rfl rfl rfl rfl rfl rfl rfl ⟨rfl,rfl,rfl,rfl,rfl⟩ rfl rfl rfl rfl rfl named Tryz.func3 facts inst wrap
    (fun os started H enc _=>lifted os started H enc)
theorem proved:Rows.FnWorldsSaid:=over
#print axioms proved
end Go.Proofs.YthmhafeaiaigoaaGreat.fnWorlds

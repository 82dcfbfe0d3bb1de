/-
  Sizes of the program's data.
-/
import Derived.Test.YtinolgjddfjojaaGreatN4
namespace Go.D
end Go.D
namespace Go.D
def cand0:G.Cand:=⟨⟨0,0⟩,[],0⟩
noncomputable def candCopyO (c:G.Cand):Option G.Cand:=pt (wt c≤LIM) c
def candOf (p:G.Paths) (a:G.Addr):G.Cand × Bool:=bif pathsOk p then (match p.Cands.find? fun e=>sameA e.A a with
  | some e=>(e,true)
  | none=>(cand0,false)) else (cand0,false)
noncomputable def candOfO (p:G.Paths) (a:G.Addr):Option (G.Cand × Bool):=pt (wt p≤LIM) (candOf p a)
end Go.D
namespace Go.D
noncomputable section
def spec_l16Cand.raw (a0:G.Cand):Option G.Cand:=
  cond (decide (([]:List UInt8).length+a0.Draw.length≤LIM)) (some (⟨a0.A,[]++a0.Draw,a0.Until⟩:G.Cand)) none
def spec_CandOf.raw (a0:G.Paths) (a1:G.Addr):Option (G.Cand × Bool):=
  cond (!(pathsOk a0))
  (some ((⟨(⟨0,0⟩:G.Addr),[],0⟩:G.Cand),false))
  (joinK (fun (y1:G.Cand)=>
  some ((⟨(⟨0,0⟩:G.Addr),[],0⟩:G.Cand),false)) fun k2=>
  loopK FU (fun (x3:Int × G.Cand) k4=>
  cond (decide (x3.1<(a0.Cands.length:Int)))
  (Option.bind (idxI a0.Cands x3.1) fun e5=>
  let x6:Bool:=cond (e5.A.Host==a1.Host) (cond (e5.A.Port==a1.Port) (true) false) false
  cond (x6)
  (Option.bind (idxI a0.Cands x3.1) fun e7=>
  Option.bind (candCopyO e7) fun r8=>
  some (r8,true))
  (k4 ((iadd .i64 x3.1 1),x3.2)))
  (k2 x3.2)) (0,(⟨(⟨0,0⟩:G.Addr),[],0⟩:G.Cand)))
def spec_l17At.raw (a0:List G.Credit) (a1:G.Addr):Option Int:=
  joinK (fun (y1:Unit)=>
  some (-1)) fun k2=>
  loopK FU (fun (x3:Int) k4=>
  cond (decide (x3<(a0.length:Int)))
  (Option.bind (idxI a0 x3) fun e5=>
  let x6:Bool:=cond (e5.A.Host==a1.Host) (cond (e5.A.Port==a1.Port) (true) false) false
  cond (x6)
  (some x3)
  (k4 (iadd .i64 x3 1)))
  (k2 ())) 0
end
end Go.D
namespace Go.D
end Go.D
namespace Go.D
theorem spec_l17At.ok {x:TyTup [.sl .Credit, .v .Addr]} (hb:bdTup [.sl .Credit, .v .Addr] x):spec_l17At.raw x.1 x.2=some (cAt x.1 x.2):=cAt_raw x.1 x.2 hb.1.1
theorem ble_LIM {a:Nat} (h:a≤LIM):decide (([]:List UInt8).length+a≤LIM)=true:=decide_eq_true (by simpa using h)
theorem spec_l16Cand.ok {x:TyTup [.v .Cand]} (_:bdTup [.v .Cand] x) {r:G.Cand}:candCopyO x=some r→spec_l16Cand.raw x=some r:=pt_ok fun h=>by
  have h:wt (show G.Cand from x)≤LIM:=h
  rw [wt_Cand] at h
  have h2:=wt_bytes (show G.Cand from x).Draw
  show (cond (decide (([]:List UInt8).length+(show G.Cand from x).Draw.length≤LIM)) _ _)=_
  rw [ble_LIM (by omega)];rfl
theorem cands_wt {p:G.Paths} (h:wt p≤LIM) {i:Nat} (hi:i<p.Cands.length):wt p.Cands[i]≤LIM:=by
  rw [wt_Paths] at h
  have:=wt_get hi
  omega
theorem loop_elem2 {α σ R:Type} (l:List α) (hl:l.length≤maxLen) (p:α→Bool) (hit:α→Option R) (z:Option R) {f:Int × σ→(Int × σ→Option R)→Option R} (s:σ)
    (hf:∀ (i:Nat) (k:Int × σ→Option R) (h:i<l.length),f ((i:Int),s) k=bif p l[i] then hit l[i] else k (IntKind.wrap .i64 ((i:Int)+1),s)) (hz:∀ k,f ((l.length:Int),s) k=z):
    loopK FU f ((0:Int),s)=match l.find? p with
      | some e=>hit e
      | none=>z:=by
  have key:=loop_upS (σ:=σ) l.length hl (f:=f) (g:=fun i _=>match (l.drop i).find? p with
      | some e=>hit e
      | none=>z) (fun _ t=>t=s) (fun i t k hi ht hk=>by
      subst ht
      rw [hf i k hi,hk t rfl,drop_next l hi,List.find?_cons]
      cases p l[i] <;> rfl) (fun t k ht=>by subst ht;rw [hz];simp) 0 s (Nat.zero_le _) rfl
  simpa using key
theorem spec_CandOf_raw (p:G.Paths) (a:G.Addr) (h:wt p≤LIM):spec_CandOf.raw p a=some (candOf p a):=by
  have hl:=wt_Paths p
  simp only [spec_CandOf.raw,joinK,sameA_raw,candOf]
  cases pathsOk p
  · rfl
  simp only [Bool.not_true,cond_false,cond_true]
  rw [loop_elem2 p.Cands (len_lim (by omega)) (fun e=>sameA e.A a) (fun e=>some (e,true)) _ _ (fun i k hi=>?_) (fun k=>by simp only [lt_end,cond_false];rfl)]
  · cases p.Cands.find? _ <;> rfl
  · simp only [lt_len hi,cond_true,idxI_get hi,bind_some',candCopyO,pt_bind (cands_wt h hi)]
theorem spec_CandOf.ok {x:TyTup [.v .Paths, .v .Addr]} (_:bdTup [.v .Paths, .v .Addr] x) {r:G.Cand × Bool}:candOfO x.1 x.2=some r→spec_CandOf.raw x.1 x.2=some r:=pt_ok fun h=>spec_CandOf_raw x.1 x.2 h
end Go.D

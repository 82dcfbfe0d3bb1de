/-
  Sizes of the program's data.
-/
import Derived.Test.YtoambampcllmcaaGreatN4
namespace Go.D


end Go.D

/-
  Whether a client may move.
-/
namespace Go.D

def cand0 : G.Cand := ⟨⟨0, 0⟩, [], 0⟩
noncomputable def candCopyO (c : G.Cand) : Option G.Cand := pt (wt c ≤ LIM) c
def hasCand (p : G.Paths) (a : G.Addr) (i : Nat) : Bool := (p.Cands[i]?).any fun e => sameA e.A a
def candAt (p : G.Paths) (a : G.Addr) : Int := findI p.Cands.length (hasCand p a)
noncomputable def candAtO (p : G.Paths) (a : G.Addr) : Option Int := pt (wt p ≤ LIM) (candAt p a)
def candOf (p : G.Paths) (a : G.Addr) : G.Cand × Bool := bif pathsOk p then (match p.Cands.find? fun e => sameA e.A a with
  | some e => (e, true)
  | none => (cand0, false)) else (cand0, false)
noncomputable def candOfO (p : G.Paths) (a : G.Addr) : Option (G.Cand × Bool) := pt (wt p ≤ LIM) (candOf p a)
def creditFor (l : List G.Credit) (a : G.Addr) : Bool := creditsOk l && bif decide (cAt l a < 0) then decide ((l.length : Int) ≤ 6) else (l[(cAt l a).toNat]?).any fun c => decide (c.Got ≤ 999000)
def mayMove (w : G.World) (a : G.Addr) (s : G.Sess) : Bool := !sameA s.P.At a && !anyN s.P.Cands.length (hasCand s.P a) && decide ((s.P.Cands.length : Int) < 3) && creditFor w.S.Cr a
def canMove (w : G.World) (id : Int) (a : G.Addr) : Bool := linked w id && addrOk a && !sameA a hub && !((w.Clients[(2 - id).toNat]?).any fun c => sameA c.At a) && decide (w.S.D.N < 10000) &&
  (w.Clients[(id - 1).toNat]?).any fun c => (alive w c).any (mayMove w a)
noncomputable def canMoveO (w : G.World) (id : Int) (a : G.Addr) : Option Bool := pt (wt w ≤ LIM) (canMove w id a)
def always3 {α β γ : Type} (_ : α) (_ : β) (_ : γ) : Bool := true

end Go.D

/-
  What the functions compute, as the plain semantics says it.
-/
namespace Go.D

noncomputable def spec_l16Cand.raw (a0 : G.Cand) : Option G.Cand :=
  cond (decide (([] : List UInt8).length + a0.Draw.length ≤ LIM)) (some (⟨a0.A, [] ++ a0.Draw, a0.Until⟩ : G.Cand)) none

noncomputable def spec_CandOf.raw (a0 : G.Paths) (a1 : G.Addr) : Option (G.Cand × Bool) :=
  cond (!(pathsOk a0))
  (some ((⟨(⟨0, 0⟩ : G.Addr), [], 0⟩ : G.Cand), false))
  (joinK (fun (y1 : G.Cand) =>
  some ((⟨(⟨0, 0⟩ : G.Addr), [], 0⟩ : G.Cand), false)) fun k2 =>
  loopK FU (fun (x3 : Int × G.Cand) k4 =>
  cond (decide (x3.1 < (a0.Cands.length : Int)))
  (Option.bind (idxI a0.Cands x3.1) fun e5 =>
  let x6 : Bool := cond (e5.A.Host == a1.Host) (cond (e5.A.Port == a1.Port) (true) false) false
  cond (x6)
  (Option.bind (idxI a0.Cands x3.1) fun e7 =>
  Option.bind (candCopyO e7) fun r8 =>
  some (r8, true))
  (k4 ((iadd .i64 x3.1 1), x3.2)))
  (k2 x3.2)) (0, (⟨(⟨0, 0⟩ : G.Addr), [], 0⟩ : G.Cand)))

noncomputable def spec_l17At.raw (a0 : List G.Credit) (a1 : G.Addr) : Option Int :=
  joinK (fun (y1 : Unit) =>
  some (-1)) fun k2 =>
  loopK FU (fun (x3 : Int) k4 =>
  cond (decide (x3 < (a0.length : Int)))
  (Option.bind (idxI a0 x3) fun e5 =>
  let x6 : Bool := cond (e5.A.Host == a1.Host) (cond (e5.A.Port == a1.Port) (true) false) false
  cond (x6)
  (some x3)
  (k4 (iadd .i64 x3 1)))
  (k2 ())) 0

noncomputable def spec_CreditFor.raw (a0 : List G.Credit) (a1 : G.Addr) : Option Bool :=
  cond (!(creditsOk a0))
  (some false)
  (cond (decide ((cAt a0 a1) < 0))
  (some (decide ((a0.length : Int) ≤ 6)))
  (Option.bind (idxI a0 (cAt a0 a1)) fun e1 =>
  some (decide (e1.Got ≤ 999000))))

noncomputable def spec_CanMove.raw (a0 : G.World) (a1 : Int) (a2 : G.Addr) : Option Bool :=
  joinK (fun (y1 : Bool) =>
  cond (y1)
  (some false)
  (Option.bind (idxI a0.Clients (isub .i64 a1 1)) fun e8 =>
  Option.bind (findSnO a0.S.T e8.C.Sn) fun r9 =>
  Option.bind (idxI a0.S.T.L r9) fun e10 =>
  Option.bind (candOfO e10.P a2) fun r11 =>
  joinK (fun (y12 : Bool) =>
  some y12) fun k13 =>
  let x14 : Bool := !(cond (e10.P.At.Host == a2.Host) (cond (e10.P.At.Port == a2.Port) (true) false) false)
  cond (x14)
  (cond (!r11.2)
  (cond (decide ((e10.P.Cands.length : Int) < 3))
  (k13 (creditFor a0.S.Cr a2))
  (k13 false))
  (k13 false))
  (k13 false))) fun k2 =>
  Option.bind (linkedO a0 a1) fun r3 =>
  cond (!r3)
  (k2 true)
  (cond (!(addrOk a2))
  (k2 true)
  (let r4 : G.Addr := hub
  let x5 : Bool := cond (a2.Host == r4.Host) (cond (a2.Port == r4.Port) (true) false) false
  cond (x5)
  (k2 true)
  (Option.bind (idxI a0.Clients (isub .i64 2 a1)) fun e6 =>
  let x7 : Bool := cond (e6.At.Host == a2.Host) (cond (e6.At.Port == a2.Port) (true) false) false
  cond (x7)
  (k2 true)
  (k2 (decide (a0.S.D.N ≥ 10000))))))

noncomputable def impl_candAt.raw (a0 : G.Paths) (a1 : G.Addr) : Option Int :=
  joinK (fun (y1 : Unit) =>
  some (-1)) fun k2 =>
  loopK FU (fun (x3 : Int) k4 =>
  cond (decide (x3 < (a0.Cands.length : Int)))
  (Option.bind (idxI a0.Cands x3) fun e5 =>
  let x6 : Bool := cond (e5.A.Host == a1.Host) (cond (e5.A.Port == a1.Port) (true) false) false
  cond (x6)
  (some x3)
  (k4 (iadd .i64 x3 1)))
  (k2 ())) 0

noncomputable def impl_CreditFor.raw (a0 : List G.Credit) (a1 : G.Addr) : Option Bool :=
  cond (!(creditsOk a0))
  (some false)
  (cond (decide ((cAt a0 a1) < 0))
  (some (decide ((a0.length : Int) ≤ 6)))
  (Option.bind (idxI a0 (cAt a0 a1)) fun e1 =>
  some (decide (e1.Got ≤ 999000))))

noncomputable def impl_CanMove.raw (a0 : G.World) (a1 : Int) (a2 : G.Addr) : Option Bool :=
  joinK (fun (y1 : Bool) =>
  cond (y1)
  (some false)
  (Option.bind (sessionOfO a0 a1) fun r8 =>
  joinK (fun (y9 : Bool) =>
  cond (y9)
  (some false)
  (joinK (fun (y13 : Bool) =>
  some y13) fun k14 =>
  cond ((creditFor a0.S.Cr a2))
  (k14 (decide (a0.S.D.N < 10000)))
  (k14 false))) fun k10 =>
  let x11 : Bool := cond (a2.Host == r8.2.1.P.At.Host) (cond (a2.Port == r8.2.1.P.At.Port) (true) false) false
  cond (x11)
  (k10 true)
  (Option.bind (candAtO r8.2.1.P a2) fun r12 =>
  cond (decide (r12 ≥ 0))
  (k10 true)
  (k10 (decide ((r8.2.1.P.Cands.length : Int) ≥ 3)))))) fun k2 =>
  Option.bind (linkedO a0 a1) fun r3 =>
  cond (!r3)
  (k2 true)
  (cond (!(addrOk a2))
  (k2 true)
  (let r4 : G.Addr := hub
  let x5 : Bool := cond (a2.Host == r4.Host) (cond (a2.Port == r4.Port) (true) false) false
  cond (x5)
  (k2 true)
  (Option.bind (idxI a0.Clients (isub .i64 2 a1)) fun e6 =>
  let x7 : Bool := cond (a2.Host == e6.At.Host) (cond (a2.Port == e6.At.Port) (true) false) false
  k2 x7)))

noncomputable def laws_FnExactCanMove.raw (a0 : G.World) (a1 : Int) (a2 : G.Addr) : Option Bool :=
  Option.bind (szO a0 1048576) fun r1 =>
  cond (decide (r1 < 0))
  (some true)
  (Option.bind (cpy a0) fun r2 =>
  Option.bind (cpy a2) fun r3 =>
  Option.bind (canMoveO r2 a1 r3) fun r4 =>
  Option.bind (cpy a0) fun r5 =>
  Option.bind (cpy a2) fun r6 =>
  Option.bind (canMoveO r5 a1 r6) fun r7 =>
  cond (!(r7 == r4))
  (some false)
  (Option.bind (cpy a0) fun r8 =>
  cond (!(eqq r5 r8))
  (some false)
  (some true)))

end Go.D

/-
  What the laws' own functions compute.
-/
namespace Go.D


end Go.D

/-
  Whether a client may move: each function computes what is said of it.
-/
namespace Go.D

theorem spec_l17At.ok {x : TyTup [.sl .Credit, .v .Addr]} (hb : bdTup [.sl .Credit, .v .Addr] x) : spec_l17At.raw x.1 x.2 = some (cAt x.1 x.2) := cAt_raw x.1 x.2 hb.1.1
theorem sameA_comm (a b : G.Addr) : sameA a b = sameA b a := by
  unfold sameA; rw [BEq.comm (a := a.Host), BEq.comm (a := a.Port)]
theorem ble_LIM {a : Nat} (h : a ≤ LIM) : decide (([] : List UInt8).length + a ≤ LIM) = true := decide_eq_true (by simpa using h)
theorem spec_l16Cand.ok {x : TyTup [.v .Cand]} (_ : bdTup [.v .Cand] x) {r : G.Cand} : candCopyO x = some r → spec_l16Cand.raw x = some r := pt_ok fun h => by
  have h : wt (show G.Cand from x) ≤ LIM := h
  rw [wt_Cand] at h
  have h2 := wt_bytes (show G.Cand from x).Draw
  show (cond (decide (([] : List UInt8).length + (show G.Cand from x).Draw.length ≤ LIM)) _ _) = _
  rw [ble_LIM (by omega)]; rfl
theorem cands_wt {p : G.Paths} (h : wt p ≤ LIM) {i : Nat} (hi : i < p.Cands.length) : wt p.Cands[i] ≤ LIM := by
  rw [wt_Paths] at h
  have := wt_get hi
  omega
theorem impl_candAt_raw (p : G.Paths) (a : G.Addr) (h : wt p ≤ LIM) : impl_candAt.raw p a = some (candAt p a) := by
  have hl := wt_Paths p
  simp only [impl_candAt.raw, joinK, sameA_raw]
  rw [loop_findI p.Cands.length (len_lim (by omega)) (hasCand p a) (fun i k hi => ?_) (fun k => by simp only [lt_end, cond_false])]
  · rfl
  · simp only [lt_len hi, cond_true, idxI_get hi, bind_some', hasCand, at_any hi]
theorem impl_candAt.ok {x : TyTup [.v .Paths, .v .Addr]} (_ : bdTup [.v .Paths, .v .Addr] x) {r : Int} : candAtO x.1 x.2 = some r → impl_candAt.raw x.1 x.2 = some r := pt_ok fun h => impl_candAt_raw x.1 x.2 h
theorem candAt_ge (p : G.Paths) (a : G.Addr) : decide (candAt p a ≥ 0) = anyN p.Cands.length (hasCand p a) := by
  rcases findI_cases p.Cands.length (hasCand p a) with ⟨h1, h2⟩ | ⟨m, h1, h2, _, h4⟩
  · rw [h1, candAt, h2]; rfl
  · rw [candAt, h4, show anyN p.Cands.length (hasCand p a) = true from anyN_iff.2 ⟨m, h1, h2⟩]
    exact decide_eq_true (by omega)

/-- A loop over a list for the first element that fits; the index stands ahead of what is carried. -/
theorem loop_elem2 {α σ R : Type} (l : List α) (hl : l.length ≤ maxLen) (p : α → Bool) (hit : α → Option R) (z : Option R) {f : Int × σ → (Int × σ → Option R) → Option R} (s : σ)
    (hf : ∀ (i : Nat) (k : Int × σ → Option R) (h : i < l.length), f ((i : Int), s) k = bif p l[i] then hit l[i] else k (IntKind.wrap .i64 ((i : Int) + 1), s)) (hz : ∀ k, f ((l.length : Int), s) k = z) :
    loopK FU f ((0 : Int), s) = match l.find? p with
      | some e => hit e
      | none => z := by
  have key := loop_upS (σ := σ) l.length hl (f := f) (g := fun i _ => match (l.drop i).find? p with
      | some e => hit e
      | none => z) (fun _ t => t = s) (fun i t k hi ht hk => by
      subst ht
      rw [hf i k hi, hk t rfl, drop_next l hi, List.find?_cons]
      cases p l[i] <;> rfl) (fun t k ht => by subst ht; rw [hz]; simp) 0 s (Nat.zero_le _) rfl
  simpa using key
theorem spec_CandOf_raw (p : G.Paths) (a : G.Addr) (h : wt p ≤ LIM) : spec_CandOf.raw p a = some (candOf p a) := by
  have hl := wt_Paths p
  simp only [spec_CandOf.raw, joinK, sameA_raw, candOf]
  cases pathsOk p
  · rfl
  simp only [Bool.not_true, cond_false, cond_true]
  rw [loop_elem2 p.Cands (len_lim (by omega)) (fun e => sameA e.A a) (fun e => some (e, true)) _ _ (fun i k hi => ?_) (fun k => by simp only [lt_end, cond_false]; rfl)]
  · cases p.Cands.find? _ <;> rfl
  · simp only [lt_len hi, cond_true, idxI_get hi, bind_some', candCopyO, pt_bind (cands_wt h hi)]
theorem spec_CandOf.ok {x : TyTup [.v .Paths, .v .Addr]} (_ : bdTup [.v .Paths, .v .Addr] x) {r : G.Cand × Bool} : candOfO x.1 x.2 = some r → spec_CandOf.raw x.1 x.2 = some r := pt_ok fun h => spec_CandOf_raw x.1 x.2 h
theorem candOf_any {p : G.Paths} (hp : pathsOk p = true) (a : G.Addr) : (candOf p a).2 = anyN p.Cands.length (hasCand p a) := by
  have e := any_list p.Cands fun e => sameA e.A a
  rw [candOf, hp, cond_true]
  show _ = anyN p.Cands.length (fun i => (p.Cands[i]?).any fun e => sameA e.A a)
  rw [e]
  cases hf : p.Cands.find? (fun e => sameA e.A a) with
  | none =>
    cases ha : p.Cands.any fun e => sameA e.A a
    · rfl
    · obtain ⟨x, hx, hs⟩ := List.any_eq_true.1 ha
      have := List.find?_eq_none.1 hf x hx
      exact absurd hs this
  | some x =>
    have := List.find?_some hf
    exact (List.any_eq_true.2 ⟨x, List.mem_of_find?_eq_some hf, this⟩).symm

theorem creditFor_raw (l : List G.Credit) (a : G.Addr) : (cond (!(creditsOk l)) (some false) (cond (decide ((cAt l a) < 0)) (some (decide ((l.length : Int) ≤ 6))) (Option.bind (idxI l (cAt l a)) fun e1 => some (decide (e1.Got ≤ 999000))))) = some (creditFor l a) := by
  rw [creditFor]
  cases creditsOk l
  · rfl
  simp only [Bool.not_true, cond_false, Bool.true_and]
  rcases findI_cases l.length (hasA l a) with ⟨h1, h2⟩ | ⟨m, h1, h2, _, h4⟩
  · have : cAt l a = -1 := h2
    rw [this]; rfl
  · have : cAt l a = (m : Int) := h4
    rw [this, decide_eq_false (p := (m : Int) < 0) (by omega), idxI_get h1, Int.toNat_natCast, at_any h1]; rfl
theorem impl_CreditFor.ok {x : TyTup [.sl .Credit, .v .Addr]} (_ : bdTup [.sl .Credit, .v .Addr] x) : impl_CreditFor.raw x.1 x.2 = some (creditFor x.1 x.2) := creditFor_raw x.1 x.2
theorem spec_CreditFor.ok {x : TyTup [.sl .Credit, .v .Addr]} (_ : bdTup [.sl .Credit, .v .Addr] x) : spec_CreditFor.raw x.1 x.2 = some (creditFor x.1 x.2) := creditFor_raw x.1 x.2

theorem other_at {i : Nat} (hi : i < 2) {id : Int} (hid : id = (i : Int) + 1) : isub .i64 2 id = ((1 - i : Nat) : Int) ∧ (2 - id).toNat = 1 - i := by
  subst hid
  refine ⟨?_, by omega⟩
  rw [isub, wrap_i64 (by omega) (by omega)]; omega
theorem server_of {w : G.World} (h : worldOk w = true) : serverOk w.S = true := by
  simp only [worldOk, Bool.and_eq_true] at h
  exact h.1.1.1.1.1.1.1.2
theorem tab_of {s : G.Server} (h : serverOk s = true) : tabOk s.T = true := by
  simp only [serverOk, Bool.and_eq_true] at h
  exact h.1.1.1.2
theorem sess_of {t : G.Tab} (h : tabOk t = true) {m : Nat} (hm : m < t.L.length) : sessOk t.L[m] = true := by
  simp only [tabOk, Bool.and_eq_true, Bool.not_eq_true'] at h
  have := anyN_false.1 h.2 m hm
  rw [sessBad, at_any hm, Bool.or_eq_false_iff] at this
  simpa using this.1
theorem paths_of {s : G.Sess} (h : sessOk s = true) (hd : s.Dead = false) : pathsOk s.P = true := by
  simp only [sessOk, hd, cond_false, Bool.and_eq_true] at h
  exact h.2.1.2
theorem alive_paths {w : G.World} {c : G.Client} {s : G.Sess} (hw : worldOk w = true) (h : alive w c = some s) : pathsOk s.P = true := by
  rcases alive_cases w c with ⟨_, h2⟩ | ⟨_, _, h3⟩ | ⟨m, hm, _, _, (⟨_, h4⟩ | ⟨h5, h4⟩)⟩
  · rw [h2] at h; cases h
  · rw [h3] at h; cases h
  · rw [h4] at h; cases h
  · rw [h4] at h; cases h
    exact paths_of (sess_of (tab_of (server_of hw)) hm) h5
theorem sess_P {s : G.Sess} (h : wt s ≤ LIM) : wt s.P ≤ LIM := by
  rw [wt_Sess] at h; omega

theorem spec_CanMove_raw (w : G.World) (id : Int) (a : G.Addr) (h : wt w ≤ LIM) : spec_CanMove.raw w id a = some (canMove w id a) := by
  have hw := world_wt w h
  simp only [spec_CanMove.raw, joinK, linkedO, pt_bind h, sameA_raw, canMove]
  cases hl : linked w id
  · rfl
  obtain ⟨hf, i, hi, e0, e1, e2, s, hs⟩ := linked_parts hl
  obtain ⟨ho, hid⟩ := fit_parts hf
  have hlen := world_len ho
  obtain ⟨o1, o2⟩ := other_at (by omega) e0
  have ho2 : 1 - i < w.Clients.length := by omega
  have hpa := alive_paths ho hs
  have hsp := sess_P (alive_wt hw.2.2.2.1 hs)
  obtain ⟨m, hm, f1, rfl⟩ := alive_find hs
  have hck := client_wt _ (clients_wt h hi)
  simp only [Bool.not_true, cond_false, e1, e2, o1, o2, idxI_get hi, idxI_get ho2, bind_some', at_any hi, at_any ho2, findSnO, pt_bind (p := wt w.S.T ≤ LIM ∧ wt w.Clients[i].C.Sn ≤ LIM) ⟨hw.2.2.2.1, hck.2.2.2.2.2.2.1⟩, f1, idxI_get hm, hs, Option.any_some,
    candOfO, pt_bind hsp, candOf_any hpa, mayMove]
  rw [show decide (w.S.D.N ≥ 10000) = !decide (w.S.D.N < 10000) by rw [← Bool.not_not (decide (w.S.D.N ≥ 10000)), ← decide_not]; congr 2; exact propext (by omega)]
  cases addrOk a
  · rfl
  cases sameA a hub
  case true => rfl
  cases sameA w.Clients[1 - i].At a
  case true => rfl
  cases decide (w.S.D.N < 10000)
  · rfl
  cases sameA w.S.T.L[m].P.At a
  · cases anyN _ _ <;> cases decide ((w.S.T.L[m].P.Cands.length : Int) < 3) <;> rfl
  · rfl
theorem spec_CanMove.ok {x : TyTup [.v .World, .v .int, .v .Addr]} (_ : bdTup [.v .World, .v .int, .v .Addr] x) {r : Bool} : canMoveO x.1 x.2.1 x.2.2 = some r → spec_CanMove.raw x.1 x.2.1 x.2.2 = some r := pt_ok fun h => spec_CanMove_raw x.1 x.2.1 x.2.2 h
theorem impl_CanMove_raw (w : G.World) (id : Int) (a : G.Addr) (h : wt w ≤ LIM) : impl_CanMove.raw w id a = some (canMove w id a) := by
  have hw := world_wt w h
  simp only [impl_CanMove.raw, joinK, linkedO, pt_bind h, sameA_raw, canMove]
  cases hl : linked w id
  · rfl
  obtain ⟨hf, i, hi, e0, e1, e2, s, hs⟩ := linked_parts hl
  obtain ⟨ho, hid⟩ := fit_parts hf
  have hlen := world_len ho
  obtain ⟨o1, o2⟩ := other_at (by omega) e0
  have ho2 : 1 - i < w.Clients.length := by omega
  have hsp := sess_P (alive_wt hw.2.2.2.1 hs)
  rw [sessionOfO_some h hi e0 e2]
  simp only [Bool.not_true, cond_false, e2, o1, o2, idxI_get ho2, bind_some', at_any hi, at_any ho2, sessionOf, hs, Option.any_some, candAtO, pt_bind hsp, candAt_ge, mayMove]
  rw [show decide ((s.P.Cands.length : Int) ≥ 3) = !decide ((s.P.Cands.length : Int) < 3) by rw [← Bool.not_not (decide ((s.P.Cands.length : Int) ≥ 3)), ← decide_not]; congr 2; exact propext (by omega),
    sameA_comm a s.P.At, sameA_comm a w.Clients[1 - i].At]
  cases addrOk a
  · rfl
  cases sameA a hub
  case true => rfl
  cases sameA w.Clients[1 - i].At a
  case true => rfl
  cases sameA s.P.At a
  · cases anyN _ _ <;> cases decide ((s.P.Cands.length : Int) < 3) <;> cases creditFor w.S.Cr a <;> cases decide (w.S.D.N < 10000) <;> rfl
  · cases decide (w.S.D.N < 10000) <;> rfl
theorem impl_CanMove.ok {x : TyTup [.v .World, .v .int, .v .Addr]} (_ : bdTup [.v .World, .v .int, .v .Addr] x) {r : Bool} : canMoveO x.1 x.2.1 x.2.2 = some r → impl_CanMove.raw x.1 x.2.1 x.2.2 = some r := pt_ok fun h => impl_CanMove_raw x.1 x.2.1 x.2.2 h

theorem laws_FnExactCanMove.ok {x : TyTup [.v .World, .v .int, .v .Addr]} (_ : bdTup [.v .World, .v .int, .v .Addr] x) : laws_FnExactCanMove.raw x.1 x.2.1 x.2.2 = some (always3 (α := G.World) (β := Int) (γ := G.Addr) x.1 x.2.1 x.2.2) := by
  obtain ⟨w, i, a⟩ := x
  show laws_FnExactCanMove.raw (w : G.World) (i : Int) (a : G.Addr) = some true
  generalize (show G.World from w) = w, (show Int from i) = i, (show G.Addr from a) = a
  simp only [laws_FnExactCanMove.raw]
  refine law_step (by decide) fun h => ?_
  have hL := LIM_is
  have ha := wt_Addr a
  simp (disch := omega) only [cpy_ok, canMoveO, pt_bind, eqq_self]
  simp

end Go.D

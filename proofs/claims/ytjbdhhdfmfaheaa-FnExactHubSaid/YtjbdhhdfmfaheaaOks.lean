/-
  Each function computes what is said of it.
-/
import Derived.Test.YtjbdhhdfmfaheaaRaws
namespace Go.D

theorem cond_b {α : Type} (b : Bool) (x y : α) : cond b x y = if b = true then x else y := by cases b <;> rfl

theorem inR_raw (a b c : Int) : joinK (R := Bool) (fun (y : Bool) => some y) (fun k => cond (decide (a ≥ b)) (k (decide (a ≤ c))) (k false)) = some (inR a b c) := by
  simp only [joinK, inR]
  cases decide (a ≥ b) <;> rfl
theorem impl_within.ok {x : TyTup [.v .int, .v .int, .v .int]} (_ : bdTup [.v .int, .v .int, .v .int] x) : impl_within.raw x.1 x.2.1 x.2.2 = some (inR x.1 x.2.1 x.2.2) := inR_raw _ _ _
theorem spec_l1In.ok {x : TyTup [.v .int, .v .int, .v .int]} (_ : bdTup [.v .int, .v .int, .v .int] x) : spec_l1In.raw x.1 x.2.1 x.2.2 = some (inR x.1 x.2.1 x.2.2) := inR_raw _ _ _

theorem inR_iff {n lo hi : Int} : inR n lo hi = true ↔ lo ≤ n ∧ n ≤ hi := by simp [inR]
theorem inR_not {n lo hi : Int} : inR n lo hi = false ↔ ¬ (lo ≤ n ∧ n ≤ hi) := by
  rw [← inR_iff]; cases inR n lo hi <;> simp

theorem spec_StName_raw (n : Int) : spec_StName.raw n = some (stName n) := by
  simp only [spec_StName.raw, stName, cond_b, beq_iff_eq]
  split <;> (try rfl) <;> split <;> (try rfl) <;> split <;> (try rfl) <;> split <;> rfl
theorem spec_StName.ok {x : TyTup [.v .int]} (_ : bdTup [.v .int] x) : spec_StName.raw x = some (stName x) := spec_StName_raw x
theorem impl_StName_raw (n : Int) : impl_StName.raw n = some (stName n) := by
  simp only [impl_StName.raw]
  cases h : inR n 0 3
  · rw [inR_not] at h
    have h0 : n ≠ 0 := by omega
    have h1 : n ≠ 1 := by omega
    have h2 : n ≠ 2 := by omega
    have h3 : n ≠ 3 := by omega
    simp [stName, h0, h1, h2, h3]
  · rw [inR_iff] at h
    have : n = 0 ∨ n = 1 ∨ n = 2 ∨ n = 3 := by omega
    rcases this with rfl | rfl | rfl | rfl <;> rfl
theorem impl_StName.ok {x : TyTup [.v .int]} (_ : bdTup [.v .int] x) : impl_StName.raw x = some (stName x) := impl_StName_raw x
theorem laws_FnExactStName.ok {x : TyTup [.v .int]} (_ : bdTup [.v .int] x) : laws_FnExactStName.raw x = some (always x) := by
  simp [laws_FnExactStName.raw, always]

theorem near_raw (i : Int) : (cond (!(inR i 0 255)) (some (⟨0, 0⟩ : G.Addr)) (some (⟨iadd .i64 167772160 i, iadd .i64 7000 i⟩ : G.Addr))) = some (near i) := by
  cases h : inR i 0 255
  · rw [inR_not] at h
    simp [near, h]
  · rw [inR_iff] at h
    simp only [Bool.not_true, cond_false, near, h, and_self, if_true, iadd]
    rw [wrap_i64 (by omega) (by omega), wrap_i64 (by omega) (by omega)]
theorem spec_Near.ok {x : TyTup [.v .int]} (_ : bdTup [.v .int] x) : spec_Near.raw x = some (near x) := near_raw _
theorem impl_Near.ok {x : TyTup [.v .int]} (_ : bdTup [.v .int] x) : impl_Near.raw x = some (near x) := near_raw _
theorem spec_Hub.ok {x : TyTup []} (_ : bdTup [] x) : spec_Hub.raw = some hub := rfl
theorem impl_Hub.ok {x : TyTup []} (_ : bdTup [] x) : impl_Hub.raw = some hub := rfl

theorem laws_eqAddr.ok {x : TyTup [.v .Addr, .v .Addr]} (_ : bdTup [.v .Addr, .v .Addr] x) : laws_eqAddr.raw x.1 x.2 = some (eqq x.1 x.2) := by
  obtain ⟨⟨a, b⟩, ⟨c, d⟩⟩ := x
  simp only [laws_eqAddr.raw]
  by_cases h1 : a = c <;> by_cases h2 : b = d
  · subst h1 h2; simp [eqq]
  all_goals simp [eqq, bne, cond_b, h1, h2]
theorem laws_FnExactHub.ok {x : TyTup []} (_ : bdTup [] x) : laws_FnExactHub.raw = some always0 := by
  simp [laws_FnExactHub.raw, eqq_self, always0]

theorem laws_szCreditS.ok {x : TyTup [.sl .Credit, .v .int]} (_ : bdTup [.sl .Credit, .v .int] x) : laws_szCreditS.raw x.1 x.2 = some (szList x.1 x.2) := by
  simp only [laws_szCreditS.raw, szList]
  cases h : decide (IntKind.wrap .i64 (x.2 - (x.1.length : Int)) < 0)
  · have := of_decide_eq_false h
    rw [if_neg this]; rfl
  · have := of_decide_eq_true h
    rw [if_pos this]; rfl
theorem laws_toAddr.ok {x : TyTup [.v .Addr]} (_ : bdTup [.v .Addr] x) : laws_toAddr.raw x = some (same x) := rfl
theorem laws_toCredit.ok {x : TyTup [.v .Credit]} (_ : bdTup [.v .Credit] x) : laws_toCredit.raw x = some (same x) := rfl

theorem set_at {α : Type} (l r : List α) (x y : α) {i : Nat} (h : l.length = i) : List.set (l ++ x :: r) i y = l ++ y :: r := by
  subst h; simp
theorem take_next {α : Type} (l : List α) {i : Nat} (h : i < l.length) : l.take (i + 1) = l.take i ++ [l[i]] := by
  rw [List.take_succ_eq_append_getElem h]
theorem drop_next {α : Type} (l : List α) {i : Nat} (h : i < l.length) : l.drop i = l[i] :: l.drop (i + 1) := List.drop_eq_getElem_cons h

/-- A loop that copies. -/
theorem copy_loop {α R : Type} (l : List α) (z : α) (hl : l.length ≤ maxLen) (fin : List α → Option R) {f : Int × List α → (Int × List α → Option R) → Option R}
    (hf : ∀ (i : Nat) (o : List α) (k : Int × List α → Option R) (h : i < l.length) (_ : i < o.length), f ((i : Int), o) k = k (IntKind.wrap .i64 ((i : Int) + 1), List.set o i l[i]))
    (hz : ∀ o k, f ((l.length : Int), o) k = fin o) : loopK FU f ((0 : Int), List.replicate l.length z) = fin l := by
  have := loop_upS (σ := List α) l.length hl (f := f) (g := fun _ _ => fin l) (fun i o => o = l.take i ++ List.replicate (l.length - i) z) (fun i o k hi ho hk => by
      subst ho
      have hlen : (l.take i).length = i := by rw [List.length_take]; omega
      rw [hf i _ k hi (by simp; omega)]
      refine hk _ ?_
      rw [show l.length - i = (l.length - (i + 1)) + 1 by omega, List.replicate_succ, set_at _ _ _ _ hlen, take_next l hi, List.append_assoc]
      rfl) (fun o k ho => by
      rw [hz]; subst ho; simp) 0 (List.replicate l.length z) (Nat.zero_le _) (by simp)
  exact this

theorem laws_toCreditS.ok {x : TyTup [.sl .Credit]} (hb : bdTup [.sl .Credit] x) : ∀ {r : List G.Credit}, small (x : List G.Credit) = some r → laws_toCreditS.raw x = some r := by
  show ∀ {r : List G.Credit}, small (x : List G.Credit) = some r → laws_toCreditS.raw (x : List G.Credit) = some r
  have hl : (x : List G.Credit).length ≤ maxLen := hb.1
  generalize (x : List G.Credit) = l at hl
  intro r h
  unfold small at h
  split at h <;> cases h
  rename_i hle
  have h1 : (decide ((0 : Int) ≤ (l.length : Int)) && decide ((l.length : Int) ≤ (LIM : Int)) && ((l.length : Int) == (l.length : Int))) = true := by
    simp; exact hle
  simp only [laws_toCreditS.raw]
  rw [h1]
  simp only [cond_true, joinK, Int.toNat_natCast, same]
  refine copy_loop l _ hl (fun o => some o) (fun i o k hi ho => ?_) (fun o k => by simp)
  have h2 : decide ((i : Int) < (l.length : Int)) = true := by simp; exact hi
  have h3 : (decide ((0 : Int) ≤ (i : Int)) && decide ((i : Int) < (o.length : Int))) = true := by simp; exact ho
  simp only [h2, cond_true, idxI_get hi, bind_some', h3, Int.toNat_natCast, List.getElem?_eq_getElem ho]

theorem addrOk_eq (a : G.Addr) : (cond (inR a.Host 0 4294967295) (some (inR a.Port 0 65535)) (some false)) = some (addrOk a) := by
  simp only [addrOk]; cases inR a.Host 0 4294967295 <;> rfl
theorem spec_AddrOk.ok {x : TyTup [.v .Addr]} (_ : bdTup [.v .Addr] x) : spec_AddrOk.raw x = some (addrOk x) := addrOk_eq x
theorem impl_AddrOk.ok {x : TyTup [.v .Addr]} (_ : bdTup [.v .Addr] x) : impl_AddrOk.raw x = some (addrOk x) := addrOk_eq x

theorem sameA_eq (a b : G.Addr) : cond (a.Host == b.Host) (cond (a.Port == b.Port) true false) false = sameA a b := by
  simp only [sameA]; cases a.Host == b.Host <;> cases a.Port == b.Port <;> rfl

theorem cAt_loop (l : List G.Credit) (a : G.Addr) (hl : l.length ≤ maxLen) : loopK FU (fun (i : Int) (k : Int → Option Int) =>
    cond (decide (i < (l.length : Int))) (Option.bind (idxI l i) fun e => cond (sameA e.A a) (some i) (k (IntKind.wrap .i64 (i + 1)))) (some (-1))) (0 : Int) = some (cAt l a) := by
  have := loop_up l.length hl (g := fun i => some (cAtG a (l.drop i) (i : Int))) (f := fun (i : Int) (k : Int → Option Int) =>
    cond (decide (i < (l.length : Int))) (Option.bind (idxI l i) fun e => cond (sameA e.A a) (some i) (k (IntKind.wrap .i64 (i + 1)))) (some (-1))) (fun i k hi hk => by
      have h2 : decide ((i : Int) < (l.length : Int)) = true := by simp; exact hi
      simp only [h2, cond_true, idxI_get hi, bind_some', hk]
      rw [drop_next l hi]
      simp only [cAtG]
      cases sameA l[i].A a
      · simp only [cond_false]; rw [show ((i : Int) + 1) = ((i + 1 : Nat) : Int) by omega]
      · rfl) (fun k => by simp [cAtG]) 0 (Nat.zero_le _)
  exact this
theorem spec_l17At.ok {x : TyTup [.sl .Credit, .v .Addr]} (hb : bdTup [.sl .Credit, .v .Addr] x) : spec_l17At.raw x.1 x.2 = some (cAt x.1 x.2) := by
  simp only [spec_l17At.raw, joinK, sameA_eq]
  exact cAt_loop x.1 x.2 hb.1.1
theorem impl_creditAt.ok {x : TyTup [.sl .Credit, .v .Addr]} (hb : bdTup [.sl .Credit, .v .Addr] x) : impl_creditAt.raw x.1 x.2 = some (cAt x.1 x.2) := by
  simp only [impl_creditAt.raw, joinK, sameA_eq]
  exact cAt_loop x.1 x.2 hb.1.1

/-- The first credit of an address lies ahead of another one if and only if there is one ahead. -/
theorem cAtG_lt (a : G.Addr) : ∀ (p : List G.Credit) (c : G.Credit) (l : List G.Credit) (i : Int), sameA c.A a = true → decide (cAtG a (p ++ c :: l) i < i + p.length) = p.any (fun d => sameA d.A a)
  | [], c, l, i, h => by simp [cAtG, h]
  | d :: p, c, l, i, h => by
    simp only [List.cons_append, cAtG, List.any_cons]
    cases hd : sameA d.A a
    · have := cAtG_lt a p c l (i + 1) h
      simp only [cond_false, Bool.false_or, List.length_cons]
      rw [← this, decide_eq_decide]
      push_cast
      omega
    · simp only [cond_true, Bool.true_or, List.length_cons, decide_eq_true_eq]
      push_cast
      omega
theorem sameA_self (a : G.Addr) : sameA a a = true := by simp [sameA]

theorem cAt_lt (l : List G.Credit) {i : Nat} (hi : i < l.length) : decide (cAt l l[i].A < (i : Int)) = (l.take i).any fun d => sameA d.A l[i].A := by
  have h := cAtG_lt l[i].A (l.take i) l[i] (l.drop (i + 1)) 0 (sameA_self _)
  rw [← drop_next l hi, List.take_append_drop, List.length_take] at h
  rw [← h]
  simp only [cAt]
  congr 2
  omega

theorem creditOk_iff (c : G.Credit) (hc : bdx .Credit c) : inR c.Sent 0 (IntKind.wrap .i64 (3 * c.Got)) = inR c.Sent 0 (3 * c.Got) ∨ inR c.Got 0 1000000 = false := by
  cases h : inR c.Got 0 1000000
  · exact .inr rfl
  · rw [inR_iff] at h
    left; rw [wrap_i64 (by omega) (by omega)]

theorem impl_CreditsOk.ok {x : TyTup [.sl .Credit]} (hb : bdTup [.sl .Credit] x) : impl_CreditsOk.raw x = some (creditsOk x) := by
  show impl_CreditsOk.raw (x : List G.Credit) = some (creditsOk (x : List G.Credit))
  have hbd : bdl .Credit (x : List G.Credit) := hb
  generalize (x : List G.Credit) = l at hbd
  have hl := hbd.1
  simp only [impl_CreditsOk.raw, creditsOk]
  by_cases h8 : l.length ≤ 8
  · have h1 : decide ((l.length : Int) > 8) = false := by simp; omega
    simp only [h1, cond_false, joinK, h8, decide_true, Bool.true_and]
    refine loop_up l.length hl (g := fun i => some (creditsOkG (l.take i) (l.drop i))) (fun i k hi hk => ?_) (fun k => by simp [creditsOkG]) 0 (Nat.zero_le _)
    have h2 : decide ((i : Int) < (l.length : Int)) = true := by simp; exact hi
    simp only [h2, cond_true, idxI_get hi, bind_some', hk]
    rw [drop_next l hi]
    simp only [creditsOkG, ← take_next l hi, creditOk, cAt_lt l hi]
    cases addrOk l[i].A
    · rfl
    cases hg : inR l[i].Got 0 1000000
    · rfl
    have := (creditOk_iff l[i] (hbd.2 _ (List.getElem_mem hi))).resolve_right (by rw [hg]; simp)
    rw [this]
    cases inR l[i].Sent 0 (3 * l[i].Got)
    · rfl
    cases (l.take i).any fun d => sameA d.A l[i].A <;> rfl
  · have h1 : decide ((l.length : Int) > 8) = true := by simp; omega
    simp [h1, h8]

theorem spec_CreditsOk.ok {x : TyTup [.sl .Credit]} (hb : bdTup [.sl .Credit] x) : spec_CreditsOk.raw x = some (creditsOk x) := by
  show spec_CreditsOk.raw (x : List G.Credit) = some (creditsOk (x : List G.Credit))
  have hbd : bdl .Credit (x : List G.Credit) := hb
  generalize (x : List G.Credit) = l at hbd
  have hl := hbd.1
  simp only [spec_CreditsOk.raw, creditsOk]
  by_cases h8 : l.length ≤ 8
  · have h1 : decide ((l.length : Int) > 8) = false := by simp; omega
    simp only [h1, cond_false, joinK, h8, decide_true, Bool.true_and, sameA_eq]
    refine loop_up l.length hl (g := fun i => some (creditsOkG (l.take i) (l.drop i))) (fun i k hi hk => ?_) (fun k => by simp [creditsOkG]) 0 (Nat.zero_le _)
    have h2 : decide ((i : Int) < (l.length : Int)) = true := by simp; exact hi
    -- the loop over those ahead
    have inner : ∀ z : Option Bool, loopK FU (fun (j : Int) (k15 : Int → Option Bool) => cond (decide (j < (i : Int))) (Option.bind (idxI l j) fun e => cond (sameA e.A l[i].A) (some false) (k15 (IntKind.wrap .i64 (j + 1)))) z) (0 : Int)
        = (bif (l.take i).any (fun d => sameA d.A l[i].A) then some false else z) := fun z => by
      have := loop_up i (by omega) (g := fun j => bif ((l.take i).drop j).any (fun d => sameA d.A l[i].A) then some false else z) (f := fun (j : Int) (k15 : Int → Option Bool) => cond (decide (j < (i : Int))) (Option.bind (idxI l j) fun e => cond (sameA e.A l[i].A) (some false) (k15 (IntKind.wrap .i64 (j + 1)))) z) (fun j k' hj hk' => by
          have h3 : decide ((j : Int) < (i : Int)) = true := by simp; exact hj
          have hjl : j < (l.take i).length := by rw [List.length_take]; omega
          simp only [h3, cond_true, idxI_get (Nat.lt_trans hj hi), bind_some', hk']
          rw [drop_next _ hjl, List.any_cons, List.getElem_take]
          cases sameA l[j].A l[i].A <;> rfl) (fun k' => by
          have h3 : decide ((i : Int) < (i : Int)) = false := by simp
          have h4 : (l.take i).drop i = [] := List.drop_eq_nil_of_le (by rw [List.length_take]; omega)
          simp only [h3, cond_false, h4, List.any_nil]) 0 (Nat.zero_le _)
      simpa using this
    simp only [h2, cond_true, idxI_get hi, bind_some']
    rw [drop_next l hi]
    simp only [creditsOkG, ← take_next l hi, creditOk, iadd]
    cases addrOk l[i].A
    · rfl
    cases hg : inR l[i].Got 0 1000000
    · rfl
    have := (creditOk_iff l[i] (hbd.2 _ (List.getElem_mem hi))).resolve_right (by rw [hg]; simp)
    rw [this]
    cases inR l[i].Sent 0 (3 * l[i].Got)
    · rfl
    rw [hk]
    simp only [Bool.not_true, cond_false, inner]
    cases (l.take i).any fun d => sameA d.A l[i].A <;> rfl
  · have h1 : decide ((l.length : Int) > 8) = true := by simp; omega
    simp [h1, h8]

theorem cAtG_range (a : G.Addr) : ∀ (l : List G.Credit) (i : Int), cAtG a l i = -1 ∨ (i ≤ cAtG a l i ∧ cAtG a l i < i + l.length)
  | [], i => .inl rfl
  | c :: l, i => by
    simp only [cAtG, List.length_cons]
    cases sameA c.A a
    · rcases cAtG_range a l (i + 1) with h | h
      · exact .inl h
      · right; simp only [cond_false]; omega
    · right; simp only [cond_true]; omega

theorem creditFor_eq (l : List G.Credit) (a : G.Addr) : cond (!(creditsOk l)) (some false) (cond (decide (cAt l a < 0)) (some (decide ((l.length : Int) ≤ 6))) (Option.bind (idxI l (cAt l a)) fun e => some (decide (e.Got ≤ 999000)))) = some (creditFor l a) := by
  simp only [creditFor]
  cases creditsOk l
  · rfl
  cases h : decide (cAt l a < 0)
  · have h0 := of_decide_eq_false h
    have hr : cAt l a < l.length := by
      rcases cAtG_range a l 0 with h1 | h1
      · have : cAt l a = -1 := h1
        omega
      · have : cAt l a = cAtG a l 0 := rfl
        omega
    obtain ⟨j, hj⟩ := Int.eq_ofNat_of_zero_le (show 0 ≤ cAt l a by omega)
    rw [hj] at hr ⊢
    have hjl : j < l.length := by omega
    simp [idxI_get hjl, List.getElem?_eq_getElem hjl]
  · simp; omega
theorem spec_CreditFor.ok {x : TyTup [.sl .Credit, .v .Addr]} (_ : bdTup [.sl .Credit, .v .Addr] x) : spec_CreditFor.raw x.1 x.2 = some (creditFor x.1 x.2) := creditFor_eq _ _
theorem impl_CreditFor.ok {x : TyTup [.sl .Credit, .v .Addr]} (_ : bdTup [.sl .Credit, .v .Addr] x) : impl_CreditFor.raw x.1 x.2 = some (creditFor x.1 x.2) := creditFor_eq _ _

theorem laws_eqCredit.ok {x : TyTup [.v .Credit, .v .Credit]} (_ : bdTup [.v .Credit, .v .Credit] x) : laws_eqCredit.raw x.1 x.2 = some (eqq x.1 x.2) := by
  obtain ⟨⟨a, b, c⟩, ⟨d, e, f⟩⟩ := x
  simp only [laws_eqCredit.raw]
  by_cases h1 : a = d <;> by_cases h2 : b = e <;> by_cases h3 : c = f
  · subst h1 h2 h3; simp [eqq]
  all_goals simp [eqq, bne, cond_b, h1, h2, h3]

theorem eqq_cons {α : Type} (a b : α) (l m : List α) : eqq (a :: l) (b :: m) = (eqq a b && eqq l m) := by
  rw [Bool.eq_iff_iff, Bool.and_eq_true, eqq_true, eqq_true, eqq_true]
  exact List.cons_eq_cons

/-- A loop that compares. -/
theorem cmp_loop {α : Type} (l m : List α) (hl : l.length ≤ maxLen) (he : l.length = m.length) {f : Int → (Int → Option Bool) → Option Bool}
    (hf : ∀ (i : Nat) (k : Int → Option Bool) (h : i < l.length) (h' : i < m.length), f (i : Int) k = bif eqq l[i] m[i] then k (IntKind.wrap .i64 ((i : Int) + 1)) else some false)
    (hz : ∀ k, f (l.length : Int) k = some true) : loopK FU f (0 : Int) = some (eqq l m) := by
  have := loop_up l.length hl (f := f) (g := fun i => some (eqq (l.drop i) (m.drop i))) (fun i k hi hk => by
      have hi' : i < m.length := by omega
      rw [hf i k hi hi', hk, drop_next l hi, drop_next m hi', eqq_cons]
      cases eqq l[i] m[i] <;> rfl) (fun k => by
      rw [hz, List.drop_eq_nil_of_le (Nat.le_refl _), List.drop_eq_nil_of_le (by omega)]; simp [eqq]) 0 (Nat.zero_le _)
  simpa using this
theorem laws_eqCreditS.ok {x : TyTup [.sl .Credit, .sl .Credit]} (hb : bdTup [.sl .Credit, .sl .Credit] x) : laws_eqCreditS.raw x.1 x.2 = some (eqq x.1 x.2) := by
  obtain ⟨l, m⟩ := x
  have hl : l.length ≤ maxLen := hb.1.1
  simp only [laws_eqCreditS.raw]
  by_cases he : l.length = m.length
  · have h1 : ((l.length : Int) != (m.length : Int)) = false := by simp [he]
    simp only [h1, cond_false, joinK]
    refine cmp_loop l m hl he (fun i k hi hi' => ?_) (fun k => by simp)
    have h2 : decide ((i : Int) < (l.length : Int)) = true := by simp; exact hi
    simp only [h2, cond_true, idxI_get hi, idxI_get hi', bind_some']
    cases eqq l[i] m[i] <;> rfl
  · have h1 : ((l.length : Int) != (m.length : Int)) = true := by simp; omega
    have h2 : l ≠ m := by rintro rfl; exact he rfl
    simp [h1, eqq_false.2 h2]

theorem laws_FnExactCreditFor.ok {x : TyTup [.sl .Credit, .v .Addr]} (hb : bdTup [.sl .Credit, .v .Addr] x) : laws_FnExactCreditFor.raw x.1 x.2 = some (always2 x.1 x.2) := by
  obtain ⟨l, a⟩ := x
  have hl : l.length ≤ maxLen := hb.1.1
  unfold maxLen at hl
  simp only [laws_FnExactCreditFor.raw, always2, same]
  cases h : decide (szList l 1048576 < 0)
  · have h0 := of_decide_eq_false h
    have hle : l.length ≤ LIM := by
      unfold szList at h0
      rw [wrap_i64 (by omega) (by omega)] at h0
      have : LIM = 68719476736 := rfl
      split at h0 <;> omega
    have hs : small l = some l := by simp [small, hle]
    simp only [cond_false, hs, bind_some']
    simp [eqq_self]
  · rfl

end Go.D

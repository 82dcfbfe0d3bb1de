/-
  Code: loops, and code as a whole.
-/
import Derived.Test.YtilkenfgjljknaaCode3
import Derived.LoopN
namespace Go.D

section
variable {C : Cx} {w0 : World} {outer own D : Nat → Prop} {R : Type} {st st1 st2 : St} {ρ ρ1 ρ2 : Nat → Option RI} {a a1 a2 : Act} {w w1 w2 : World} {j : JI}

theorem rowOf_enc (t : TN) (x : El t) : ∀ c ∈ enc t x, rowOf c = none := by
  intro c hc
  cases t <;> (simp [enc, encAddr, encOp, encEvent, encJar, encDice, encWin, encEp, encChan, encCand, encPaths, encSess, encTab, encCredit, encServer, encFrame, encTimer, encClient, encWire, encNote, encWorld, encCur, encOut, encForm, encHash] at hc; rcases hc with rfl | hc <;> (repeat (first | rfl | (rcases hc with rfl | hc))))

theorem rowOf_thawL (ow : List Nat) (base : Nat) : ∀ (es : List V) (p r : Nat), (∀ c ∈ es, rowOf c = none) → ∀ c ∈ thawL ow base p es, rowOf c = some r → base ≤ r
  | [], p, r, _, c, hc, _ => by simp [thawL] at hc
  | e :: es, p, r, he, c, hc, h => by
    have ih := rowOf_thawL ow base es (p + 1) r (fun c hc => he c (by simp [hc]))
    have h0 := he e (by simp)
    cases e <;> (simp only [thawL, List.mem_cons] at hc; rcases hc with rfl | hc) <;> first | exact ih c hc h | (rw [h0] at h; cases h) | skip
    cases hb : ow.any (Nat.beq p)
    · simp [hb, rowOf] at h
    · simp [hb, rowOf] at h; omega

/-- What a row of the tuple's install is. -/
def InsRow (sl : Nat → V) (cs : List Comp) (id : Nat) (h : Nat → Option Row) (q : Nat) (row : Row) : Prop :=
  h q = some row ∨ (id ≤ q ∧ ∃ t l, row.c = .arr t l) ∨ (∃ s t ow es, .box s t ow ∈ cs ∧ sl s = .bp q 0 ∧ row = ⟨.box es, .own⟩ ∧ ∀ c ∈ es, ∀ r, rowOf c = some r → id ≤ r)

theorem insH_cases (sl : Nat → V) : ∀ (cs : List Comp) (id : Nat) (x : Tup cs) (h : Nat → Option Row) (q : Nat) (row : Row), insH sl cs id x h q = some row → InsRow sl cs id h q row := by
  have one : ∀ (c : Comp) (id : Nat) (x : c.T) (h : Nat → Option Row) (q : Nat) (row : Row), insH1 sl c id x h q = some row → InsRow sl [c] id h q row := by
    intro c id x h q row hq
    cases c with
    | slot s ty => exact .inl hq
    | own s t =>
      simp only [insH1] at hq
      by_cases hqi : q = id
      · subst hqi; rw [upd_same] at hq; cases hq; exact .inr (.inl ⟨Nat.le_refl _, _, _, rfl⟩)
      · rw [upd_other _ _ _ _ hqi] at hq; exact .inl hq
    | box s t ow =>
      simp only [insH1] at hq
      generalize hs : sl s = v at hq
      cases v with
      | bp r off =>
        cases off with
        | zero =>
          simp only at hq
          by_cases hqr : q = r
          · subst hqr; rw [upd_same] at hq; cases hq
            exact .inr (.inr ⟨s, t, ow, _, by simp, hs, rfl, fun c hc r hr => rowOf_thawL ow id _ 0 r (rowOf_enc t x) c hc hr⟩)
          · rw [upd_other _ _ _ _ hqr, thawH_or] at hq
            split at hq
            · rename_i y hy
              cases hq
              obtain ⟨_, _, he, h1, h2⟩ := thawH_arr _ _ _ _ _ _ hy
              exact .inr (.inl ⟨by omega, _, _, congrArg Row.c he⟩)
            · exact .inl hq
        | succ n => exact .inl hq
      | _ => exact .inl hq
  intro cs
  induction cs with
  | nil => intro id x h q row hq; exact .inl hq
  | cons c cs ih =>
    intro id x h q row hq
    cases cs with
    | nil => exact one c id x h q row hq
    | cons d r =>
      rcases one c id x.1 _ q row hq with h1 | h1 | ⟨s, t, ow, es, h1, h2, h3, h4⟩
      · rcases ih (id + 64) x.2 h q row h1 with h2 | ⟨h2, h3⟩ | ⟨s, t, ow, es, h3, h4, h5, h6⟩
        · exact .inl h2
        · exact .inr (.inl ⟨by omega, h3⟩)
        · exact .inr (.inr ⟨s, t, ow, es, List.mem_cons_of_mem _ h3, h4, h5, fun c hc r hr => by have := h6 c hc r hr; omega⟩)
      · exact .inr (.inl h1)
      · exact .inr (.inr ⟨s, t, ow, es, by simp at h1; simp [h1], h2, h3, h4⟩)

theorem insS_own (f : Nat → V) (s : Nat) (t : TN) : ∀ (cs : List Comp) (id : Nat) (x : Tup cs), slotsNodup cs = true → .own s t ∈ cs → ∃ r, insS cs id x f s = .ow r ∧ id ≤ r := by
  intro cs
  induction cs with
  | nil => intro id x _ h; simp at h
  | cons c cs ih =>
    intro id x hn hm
    have key : ∀ (y : c.T) (g : Nat → V), c = .own s t → ∃ r, insS1 c id y g s = .ow r ∧ id ≤ r := by
      intro y g hc; subst hc; exact ⟨id, upd_same _ _ _, Nat.le_refl _⟩
    rcases List.mem_cons.1 hm with he | hm
    · cases cs with
      | nil => exact key x f he.symm
      | cons d r => exact key x.1 _ he.symm
    · cases cs with
      | nil => simp at hm
      | cons d r =>
        have hn2 : slotsNodup (d :: r) = true ∧ ∀ y g, insS1 c id y g s = g s := by
          have hs : isSlot (d :: r) s = true := by
            clear ih
            generalize d :: r = l at hm
            induction l with
            | nil => simp at hm
            | cons e l ih =>
              rcases List.mem_cons.1 hm with h | h
              · subst h; simp [isSlot]
              · cases e <;> simp [isSlot, ih h]
          cases c with
          | slot s' ty =>
            simp only [slotsNodup, Bool.and_eq_true, Bool.not_eq_true'] at hn
            refine ⟨hn.2, fun y g => upd_other _ _ _ _ ?_⟩
            rintro rfl; rw [hs] at hn; exact absurd hn.1 (by simp)
          | own s' ty =>
            simp only [slotsNodup, Bool.and_eq_true, Bool.not_eq_true'] at hn
            refine ⟨hn.2, fun y g => upd_other _ _ _ _ ?_⟩
            rintro rfl; rw [hs] at hn; exact absurd hn.1 (by simp)
          | box s' ty ow => exact ⟨hn, fun y g => rfl⟩
        obtain ⟨q, h1, h2⟩ := ih (id + 64) x.2 hn2.1 hm
        exact ⟨q, by simp only [insS]; rw [hn2.2]; exact h1, by omega⟩

theorem lock_install_keeps {b : St} {x : Tup j.cs} (hbox : boxSlots j = true) (hn : slotsNodup j.cs = true) (hk : Keeps b.nx b.h (install j b x).h) :
    Keeps b.nx (lockBut j b).h (lockBut j (install j b x)).h := by
  intro q row hq hr hm
  simp only [lockBut] at hr
  split at hr
  · rename_i c hc
    cases hi : inRows j.cs b q
    case true => simp only [hi, cond_true, Option.some.injEq] at hr; subst hr; cases hm
    simp only [hi, cond_false, Option.some.injEq] at hr
    subst hr
    have hboxs : ∀ s t ow, Comp.box s t ow ∈ j.cs → (install j b x).s s = b.s s := fun s t ow hm => install_slots j b x s (by
      have := List.all_eq_true.1 hbox _ hm; simpa using this)
    have hno : ∀ c ∈ j.cs, inRows1 b q c = false := fun c hc => by
      have h0 : (j.cs.any (inRows1 b q)) = false := hi
      cases h1 : inRows1 b q c with
      | false => rfl
      | true => rw [List.any_eq_true.2 ⟨c, hc, h1⟩] at h0; cases h0
    have hnb : ∀ s t ow, Comp.box s t ow ∈ j.cs → b.s s ≠ .bp q 0 := fun s t ow hm h => by
      have := hno _ hm; simp [inRows1, h] at this
    have hrest : restH j b q = some ⟨c, .own⟩ := by simp [restH, hc, hi]
    have h1 : (install j b x).h q = some ⟨c, .own⟩ := by
      obtain ⟨row', h2⟩ := insH_some b.s j.cs b.nx x _ q _ hrest
      rcases insH_cases b.s j.cs b.nx x _ q _ h2 with h3 | ⟨h3, _⟩ | ⟨s, t, ow, es, h3, h4, _⟩
      · rw [hrest] at h3; cases h3; exact h2
      · omega
      · exact absurd h4 (hnb s t ow h3)
    have h2 : inRows j.cs (install j b x) q = false := by
      cases h3 : inRows j.cs (install j b x) q with
      | false => rfl
      | true =>
        exfalso
        obtain ⟨cm, h4, h5⟩ := List.any_eq_true.1 h3
        cases cm with
        | slot s ty => cases h5
        | own s t =>
          obtain ⟨r, h6, h7⟩ := insS_own (fun i => bif inKill j.kill i then .undef else b.s i) s t j.cs b.nx x hn h4
          have h8 : (install j b x).s s = .ow r := h6
          simp only [inRows1, h8, rowOf] at h5
          have := Nat.eq_of_beq_eq_true h5; omega
        | box s t ow =>
          have h6 := hboxs s t ow h4
          simp only [inRows1, h6] at h5
          split at h5
          · rename_i bb hbs
            simp only [Bool.or_eq_true] at h5
            rcases h5 with h5 | h5
            · have := Nat.eq_of_beq_eq_true h5; subst this; exact hnb s t ow h4 hbs
            · split at h5
              · rename_i cs m hcs
                obtain ⟨cc, h7, h8⟩ := List.any_eq_true.1 h5
                split at h8
                · rename_i r' hr'
                  have := Nat.eq_of_beq_eq_true h8; subst this
                  rcases insH_cases b.s j.cs b.nx x _ bb _ hcs with h9 | ⟨_, _, _, h9⟩ | ⟨s', t', ow', es, _, _, h9, h10⟩
                  · have h11 : ∃ m', b.h bb = some ⟨.box cs, m'⟩ := by
                      unfold restH at h9
                      split at h9
                      · rename_i c' hc'
                        cases hi' : inRows j.cs b bb
                        · simp only [hi', cond_false, Option.some.injEq] at h9; cases h9; exact ⟨_, hc'⟩
                        · simp [hi'] at h9
                      · exact ⟨_, h9⟩
                    obtain ⟨m', h11⟩ := h11
                    have h12 := hno _ h4
                    simp only [inRows1, hbs, h11, Bool.or_eq_false_iff] at h12
                    have h13 := List.any_eq_false.1 h12.2 cc h7
                    rw [hr'] at h13
                    exact h13 h8
                  · cases h9
                  · cases h9
                    have := h10 cc h7 _ hr'; omega
                · cases h8
              · cases h5
          · cases h5
    simp only [lockBut, h1, h2, cond_false]
  · have h1 := hk q row hq hr hm
    simp only [lockBut, h1]
    obtain ⟨c, m⟩ := row
    cases m with
    | own => cases hm
    | ro => rfl
    | lock => rfl


/-- What a loop's next round finds. -/
theorem Goes.round {b : St} {x : Tup j.cs} {k : Tup j.cs → Option R} {r : R} (hb : Rel C w0 outer own ρ b a w) (hf : ∀ q, b.nx ≤ q → ρ q = none)
    (h0 : Goes C w0 outer own (fun s => j.has s = true) b ρ (Go.D.install j b x) a1 w1 ρ1)
    (h : Goes C w0 outer own (fun s => j.has s = true) (lockBut j (Go.D.install j b x)) ρ1 st2 a2 w2 ρ2)
    (hbox : boxSlots j = true) (hn : slotsNodup j.cs = true) (he : exK j.cs st2 k = some r) : ∃ y, k y = some r ∧ ∃ ρ3, Goes C w0 outer own (fun s => j.has s = true) b ρ (Go.D.install j b y) a2 w2 ρ3 := by
  have hnx : b.nx ≤ st2.nx := Nat.le_trans h0.nx h.nx
  obtain ⟨y, h1, ρ3, h2, h3, h4, h5⟩ := install_ok (ρ' := ρ2) hb hf h.rel h.fresh hnx (fun q qi hq => h.ext _ _ (h0.ext _ _ hq)) (fun s hs => by
      have hs' : ¬ (j.has s = true) := by simp [hs]
      have e1 := h.slots s hs'
      have e2 := h0.slots s hs'
      exact e1.trans e2)
    ((lock_install_keeps hbox hn h0.keeps).trans (h.keeps.le h0.nx)) hbox he
  refine ⟨y, h1, ρ3, h2, h4, fun s hs => install_slots j b y s (by simpa using hs), h5, ?_, h3⟩
  simp only [Go.D.install]; omega

theorem loop_ok {an : An} {c : Code} {b : St} {K : Ex → St → Option R} {r : R} {Q : Exit → Act → World → Prop} (hb : Rel C w0 outer own ρ b a w) (hf : ∀ q, b.nx ≤ q → ρ q = none)
    (hbox : boxSlots j = true) (hn : slotsNodup j.cs = true)
    (body : ∀ (st : St) (a : Act) (w : World) (ρ : Nat → Option RI) (K : Ex → St → Option R) (Q : Exit → Act → World → Prop), Rel C w0 outer own ρ st a w → (∀ q, st.nx ≤ q → ρ q = none) → runC C an c st K = some r →
      (∀ e st' a' w' ρ', Goes C w0 outer own (fun s => j.has s = true) st ρ st' a' w' ρ' → K e st' = some r → Q (exOf e) a' w') → c.wp C.P Q a w)
    (hpost : ∀ e st' a' w' ρ', Goes C w0 outer own (fun s => j.has s = true) b ρ st' a' w' ρ' → K e st' = some r → Q (exOf e) a' w') :
    ∀ (n : Nat) (x : Tup j.cs) (a1 : Act) (w1 : World) (ρ1 : Nat → Option RI), Goes C w0 outer own (fun s => j.has s = true) b ρ (Go.D.install j b x) a1 w1 ρ1 →
      loopK n (fun (x : Tup j.cs) (k : Tup j.cs → Option R) => runC C an c (lockBut j (Go.D.install j b x)) fun e st' => match e with
                | .normal => exK j.cs st' k
                | e => K e (Go.D.unlock (Go.D.install j b x) st')) x = some r → Code.rounds C.P c Q n a1 w1
  | 0, x, a1, w1, ρ1, h0, h => by simp [loopK] at h
  | n + 1, x, a1, w1, ρ1, h0, h => by
    rw [rounds_succ]
    simp only [loopK] at h
    refine body _ a1 w1 ρ1 _ _ (h0.rel.lock j) h0.fresh h fun e st' a' w' ρ' hg hk => ?_
    cases e with
    | normal =>
      obtain ⟨y, k1, ρ3, k2⟩ := h0.round hb hf hg hbox hn hk
      exact loop_ok hb hf hbox hn body hpost n y a' w' ρ3 k2 k1
    | exit id => exact hpost (.exit id) _ a' w' ρ' (h0.trans hg.unlock) hk
    | ret => exact hpost .ret _ a' w' ρ' (h0.trans hg.unlock) hk

theorem runC_ok (hC : TnOk C) (hΦ : PhiOk C) (an : An) : ∀ (c : Code) (D : Nat → Prop), Touch an D c → ∀ (st : St) (a : Act) (w : World) (ρ : Nat → Option RI) (K : Ex → St → Option R) (r : R) (Q : Exit → Act → World → Prop),
    Rel C w0 outer own ρ st a w → (∀ q, st.nx ≤ q → ρ q = none) → runC C an c st K = some r →
    (∀ e st' a' w' ρ', Goes C w0 outer own D st ρ st' a' w' ρ' → K e st' = some r → Q (exOf e) a' w') → c.wp C.P Q a w := by
  intro c
  induction c with
  | skip =>
    intro D hT st a w ρ K r Q hr hf hrun hpost
    exact wp_skip (hpost .normal st a w ρ (Goes.refl hr hf) hrun)
  | region id ops d =>
    intro D hT st a w ρ K r Q hr hf hrun hpost
    simp only [runC] at hrun
    split at hrun
    · exact runR_ok hC hΦ hT.1 hr hf hrun fun st' a' w' ρ' h1 h2 => hpost .normal st' a' w' ρ' h1 h2
    · rename_i j hj
      split at hrun
      · cases hrun
      rename_i st0 hp
      obtain ⟨p1, p2, p3, p4⟩ := preRo_ok _ _ _ hp hr
      cases hjo : joinOk an j (.region id ops d)
      case false => simp [hjo] at hrun
      simp only [hjo, cond_true, joinK] at hrun
      simp only [joinOk, Bool.and_eq_true] at hjo
      have hw := within_touch an j _ hjo.1.1
      refine runR_ok (D := fun s => j.has s = true) hC hΦ hw.1 (p1.lock j) (by rw [← p3] at hf; exact hf) hrun fun st' a' w' ρ' h1 h2 => ?_
      obtain ⟨x, k1, ρ2, k2⟩ := Goes.install p1 (by rw [← p3] at hf; exact hf) h1 hjo.1.2 h2
      have hD : ∀ s, j.has s = true → D s := by have := hT.2; rw [hj] at this; exact this
      exact hpost .normal _ a' w' ρ2 (Goes.pre hp hr (k2.mono hD)) k1
  | seq x y ihx ihy =>
    intro D hT st a w ρ K r Q hr hf hrun hpost
    simp only [runC] at hrun
    refine wp_seq (ihx D hT.1 st a w ρ _ r _ hr hf hrun fun e st' a' w' ρ' h1 h2 => ?_)
    cases e with
    | normal => exact ihy D hT.2 st' a' w' ρ' _ r _ h1.rel h1.fresh h2 fun e st2 a2 w2 ρ2 h3 h4 => hpost e st2 a2 w2 ρ2 (h1.trans h3) h4
    | exit id => exact hpost (.exit id) st' a' w' ρ' h1 h2
    | ret => exact hpost .ret st' a' w' ρ' h1 h2
  | cond c x y ihx ihy =>
    intro D hT st a w ρ K r Q hr hf hrun hpost
    cases c with
    | tmp t =>
      simp only [runC] at hrun
      split at hrun
      case h_2 => cases hrun
      rename_i b hb
      have hv := hr.slots t
      rw [hb] at hv
      have hc : a.eval (.tmp t) = .bool b := by
        show a.tmps.getD t undef = _
        generalize a.tmps.getD t undef = v at hv; cases hv; rfl
      refine wp_cond hc ?_
      split at hrun
      · cases b with
        | true => exact ihx D hT.1 st a w ρ K r Q hr hf hrun hpost
        | false => exact ihy D hT.2.1 st a w ρ K r Q hr hf hrun hpost
      · rename_i j hj
        split at hrun
        · cases hrun
        rename_i st0 hp
        obtain ⟨p1, p2, p3, p4⟩ := preRo_ok _ _ _ hp hr
        cases hjo : joinOk an j x && joinOk an j y
        case false => simp [hjo] at hrun
        simp only [hjo, cond_true, joinK] at hrun
        simp only [joinOk, Bool.and_eq_true] at hjo
        have hD : ∀ s, j.has s = true → D s := by have := hT.2.2; rw [hj] at this; exact this
        have hf0 : ∀ q, st0.nx ≤ q → ρ q = none := by rw [← p3] at hf; exact hf
        have fin : ∀ (e : Ex) (st' : St) (a' : Act) (w' : World) (ρ' : Nat → Option RI), Goes C w0 outer own (fun s => j.has s = true) (lockBut j st0) ρ st' a' w' ρ' →
            (match e with
              | .normal => exK j.cs st' fun y => K .normal (Go.D.install j st0 y)
              | e => K e (Go.D.unlock st0 st')) = some r → Q (exOf e) a' w' := by
          intro e st' a' w' ρ' h1 h2
          cases e with
          | normal =>
            obtain ⟨x, k1, ρ2, k2⟩ := Goes.install p1 hf0 h1 hjo.1.1.2 h2
            exact hpost .normal _ a' w' ρ2 (Goes.pre hp hr (k2.mono hD)) k1
          | exit id => exact hpost (.exit id) _ a' w' ρ' (Goes.pre hp hr (h1.unlock.mono hD)) h2
          | ret => exact hpost .ret _ a' w' ρ' (Goes.pre hp hr (h1.unlock.mono hD)) h2
        cases b with
        | true => exact ihx _ (within_touch an j _ hjo.1.1.1) (lockBut j st0) a w ρ _ r Q (p1.lock j) hf0 hrun fin
        | false => exact ihy _ (within_touch an j _ hjo.2.1.1) (lockBut j st0) a w ρ _ r Q (p1.lock j) hf0 hrun fin
    | _ => simp [runC] at hrun
  | block id x ih =>
    intro D hT st a w ρ K r Q hr hf hrun hpost
    refine wp_block ?_
    simp only [runC] at hrun
    split at hrun
    · refine ih D hT.1 st a w ρ _ r _ hr hf hrun fun e st' a' w' ρ' h1 h2 => ?_
      cases e with
      | normal => exact hpost .normal st' a' w' ρ' h1 h2
      | ret => exact hpost .ret st' a' w' ρ' h1 h2
      | exit id' =>
        simp only [exOf, Exit.inBlock]
        simp only at h2
        cases hb : Nat.beq id' id
        · have hne : ¬ id' = id := fun e => by subst e; simp at hb
          rw [if_neg hne]; rw [hb] at h2; exact hpost (.exit id') st' a' w' ρ' h1 h2
        · have hne := Nat.eq_of_beq_eq_true hb
          rw [if_pos hne]; rw [hb] at h2; exact hpost .normal st' a' w' ρ' h1 h2
    · rename_i j hj
      split at hrun
      · cases hrun
      rename_i st0 hp
      obtain ⟨p1, p2, p3, p4⟩ := preRo_ok _ _ _ hp hr
      cases hjo : joinOk an j x
      case false => simp [hjo] at hrun
      simp only [hjo, cond_true, joinK] at hrun
      simp only [joinOk, Bool.and_eq_true] at hjo
      have hD : ∀ s, j.has s = true → D s := by have := hT.2; rw [hj] at this; exact this
      have hf0 : ∀ q, st0.nx ≤ q → ρ q = none := by rw [← p3] at hf; exact hf
      refine ih _ (within_touch an j _ hjo.1.1) (lockBut j st0) a w ρ _ r _ (p1.lock j) hf0 hrun fun e st' a' w' ρ' h1 h2 => ?_
      cases e with
      | normal =>
        obtain ⟨x, k1, ρ2, k2⟩ := Goes.install p1 hf0 h1 hjo.1.2 h2
        exact hpost .normal _ a' w' ρ2 (Goes.pre hp hr (k2.mono hD)) k1
      | ret => exact hpost .ret _ a' w' ρ' (Goes.pre hp hr (h1.unlock.mono hD)) h2
      | exit id' =>
        simp only [exOf, Exit.inBlock]
        simp only at h2
        cases hb : Nat.beq id' id
        · have hne : ¬ id' = id := fun e => by subst e; simp at hb
          rw [if_neg hne]; rw [hb] at h2; exact hpost (.exit id') _ a' w' ρ' (Goes.pre hp hr (h1.unlock.mono hD)) h2
        · have hne := Nat.eq_of_beq_eq_true hb
          rw [if_pos hne]; rw [hb] at h2
          obtain ⟨x, k1, ρ2, k2⟩ := Goes.install p1 hf0 h1 hjo.1.2 h2
          exact hpost .normal _ a' w' ρ2 (Goes.pre hp hr (k2.mono hD)) k1
  | loop x ih =>
    intro D hT st a w ρ K r Q hr hf hrun hpost
    simp only [runC] at hrun
    split at hrun
    · cases hrun
    rename_i rid hrid
    split at hrun
    · cases hrun
    rename_i j hj
    split at hrun
    · cases hrun
    rename_i st0 hp
    obtain ⟨p1, p2, p3, p4⟩ := preRo_ok _ _ _ hp hr
    cases hjo : joinOk an j x
    case false => simp [hjo] at hrun
    simp only [hjo, cond_true] at hrun
    simp only [joinOk, Bool.and_eq_true] at hjo
    have hD : ∀ s, j.has s = true → D s := by have := hT.2; simp only [hrid, hj] at this; exact this
    have hf0 : ∀ q, st0.nx ≤ q → ρ q = none := by rw [← p3] at hf; exact hf
    obtain ⟨x0, h1, ρ2, h2, h3, h4, h5⟩ := install_ok (b := st0) (st' := lockBut j st0) p1 hf0 (p1.lock j) hf0 (Nat.le_refl _) (fun _ _ h => h) (fun _ _ => rfl) (Keeps.refl _ _) hjo.1.2 hrun
    refine wp_loop_rounds FU (loop_ok (j := j) p1 hf0 hjo.1.2 hjo.2 (fun st a w ρ K Q hr hf hrun hpost => ih _ (within_touch an j _ hjo.1.1) st a w ρ K r Q hr hf hrun hpost)
        (fun e st' a' w' ρ' hg hk => hpost e st' a' w' ρ' (Goes.pre hp hr (hg.mono hD)) hk) FU x0 a w ρ2 ⟨h2, h4, fun s hs => install_slots j st0 x0 s (by simpa using hs), h5, ?_, h3⟩ h1)
    simp only [Go.D.install]; omega
  | exit id =>
    intro D hT st a w ρ K r Q hr hf hrun hpost
    exact wp_exit (hpost (.exit id) st a w ρ (Goes.refl hr hf) hrun)
  | ret =>
    intro D hT st a w ρ K r Q hr hf hrun hpost
    exact wp_ret (hpost .ret st a w ρ (Goes.refl hr hf) hrun)
  | _ =>
    intro D hT st a w ρ K r Q hr hf hrun hpost
    simp [runC] at hrun

end
end Go.D

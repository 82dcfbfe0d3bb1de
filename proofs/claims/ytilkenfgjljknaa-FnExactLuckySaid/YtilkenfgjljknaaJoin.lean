/-
  What is said by a tuple where branches meet: it is taken out of the state, and laid anew.
-/
import Derived.Test.YtilkenfgjljknaaEval
namespace Go.D

section
variable {C : Cx} {w0 : World} {outer own : Nat → Prop} {ρ : Nat → Option RI} {st st' : St} {a : Act} {w : World} {R : Type}

theorem takeLeaves_len (ow : List Nat) : ∀ (cs : List V) (p : Nat) (h : Nat → Option Row) (x : List V × (Nat → Option Row)), takeLeaves ow p cs h = some x → x.1.length = cs.length
  | [], p, h, x, ht => by simp [takeLeaves] at ht; subst ht; rfl
  | c :: cs, p, h, x, ht => by
    simp only [takeLeaves] at ht
    cases hb : ow.any (Nat.beq p)
    · simp only [hb, cond_false] at ht
      split at ht
      case h_2 => cases ht
      split at ht
      case h_2 => cases ht
      rename_i hr
      have k := takeLeaves_len ow cs (p + 1) _ _ hr
      cases ht
      simpa using k
    · simp only [hb, cond_true] at ht
      split at ht
      · split at ht
        case h_2 => cases ht
        split at ht
        case h_2 => cases ht
        rename_i hr
        have k := takeLeaves_len ow cs (p + 1) _ _ hr
        cases ht
        simpa using k
      · split at ht
        case h_2 => cases ht
        rename_i hr
        have k := takeLeaves_len ow cs (p + 1) _ _ hr
        cases ht
        simpa using k
      · cases ht

def CompOk (w : World) (ρ : Nat → Option RI) (bad : Nat → Prop) (g : Nat → Option Row) (tv : Nat → Value) (sl : Nat → V) : (c : Comp) → Nat → c.T → Prop
  | .slot s ty, _, x => VR w ρ bad (tv s) (encTy ty x) ∧ NoRef (encTy ty x)
  | .own s t, id, x => VR w ρ bad (tv s) (.ow id) ∧ g id = some ⟨.arr t x, .own⟩
  | .box s t ow, id, x => ∃ r, sl s = .bp r 0 ∧ g r = some ⟨.box (thawL ow id 0 (enc t x)), .own⟩ ∧ ∀ q, q < 64 → g (id + q) = thawH ow id (fun _ => none) 0 (enc t x) (id + q)

theorem sub1 {v : V} {ds : List V} (h : Subs [v] ds) : ∃ d, ds = [d] ∧ Sub v d := by
  cases h with
  | cons h1 h2 => cases h2; exact ⟨_, rfl, h1⟩

theorem decTy_ok (ty : Ty) (v : V) (x : ty.T) {bad : Nat → Prop} {u : Value} (hd : decTy ty v = some x) (hv : VR w ρ bad u v) : VR w ρ bad u (encTy ty x) := by
  cases ty with
  | v t =>
    simp only [decTy] at hd
    split at hd
    · rename_i cs
      cases hag : t.isAgg
      case false => simp [hag] at hd
      simp only [hag, cond_true] at hd
      have hs := dec_sub t hd
      simp only [encTy, encV, hag, cond_true]
      cases hv with
      | agg _ vs h1 h2 =>
      refine .agg _ _ (by rw [h1]; exact hs.len) fun j hj => VR.sub (hs.get j (by rw [hs.len]; exact hj) hj) (h2 j (by rw [hs.len]; exact hj))
    · cases hag : t.isAgg
      case true => simp [hag] at hd
      simp only [hag, cond_false] at hd
      obtain ⟨d, h1, h2⟩ := sub1 (dec_sub t hd)
      simp only [encTy, encV, hag, cond_false, h1]
      exact VR.sub h2 hv
  | sl t => exact VR.sub (asL_sub hd) hv
  | raw => simp only [decTy, Option.some.injEq] at hd; subst hd; exact hv
  | cells t =>
    simp only [decTy] at hd
    split at hd
    · have hs := dec_sub t hd
      simp only [encTy]
      cases hv with
      | agg _ vs h1 h2 =>
      exact .agg _ _ (by rw [h1]; exact hs.len) fun j hj => VR.sub (hs.get j (by rw [hs.len]; exact hj) hj) (h2 j (by rw [hs.len]; exact hj))
    · cases hd

theorem noRef_encTy (ty : Ty) (v : V) (x : ty.T) (hd : decTy ty v = some x) (hv : NoRef v) : NoRef (encTy ty x) := by
  cases ty with
  | v t =>
    intro S
    simp only [encTy, encV]
    cases hag : t.isAgg
    · simp only [cond_false]
      split
      · rename_i c r he
        have := rin_enc S t x 0
        rw [he] at this; exact this
      · exact .undef
    · refine .agg _ fun j hj => ?_
      have := rin_enc S t x j
      rw [List.getD_eq_getElem?_getD, List.getElem?_eq_getElem hj] at this; exact this
  | sl t => exact noRef_sl _ _
  | raw => simp only [decTy, Option.some.injEq] at hd; subst hd; exact hv
  | cells t =>
    intro S
    simp only [encTy]
    refine .agg _ fun j hj => ?_
    have := rin_enc S t x j
    rw [List.getD_eq_getElem?_getD, List.getElem?_eq_getElem hj] at this; exact this

structure Ex1 (w0 : World) (outer own : Nat → Prop) (w : World) (tv : Nat → Value) (c : Comp) (id : Nat) (ρ : Nat → Option RI) (g : Nat → Option Row) (st1 : St) (x : c.T) (st2 : St) (ρ' : Nat → Option RI) (g' : Nat → Option Row) : Prop where
  slots : st2.s = st1.s
  heap : HRel w0 outer own ρ' g' w
  lies : Lies st2.h g'
  less : ∀ q, st1.h q = none → st2.h q = none
  left : ∀ n, Keeps n st1.h st2.h
  out : ∀ q, Out id 64 q → ρ' q = ρ q ∧ (st1.h q = none → g' q = g q)
  ext : ∀ q qi, ρ q = some qi → ρ' q = some qi
  keep : ∀ u d, VR w ρ (Bad outer ρ g) u d → VR w ρ' (Bad outer ρ' g') u d
  ok : CompOk w ρ' (Bad outer ρ' g') g' tv st1.s c id x
  gone : ∀ s t ow r, c = .box s t ow → st1.s s = .bp r 0 → st2.h r = none ∧ Out id 64 r

theorem ex1_ok {tv : Nat → Value} (c : Comp) (id : Nat) (st1 : St) (k : c.T → St → Option R) {r : R} {g : Nat → Option Row} (he : ex1 c st1 k = some r) (hh : HRel w0 outer own ρ g w) (hl : Lies st1.h g)
    (hv : ∀ s, VR w ρ (Bad outer ρ g) (tv s) (st1.s s)) (hρ : ∀ q, q < 64 → ρ (id + q) = none) (hn : ∀ q, q < 64 → st1.h (id + q) = none) :
    ∃ x st2 ρ' g', k x st2 = some r ∧ Ex1 w0 outer own w tv c id ρ g st1 x st2 ρ' g' := by
  have hin : ∀ q row, st1.h q = some row → Out id 64 q := fun q row hq h3 => by
    have := hn (q - id) (by omega)
    rw [show id + (q - id) = q by omega, hq] at this; cases this
  have h0 : ρ id = none := hρ 0 (by omega)
  have hn0 : st1.h id = none := hn 0 (by omega)
  cases c with
  | slot s ty =>
    simp only [ex1] at he
    split at he
    case h_2 => cases he
    rename_i v ids hfz
    obtain ⟨x, hx, he⟩ := Option.bind_eq_some_iff.1 he
    obtain ⟨k1, k2⟩ := frz_lies hl hfz
    have k2 : ∀ r ∈ ids, ∃ row, st1.h r = some row := k2
    obtain ⟨m1, m2⟩ := hh.mark ids
    obtain ⟨f1, f2⟩ := frz_ok hh (hv s) k1
    have hnn : ∀ r, st1.h r = none → r ∉ ids := fun r hn hm => by obtain ⟨row, h5⟩ := k2 r hm; rw [hn] at h5; cases h5
    exact ⟨x, _, ρ, markRo g ids, he, rfl, m1, lies_mark hl ids, fun q hq => by show markRo st1.h ids q = none; rw [markRo_get, if_neg (hnn q hq)]; exact hq, fun n => keeps_mark _ (frz_noLock hfz),
      fun q _ => ⟨rfl, fun hq => by rw [markRo_get, if_neg (hnn q hq)]⟩, fun _ _ h => h, m2, ⟨decTy_ok ty v x hx f1, noRef_encTy ty v x hx f2⟩, fun s t ow r h => by cases h⟩
  | own s t =>
    simp only [ex1] at he
    split at he
    case h_2 => cases he
    rename_i l ro htk
    have htk0 := htk
    have hvs := hv s
    -- a row that has moved
    have moved : ∀ (q : Nat) (m : Mode) (l0 : List (El t)) (ri' : RI), ro = some q → st1.h q = some ⟨.arr t l0, .own⟩ → HRel w0 outer own (upd ρ id (some ri')) (upd (upd g q none) id (some ⟨.arr t l, .own⟩)) w →
        (∀ u d, VR w ρ (Bad outer ρ g) u d → VR w (upd ρ id (some ri')) (Bad outer (upd ρ id (some ri')) (upd (upd g q none) id (some ⟨.arr t l, .own⟩))) u d) →
        VR w (upd ρ id (some ri')) (Bad outer (upd ρ id (some ri')) (upd (upd g q none) id (some ⟨.arr t l, .own⟩))) (tv s) (.ow id) →
        ∃ x st2 ρ' g', k x st2 = some r ∧ Ex1 w0 outer own w tv (.own s t) id ρ g st1 x st2 ρ' g' := by
      rintro q m l0 ri' rfl hq n1 n2 n3
      have hqo := hin q _ hq
      refine ⟨l, _, _, _, he, rfl, n1, fun p row hp => ?_, fun p hp => ?_, fun n => keeps_kill htk0, fun p hp => ⟨upd_other _ _ _ _ ?_, fun hpn => ?_⟩, fun p pi hp => ?_, n2, ⟨n3, upd_same _ _ _⟩, fun s t ow r h => by cases h⟩
      · have hp : upd st1.h q none p = some row := hp
        by_cases hpq : p = q
        · subst hpq; rw [upd_same] at hp; cases hp
        · rw [upd_other _ _ _ _ hpq] at hp
          rw [upd_other _ _ _ _ (by rintro rfl; rw [hn0] at hp; cases hp), upd_other _ _ _ _ hpq]; exact hl _ _ hp
      · show upd st1.h q none p = none
        by_cases hpq : p = q
        · subst hpq; exact upd_same _ _ _
        · rw [upd_other _ _ _ _ hpq]; exact hp
      · rintro rfl; exact hp ⟨Nat.le_refl _, by omega⟩
      · rw [upd_other _ _ _ _ (by rintro rfl; exact hp ⟨Nat.le_refl _, by omega⟩), upd_other]
        rintro rfl; rw [hq] at hpn; cases hpn
      · rw [upd_other]; exact hp
        rintro rfl; rw [h0] at hp; cases hp
    unfold takenOf at htk
    split at htk
    · rename_i hop
      simp only [Option.some.injEq, Prod.mk.injEq] at htk
      obtain ⟨rfl, rfl⟩ := htk
      rw [hop] at hvs
      have hvn : tv s = .slice none 0 0 := by generalize tv s = x at hvs; cases hvs; rfl
      obtain ⟨n1, n2⟩ := hh.empty t h0
      refine ⟨[], _, _, _, he, rfl, n1, fun p row hp => ?_, fun p hp => hp, fun n => Keeps.refl n _, fun p hp => ⟨upd_other _ _ _ _ ?_, fun hpn => upd_other _ _ _ _ ?_⟩, fun p pi hp => ?_, n2, ⟨?_, upd_same _ _ _⟩, fun s t ow r h => by cases h⟩
      · have hp : st1.h p = some row := hp
        rw [upd_other _ _ _ _ (by rintro rfl; rw [hn0] at hp; cases hp)]; exact hl _ _ hp
      · rintro rfl; exact hp ⟨Nat.le_refl _, by omega⟩
      · rintro rfl; exact hp ⟨Nat.le_refl _, by omega⟩
      · rw [upd_other]; exact hp
        rintro rfl; rw [h0] at hp; cases hp
      · rw [hvn]; exact .owN _ ⟨0, 0, 0, true⟩ none (upd_same _ _ _) rfl rfl
    · rename_i q hop
      split at htk
      case h_2 => cases htk
      rename_i t' l1 hrow
      split at htk
      case isFalse => cases htk
      rename_i e1
      subst e1
      simp only [cast_rfl, Option.some.injEq, Prod.mk.injEq] at htk
      obtain ⟨rfl, rfl⟩ := htk
      rw [hop] at hvs
      obtain ⟨ri, hρq, _⟩ := hh.rows q _ (hl _ _ hrow)
      obtain ⟨n1, n2⟩ := hh.rename (hl _ _ hrow) hρq h0
      refine moved q .own l1 ri rfl hrow n1 n2 ?_
      rcases hvs.ow_inv hρq with ⟨e1, e2, e3, e4⟩ | ⟨ao, e1, e2, e3⟩
      · rw [e1]; exact .ow _ ri (upd_same _ _ _) e3 e4 e2
      · rw [e1]; exact .owN _ ri ao (upd_same _ _ _) e3 e2
    · rename_i q t0 len hop
      split at htk
      case h_2 => cases htk
      rename_i t' l1 hrow
      split at htk
      case isFalse => cases htk
      rename_i e1
      subst e1
      simp only [cast_rfl, Option.some.injEq, Prod.mk.injEq] at htk
      obtain ⟨rfl, rfl⟩ := htk
      rw [hop] at hvs
      obtain ⟨ri, hρq, hro, _⟩ := hh.rows q _ (hl _ _ hrow)
      have hn1 : ri.n = l1.length := hro.1
      obtain ⟨ao, cap, h1, h2, h3, h4, h5⟩ := hvs.ov_inv hρq
      rcases h3 with ⟨rfl, rfl⟩ | ⟨rfl, hnl, hc⟩
      · -- nothing of it
        obtain ⟨k1, k2⟩ := hh.less (less_kill g q)
        obtain ⟨n1, n2⟩ := k1.empty t' h0
        rw [List.take_zero] at he moved
        refine moved q .own l1 ⟨0, 0, 0, true⟩ rfl hrow n1 (fun u d hu => n2 _ _ (k2 _ _ hu)) ?_
        rw [h1]; exact .owN _ ⟨0, 0, 0, true⟩ ao (upd_same _ _ _) rfl rfl
      · rw [Nat.zero_mul] at h1
        rcases hro.2 with h6 | ⟨_, c1, c2, c3, c4⟩
        · rw [hnl] at h6; cases h6.1
        obtain ⟨n1, n2⟩ := hh.move (hl _ _ hrow) hρq hnl h0 (ri' := ⟨ri.b, len, cap, false⟩) rfl rfl w (Wx.refl _) rfl (fun _ _ => rfl) (.arr t' (l1.take len)) fun bad hk2 => by
          refine ⟨by simp; omega, .inr ⟨rfl, h4, h5, fun j hj => c3 j ?_, fun i hi j hj => ?_⟩⟩
          · have : cap * sz t' ≤ ri.cap * sz t' := Nat.mul_le_mul_right _ (by omega)
            have hj : j < cap * sz t' := hj
            omega
          · obtain ⟨u, f1, f2⟩ := c4 i (by simp at hi; omega) j hj
            refine ⟨u, f1, ?_⟩
            rw [List.getElem_take]; exact hk2 _ _ f2
        refine moved q .own l1 _ rfl hrow n1 n2 ?_
        rw [h1]; exact .ow _ ⟨ri.b, len, cap, false⟩ (upd_same _ _ _) h4 h5 rfl
    · cases htk
  | box s t ow =>
    simp only [ex1] at he
    split at he
    case h_2 => cases he
    rename_i q hop
    split at he
    case h_2 => cases he
    rename_i cs hrow
    split at he
    case h_2 => cases he
    rename_i cs' h' htl
    obtain ⟨x, hx, he⟩ := Option.bind_eq_some_iff.1 he
    have hs := dec_sub t hx
    have hqo := hin q _ hrow
    have hgq := hl _ _ hrow
    obtain ⟨ri, hρq, hro, _⟩ := hh.rows q _ hgq
    have hlen : cs.length ≤ 64 := by
      have h1 := takeLeaves_len _ _ _ _ _ htl
      have h2 := hs.len
      rw [enc_length] at h2
      have := sz_le t
      simp only at h1
      omega
    have hless : ∀ p, st1.h p = none → upd st1.h q none p = none := fun p hp => by
      by_cases hpq : p = q
      · subst hpq; exact upd_same _ _ _
      · rw [upd_other _ _ _ _ hpq]; exact hp
    obtain ⟨ρ1, g1, T, hl2⟩ := take_thaw ow id 64 cs 0 (upd st1.h q none) h' cs' (enc t x) ρ g (fun j => (w.cell? (at_ ri.b j)).getD undef) htl hs (by omega) hh
      (fun j hj => by obtain ⟨_, y, f1, f2⟩ := hro.2 j hj; rw [f1]; exact f2)
      (fun p row hp => by
        by_cases hpq : p = q
        · subst hpq; rw [upd_same] at hp; cases hp
        · rw [upd_other _ _ _ _ hpq] at hp; exact hl _ _ hp)
      (fun p hp => hless _ (hn p hp)) (fun p _ hp => hρ p hp)
    have hg1q : g1 q = some ⟨.box cs, .own⟩ := by rw [(T.out q hqo).2 (upd_same _ _ _)]; exact hgq
    have hρ1 : ρ1 q = some ri := T.ext _ _ hρq
    obtain ⟨n1, n2⟩ := T.heap.reread hg1q (es := thawL ow id 0 (enc t x)) (by rw [thawL_len]; exact hl2) (fun ri' h3 j hj => by rw [hρ1] at h3; cases h3; exact T.vals j hj)
    have hh'q : h' q = none := T.less q (upd_same _ _ _)
    refine ⟨x, _, _, _, he, rfl, n1, fun p row hp => ?_, fun p hp => T.less p (hless p hp), fun n => (keeps_upd (Keeps.refl n _) _ none (.inr ⟨_, hrow, rfl⟩)).trans (takeLeaves_keeps (fun r => r < n) _ _ _ _ _ htl), fun p hp => ⟨(T.out p hp).1, fun hpn => ?_⟩, T.ext, fun u d hu => n2 _ _ (T.keep _ _ hu),
      ⟨q, hop, upd_same _ _ _, fun p hp => ?_⟩, fun s' t' ow' r' h1 h2 => ?_⟩
    · have hp : h' p = some row := hp
      rw [upd_other _ _ _ _ (by rintro rfl; rw [hh'q] at hp; cases hp)]; exact T.lies _ _ hp
    · rw [upd_other _ _ _ _ (by rintro rfl; rw [hrow] at hpn; cases hpn), (T.out p hp).2 (hless p hpn)]
    · rw [upd_other _ _ _ _ (by rintro rfl; exact hqo ⟨by omega, by omega⟩)]; exact T.new p (by omega) hp
    · cases h1; rw [hop] at h2; cases h2; exact ⟨hh'q, hqo⟩

def CompsOk (w : World) (ρ : Nat → Option RI) (bad : Nat → Prop) (g : Nat → Option Row) (tv : Nat → Value) (sl : Nat → V) : (cs : List Comp) → Nat → Tup cs → Prop
  | [], _, _ => True
  | [c], id, x => CompOk w ρ bad g tv sl c id x
  | c :: d :: r, id, x => CompOk w ρ bad g tv sl c id x.1 ∧ CompsOk w ρ bad g tv sl (d :: r) (id + 64) x.2

theorem CompOk.later {tv : Nat → Value} {sl : Nat → V} {c : Comp} {id : Nat} {x : c.T} {ρ ρ' : Nat → Option RI} {bad bad' : Nat → Prop} {g g' : Nat → Option Row} (h : CompOk w ρ bad g tv sl c id x)
    (hk : ∀ u d, VR w ρ bad u d → VR w ρ' bad' u d) (hg : ∀ q, q < 64 → g' (id + q) = g (id + q)) (hb : ∀ s t ow r, c = .box s t ow → sl s = .bp r 0 → g' r = g r) : CompOk w ρ' bad' g' tv sl c id x := by
  cases c with
  | slot s ty => exact ⟨hk _ _ h.1, h.2⟩
  | own s t => exact ⟨hk _ _ h.1, by rw [show id = id + 0 from rfl, hg 0 (by omega)]; exact h.2⟩
  | box s t ow =>
    obtain ⟨r, h1, h2, h3⟩ := h
    exact ⟨r, h1, by rw [hb s t ow r rfl h1]; exact h2, fun q hq => by rw [hg q hq]; exact h3 q hq⟩

structure ExA (w0 : World) (outer own : Nat → Prop) (w : World) (tv : Nat → Value) (cs : List Comp) (id : Nat) (ρ : Nat → Option RI) (g : Nat → Option Row) (st1 : St) (x : Tup cs) (hn : Nat → Option Row) (ρ' : Nat → Option RI) (g' : Nat → Option Row) : Prop where
  heap : HRel w0 outer own ρ' g' w
  lies : Lies hn g'
  left : ∀ n, Keeps n st1.h hn
  out : ∀ q, q < id → ρ' q = ρ q ∧ (st1.h q = none → g' q = g q)
  fresh : ∀ q, id + 64 * cs.length ≤ q → ρ' q = none
  ext : ∀ q qi, ρ q = some qi → ρ' q = some qi
  keep : ∀ u d, VR w ρ (Bad outer ρ g) u d → VR w ρ' (Bad outer ρ' g') u d
  ok : CompsOk w ρ' (Bad outer ρ' g') g' tv st1.s cs id x

theorem exK_ok {tv : Nat → Value} : ∀ (cs : List Comp) (id : Nat) (st1 : St) (k : Tup cs → Option R) (r : R) (ρ : Nat → Option RI) (g : Nat → Option Row), exK cs st1 k = some r → HRel w0 outer own ρ g w → Lies st1.h g →
    (∀ s, VR w ρ (Bad outer ρ g) (tv s) (st1.s s)) → (∀ q, id ≤ q → ρ q = none) → (∀ q, id ≤ q → st1.h q = none) → ∃ x hn ρ' g', k x = some r ∧ ExA w0 outer own w tv cs id ρ g st1 x hn ρ' g'
  | [], id, st1, k, r, ρ, g, he, hh, hl, hv, hρ, hn => ⟨(), st1.h, ρ, g, he, hh, hl, fun n => Keeps.refl n _, fun q _ => ⟨rfl, fun _ => rfl⟩, fun q hq => hρ q (by simpa using hq), fun _ _ h => h, fun _ _ h => h, trivial⟩
  | [c], id, st1, k, r, ρ, g, he, hh, hl, hv, hρ, hn => by
    simp only [exK] at he
    obtain ⟨x, st2, ρ', g', h1, E⟩ := ex1_ok c id st1 _ he hh hl hv (fun q hq => hρ _ (by omega)) (fun q hq => hn _ (by omega))
    refine ⟨x, st2.h, ρ', g', h1, E.heap, E.lies, E.left, fun q hq => E.out q (fun h => by omega), fun q hq => ?_, E.ext, E.keep, E.ok⟩
    simp at hq
    rw [(E.out q (fun h => by omega)).1]; exact hρ q (by omega)
  | c :: d :: cs, id, st1, k, r, ρ, g, he, hh, hl, hv, hρ, hn => by
    simp only [exK] at he
    obtain ⟨x, st2, ρ1, g1, h1, E⟩ := ex1_ok c id st1 _ he hh hl hv (fun q hq => hρ _ (by omega)) (fun q hq => hn _ (by omega))
    obtain ⟨y, hn', ρ', g', h2, F⟩ := exK_ok (d :: cs) (id + 64) st2 _ r ρ1 g1 h1 E.heap E.lies (fun s => by rw [E.slots]; exact E.keep _ _ (hv s))
      (fun q hq => by rw [(E.out q (fun h => by omega)).1]; exact hρ q (by omega)) (fun q hq => E.less q (hn q (by omega)))
    refine ⟨(x, y), hn', ρ', g', h2, F.heap, F.lies, fun n => (E.left n).trans (F.left n), fun q hq => ?_, fun q hq => ?_, fun q qi hq => F.ext _ _ (E.ext _ _ hq), fun u d hu => F.keep _ _ (E.keep _ _ hu), ?_, by rw [← E.slots]; exact F.ok⟩
    · have ho : Out id 64 q := fun h => by omega
      exact ⟨((F.out q (by omega)).1).trans (E.out q ho).1, fun hq0 => ((F.out q (by omega)).2 (E.less q hq0)).trans ((E.out q ho).2 hq0)⟩
    · exact F.fresh q (by simp at hq ⊢; omega)
    · refine E.ok.later F.keep (fun q hq => (F.out (id + q) (by omega)).2 (E.less _ (hn _ (by omega)))) fun s t ow r h3 h4 => ?_
      obtain ⟨h5, h6⟩ := E.gone s t ow r h3 h4
      have hrlt : r < id := by
        rcases Nat.lt_or_ge r id with h7 | h7
        · exact h7
        · obtain ⟨ri, h8, _⟩ := (show VR w ρ (Bad outer ρ g) (tv s) (.bp r 0) by rw [← h4]; exact hv s).bp_inv
          rw [hρ r h7] at h8; cases h8
      exact (F.out r (by omega)).2 h5

/-- The rows of the tuple's parts, and those that stayed. -/
theorem insH_row {tv : Nat → Value} {sl : Nat → V} {ρ2 : Nat → Option RI} {bad2 : Nat → Prop} {g2 : Nat → Option Row} : ∀ (cs : List Comp) (M id : Nat) (x : Tup cs) (h : Nat → Option Row) (q : Nat) (row : Row),
    CompsOk w ρ2 bad2 g2 tv sl cs M x → insH sl cs id x h q = some row →
    h q = some row ∨ (id ≤ q ∧ q < id + 64 * cs.length ∧ (∃ t l, row = ⟨.arr t l, .own⟩) ∧ g2 (M + (q - id)) = some row) ∨
      (∃ o ow es s, row = ⟨.box (thawL ow (id + o) 0 es), .own⟩ ∧ g2 q = some ⟨.box (thawL ow (M + o) 0 es), .own⟩ ∧ o + 64 ≤ 64 * cs.length ∧ (∀ j (hj : j < es.length), NoRef es[j]) ∧ es.length ≤ 64 ∧ sl s = .bp q 0) := by
  have one : ∀ (c : Comp) (M id : Nat) (x : c.T) (h : Nat → Option Row) (q : Nat) (row : Row), CompOk w ρ2 bad2 g2 tv sl c M x → insH1 sl c id x h q = some row →
      h q = some row ∨ (id ≤ q ∧ q < id + 64 ∧ (∃ t l, row = ⟨.arr t l, .own⟩) ∧ g2 (M + (q - id)) = some row) ∨
      (∃ ow es s, row = ⟨.box (thawL ow id 0 es), .own⟩ ∧ g2 q = some ⟨.box (thawL ow M 0 es), .own⟩ ∧ (∀ j (hj : j < es.length), NoRef es[j]) ∧ es.length ≤ 64 ∧ sl s = .bp q 0) := by
    intro c M id x h q row hc hi
    cases c with
    | slot s ty => exact .inl hi
    | own s t =>
      simp only [insH1] at hi
      by_cases hq : q = id
      · subst hq; rw [upd_same] at hi; cases hi
        exact .inr (.inl ⟨Nat.le_refl _, by omega, ⟨_, _, rfl⟩, by rw [Nat.sub_self]; exact hc.2⟩)
      · rw [upd_other _ _ _ _ hq] at hi; exact .inl hi
    | box s t ow =>
      obtain ⟨r, h1, h2, h3⟩ := hc
      simp only [insH1, h1] at hi
      by_cases hq : q = r
      · subst hq; rw [upd_same] at hi; cases hi
        refine .inr (.inr ⟨ow, enc t x, s, rfl, h2, fun j hj => ?_, by rw [enc_length]; exact sz_le t, h1⟩)
        intro S
        have := rin_enc S t x j
        rw [List.getD_eq_getElem?_getD, List.getElem?_eq_getElem hj] at this; exact this
      · rw [upd_other _ _ _ _ hq, thawH_or] at hi
        split at hi
        · rename_i y hy
          cases hi
          obtain ⟨t', l, e1, e2, e3⟩ := thawH_arr _ _ _ _ _ _ hy
          have hsz := sz_le t
          rw [enc_length] at e3
          refine .inr (.inl ⟨by omega, by omega, ⟨t', l, e1⟩, ?_⟩)
          rw [h3 (q - id) (by omega), thawH_shift ow M id, show id + (q - id) = q by omega]; exact hy
        · exact .inl hi
  intro cs
  induction cs with
  | nil => intro M id x h q row _ hi; exact .inl hi
  | cons c cs ih =>
    intro M id x h q row hc hi
    cases cs with
    | nil =>
      rcases one c M id x h q row hc hi with h1 | ⟨h1, h2, h3⟩ | ⟨ow, es, s, h1, h2, h3⟩
      · exact .inl h1
      · exact .inr (.inl ⟨h1, by simp only [List.length_cons, List.length_nil]; omega, h3⟩)
      · exact .inr (.inr ⟨0, ow, es, s, h1, h2, by simp only [List.length_cons]; omega, h3⟩)
    | cons d r =>
      simp only [insH] at hi
      rcases one c M id x.1 _ q row hc.1 hi with h1 | ⟨h1, h2, h3⟩ | ⟨ow, es, s, h1, h2, h3⟩
      · rcases ih (M + 64) (id + 64) x.2 h q row hc.2 h1 with h4 | ⟨h4, h5, h6, h7⟩ | ⟨o, ow, es, s, h4, h5, h6, h7⟩
        · exact .inl h4
        · refine .inr (.inl ⟨by omega, by simp at h5 ⊢; omega, h6, ?_⟩)
          rw [show M + (q - id) = M + 64 + (q - (id + 64)) by omega]; exact h7
        · refine .inr (.inr ⟨o + 64, ow, es, s, ?_, ?_, by simp at h6 ⊢; omega, h7⟩)
          · rw [show id + (o + 64) = id + 64 + o by omega]; exact h4
          · rw [show M + (o + 64) = M + 64 + o by omega]; exact h5
      · exact .inr (.inl ⟨h1, by simp only [List.length_cons]; omega, h3⟩)
      · exact .inr (.inr ⟨0, ow, es, s, h1, h2, by simp only [List.length_cons]; omega, h3⟩)

theorem insS_val {tv : Nat → Value} {sl : Nat → V} {ρ2 : Nat → Option RI} {bad2 : Nat → Prop} {g2 : Nat → Option Row} (f : Nat → V) (s : Nat) : ∀ (cs : List Comp) (M id : Nat) (x : Tup cs),
    CompsOk w ρ2 bad2 g2 tv sl cs M x → (isSlot cs s = false ∧ insS cs id x f s = f s) ∨ (VR w ρ2 bad2 (tv s) (insS cs id x f s) ∧ NoRef (insS cs id x f s)) ∨
      (∃ o, insS cs id x f s = .ow (id + o) ∧ VR w ρ2 bad2 (tv s) (.ow (M + o)) ∧ o < 64 * cs.length) := by
  have one : ∀ (c : Comp) (M id : Nat) (x : c.T) (f : Nat → V), CompOk w ρ2 bad2 g2 tv sl c M x → ((∀ r, isSlot (c :: r) s = isSlot r s) ∧ insS1 c id x f s = f s) ∨ (VR w ρ2 bad2 (tv s) (insS1 c id x f s) ∧ NoRef (insS1 c id x f s)) ∨
      (insS1 c id x f s = .ow id ∧ VR w ρ2 bad2 (tv s) (.ow M)) := by
    intro c M id x f hc
    cases c with
    | slot s' ty =>
      by_cases hs : s = s'
      · subst hs; simp only [insS1, upd_same]; exact .inr (.inl hc)
      · simp only [insS1]; rw [upd_other _ _ _ _ hs]
        refine .inl ⟨fun r => ?_, rfl⟩
        have : Nat.beq s' s = false := by
          cases hb : Nat.beq s' s with
          | false => rfl
          | true => exact absurd (Nat.eq_of_beq_eq_true hb).symm hs
        simp [isSlot, this]
    | own s' t =>
      by_cases hs : s = s'
      · subst hs; exact .inr (.inr ⟨upd_same _ _ _, hc.1⟩)
      · simp only [insS1]; rw [upd_other _ _ _ _ hs]
        refine .inl ⟨fun r => ?_, rfl⟩
        have : Nat.beq s' s = false := by
          cases hb : Nat.beq s' s with
          | false => rfl
          | true => exact absurd (Nat.eq_of_beq_eq_true hb).symm hs
        simp [isSlot, this]
    | box s' t ow => exact .inl ⟨fun r => rfl, rfl⟩
  intro cs
  induction cs with
  | nil => intro M id x _; exact .inl ⟨rfl, rfl⟩
  | cons c cs ih =>
    intro M id x hc
    cases cs with
    | nil =>
      rcases one c M id x f hc with ⟨h1, h2⟩ | h | ⟨h1, h2⟩
      · exact .inl ⟨by rw [h1]; rfl, h2⟩
      · exact .inr (.inl h)
      · exact .inr (.inr ⟨0, h1, h2, by simp only [List.length_cons]; omega⟩)
    | cons d r =>
      simp only [insS]
      rcases one c M id x.1 (insS (d :: r) (id + 64) x.2 f) hc.1 with ⟨h1, h2⟩ | h | ⟨h1, h2⟩
      · rw [h2]
        rcases ih (M + 64) (id + 64) x.2 hc.2 with ⟨h3, h4⟩ | h3 | ⟨o, h3, h4, h5⟩
        · exact .inl ⟨by rw [h1]; exact h3, h4⟩
        · exact .inr (.inl h3)
        · exact .inr (.inr ⟨o + 64, by rw [h3]; congr 1; omega, by rw [show M + (o + 64) = M + 64 + o by omega]; exact h4, by simp only [List.length_cons] at h5 ⊢; omega⟩)
      · exact .inr (.inl h)
      · exact .inr (.inr ⟨0, h1, h2, by simp only [List.length_cons]; omega⟩)

theorem CompsOk.slots {tv : Nat → Value} {sl sl' : Nat → V} {ρ2 : Nat → Option RI} {bad2 : Nat → Prop} {g2 : Nat → Option Row} : ∀ (cs : List Comp) (M : Nat) (x : Tup cs),
    (∀ s t ow, Comp.box s t ow ∈ cs → sl' s = sl s) → CompsOk w ρ2 bad2 g2 tv sl cs M x → CompsOk w ρ2 bad2 g2 tv sl' cs M x := by
  have one : ∀ (c : Comp) (M : Nat) (x : c.T), (∀ s t ow, c = Comp.box s t ow → sl' s = sl s) → CompOk w ρ2 bad2 g2 tv sl c M x → CompOk w ρ2 bad2 g2 tv sl' c M x := by
    intro c M x hs hc
    cases c with
    | slot s ty => exact hc
    | own s t => exact hc
    | box s t ow => obtain ⟨r, h1, h2⟩ := hc; exact ⟨r, by rw [hs s t ow rfl]; exact h1, h2⟩
  intro cs
  induction cs with
  | nil => intro M x _ _; trivial
  | cons c cs ih =>
    intro M x hs hc
    cases cs with
    | nil => exact one c M x (fun s t ow h => hs s t ow (by simp [h])) hc
    | cons d r => exact ⟨one c M x.1 (fun s t ow h => hs s t ow (by simp [h])) hc.1, ih (M + 64) x.2 (fun s t ow h => hs s t ow (List.mem_cons_of_mem _ h)) hc.2⟩

theorem insH_some (sl : Nat → V) : ∀ (cs : List Comp) (id : Nat) (x : Tup cs) (h : Nat → Option Row) (q : Nat) (row : Row), h q = some row → ∃ row', insH sl cs id x h q = some row' := by
  have up : ∀ (h : Nat → Option Row) (i : Nat) (y : Row) (q : Nat), (∃ row, h q = some row) → ∃ row', upd h i (some y) q = some row' := by
    intro h i y q hq
    by_cases hi : q = i
    · subst hi; exact ⟨y, upd_same _ _ _⟩
    · rw [upd_other _ _ _ _ hi]; exact hq
  have one : ∀ (c : Comp) (id : Nat) (x : c.T) (h : Nat → Option Row) (q : Nat), (∃ row, h q = some row) → ∃ row', insH1 sl c id x h q = some row' := by
    intro c id x h q hq
    cases c with
    | slot s' ty => exact hq
    | own s' t => exact up _ _ _ _ hq
    | box s' t ow =>
      simp only [insH1]
      generalize sl s' = v
      cases v with
      | bp r off =>
        cases off with
        | zero =>
          refine up _ _ _ _ ?_
          rw [thawH_or]
          cases thawH ow id (fun _ => none) 0 (enc t x) q with
          | some y => exact ⟨_, rfl⟩
          | none => exact hq
        | succ n => exact hq
      | _ => exact hq
  intro cs
  induction cs with
  | nil => intro id x h q row hq; exact ⟨row, hq⟩
  | cons c cs ih =>
    intro id x h q row hq
    cases cs with
    | nil => exact one c id x h q ⟨row, hq⟩
    | cons d r => exact one c id x.1 _ q (ih (id + 64) x.2 h q row hq)

theorem install_ok {j : JI} {b : St} {ρ' : Nat → Option RI} {a' : Act} {w' : World} {k : Tup j.cs → Option R} {r : R} (hb : Rel C w0 outer own ρ b a w) (hfb : ∀ q, b.nx ≤ q → ρ q = none)
    (hr : Rel C w0 outer own ρ' st' a' w') (hf : ∀ q, st'.nx ≤ q → ρ' q = none) (hnx : b.nx ≤ st'.nx) (hext : ∀ q qi, ρ q = some qi → ρ' q = some qi)
    (hslots : ∀ s, j.has s = false → st'.s s = b.s s) (hkeep : Keeps b.nx (lockBut j b).h st'.h) (hbox : boxSlots j = true) (he : exK j.cs st' k = some r) :
    ∃ x, k x = some r ∧ ∃ ρ'', Rel C w0 outer own ρ'' (install j b x) a' w' ∧ (∀ q, (install j b x).nx ≤ q → ρ'' q = none) ∧ (∀ q qi, ρ q = some qi → ρ'' q = some qi) ∧ Keeps b.nx b.h (install j b x).h := by
  have hbn : ∀ q row, b.h q = some row → ρ q ≠ none ∧ q < b.nx := fun q row hq => by
    obtain ⟨ri, h1, _⟩ := hb.heap.rows q row hq
    refine ⟨by rw [h1]; simp, ?_⟩
    rcases Nat.lt_or_ge q b.nx with h | h
    · exact h
    · rw [hfb q h] at h1; cases h1
  have hhn : ∀ q, st'.nx ≤ q → st'.h q = none := fun q hq => by
    cases hg : st'.h q with
    | none => rfl
    | some row => obtain ⟨ri, h3, _⟩ := hr.heap.rows _ _ hg; rw [hf q hq] at h3; cases h3
  obtain ⟨x, hn, ρ2, g2, hx, E⟩ := exK_ok (tv := fun s => a'.tmps.getD s undef) j.cs st'.nx st' k r ρ' st'.h he hr.heap (fun _ _ h => h) hr.slots hf hhn
  let M := st'.nx
  let L := 64 * j.cs.length
  let ρ'' : Nat → Option RI := fun q => if q < b.nx then ρ q else if q < b.nx + L then ρ2 (M + (q - b.nx)) else none
  let φ : Nat → Nat := fun q => if q < b.nx then q else M + (q - b.nx)
  have hρ2 : ∀ q qi, ρ q = some qi → ρ2 q = some qi := fun q qi hq => E.ext _ _ (hext _ _ hq)
  have hlt : ∀ q, ρ q ≠ none → q < b.nx := fun q hq => by
    rcases Nat.lt_or_ge q b.nx with h | h
    · exact h
    · exact absurd (hfb q h) hq
  have hρlow : ∀ q, q < b.nx → ρ'' q = ρ q := fun q hq => by simp only [ρ'', hq, if_true]
  have hext2 : ∀ q qi, ρ q = some qi → ρ'' q = some qi := fun q qi hq => by rw [hρlow q (hlt q (by rw [hq]; simp))]; exact hq
  have hρhi : ∀ o, o < L → ρ'' (b.nx + o) = ρ2 (M + o) := fun o ho => by
    have h1 : ¬ (b.nx + o < b.nx) := by omega
    have h2 : b.nx + o < b.nx + L := by omega
    simp only [ρ'', h1, h2, if_false, if_true]; congr 1; omega
  have hφlow : ∀ q, q < b.nx → φ q = q := fun q hq => by simp only [φ, hq, if_true]
  have hφhi : ∀ q, b.nx ≤ q → φ q = M + (q - b.nx) := fun q hq => by
    have : ¬ q < b.nx := by omega
    simp only [φ, this, if_false]
  have hsl : CompsOk w' ρ2 (Bad outer ρ2 g2) g2 (fun s => a'.tmps.getD s undef) b.s j.cs M x := by
    refine CompsOk.slots j.cs M x (fun s t ow hm => ?_) E.ok
    have := List.all_eq_true.1 hbox _ hm
    simp only [Bool.not_eq_true'] at this
    exact (hslots s this).symm
  -- the rows that stayed
  have hrest : ∀ q row, restH j b q = some row → ∃ row0, b.h q = some row0 ∧ row0.c = row.c ∧ ∃ row2, g2 q = some row2 ∧ row2.c = row.c ∧ (row.m.isRo = false → row2.m.isRo = false) := fun q row hq => by
    unfold restH at hq
    split at hq
    · rename_i c hc
      cases hi : inRows j.cs b q
      · simp only [hi, cond_false, Option.some.injEq] at hq
        subst hq
        have h1 : (lockBut j b).h q = some ⟨c, .lock⟩ := by simp [lockBut, hc, hi]
        exact ⟨_, hc, rfl, _, E.lies _ _ (E.left (q + 1) q _ (by omega) (hkeep q _ (hbn q _ hc).2 h1 rfl) rfl), rfl, fun _ => rfl⟩
      · simp [hi] at hq
    · rename_i hno
      obtain ⟨c, m⟩ := row
      have hm : m.isOwn = false := by
        cases m with
        | own => exact absurd hq (hno c)
        | ro => rfl
        | lock => rfl
      have hq' : b.h q = some ⟨c, m⟩ := hq
      have h1 : (lockBut j b).h q = some ⟨c, m⟩ := by
        simp only [lockBut, hq']
        cases m with
        | own => cases hm
        | ro => rfl
        | lock => rfl
      exact ⟨_, hq, rfl, _, E.lies _ _ (E.left (q + 1) q _ (by omega) (hkeep q _ (hbn q _ hq).2 h1 hm) hm), rfl, fun h => h⟩
  have hrow : ∀ q row, (install j b x).h q = some row → ∃ row2, g2 (φ q) = some row2 ∧ (row.m.isRo = false → row2.m.isRo = false) ∧ ρ'' q = ρ2 (φ q) := fun q row hq => by
    rcases insH_row j.cs M b.nx x (restH j b) q row hsl hq with h1 | ⟨h1, h2, _, h4⟩ | ⟨o, ow, es, s, h1, h2, h3, h4, h5, h6⟩
    · obtain ⟨row0, k1, _, row2, k2, _, k3⟩ := hrest q row h1
      have hql := (hbn q _ k1).2
      obtain ⟨ri, e1, _⟩ := hb.heap.rows q _ k1
      exact ⟨row2, by rw [hφlow q hql]; exact k2, k3, by rw [hφlow q hql, hρlow q hql, e1, hρ2 q ri e1]⟩
    · refine ⟨row, by rw [hφhi q h1]; exact h4, fun h => h, ?_⟩
      have := hρhi (q - b.nx) (by omega)
      rw [show b.nx + (q - b.nx) = q by omega] at this
      rw [this, hφhi q h1]
    · have hqs := hb.slots s
      rw [h6] at hqs
      obtain ⟨ri, e1, _⟩ := hqs.bp_inv
      have hql := hlt q (by rw [e1]; simp)
      exact ⟨_, by rw [hφlow q hql]; exact h2, fun _ => rfl, by rw [hφlow q hql, hρlow q hql, e1, hρ2 q ri e1]⟩
  have hbad : ∀ c, Bad outer ρ'' (install j b x).h c → Bad outer ρ2 g2 c := by
    rintro c (hc | ⟨q, row, ri, f1, f2, f3, f4, f5⟩)
    · exact .inl hc
    · obtain ⟨row2, k1, k2, k3⟩ := hrow q row f1
      rw [k3] at f3
      exact .inr ⟨_, row2, ri, k1, k2 f2, f3, f4, f5⟩
  -- what is said ahead holds behind
  have keepB : ∀ u d, VR w' ρ2 (Bad outer ρ2 g2) u d → RIn (fun q => ρ q ≠ none) d → VR w' ρ'' (Bad outer ρ'' (install j b x).h) u d := fun u d hu hS =>
    hu.keep hS (fun q qi hq h2 => by
      cases h3 : ρ q with
      | none => exact absurd h3 hq
      | some ri => rw [hρ2 q ri h3] at h2; cases h2; exact hext2 q _ h3) (fun _ _ _ => rfl) fun c hc => .inl (hbad c hc)
  have hH : HRel w0 outer own ρ'' (install j b x).h w' := by
    refine E.heap.sub φ E.heap.wx E.heap.old E.heap.outLt (fun q row hq => ?_) (fun q q' row row' h1 h2 h3 => ?_)
    · obtain ⟨row2, k1, k2, k3⟩ := hrow q row hq
      obtain ⟨ri, e1, e2, e3⟩ := E.heap.rows _ _ k1
      refine ⟨row2, ri, k1, by rw [k3]; exact e1, e1, ?_, fun hn => ⟨(e3 hn).1.1, fun hm => (e3 hn).1.2 (k2 hm)⟩⟩
      rcases insH_row j.cs M b.nx x (restH j b) q row hsl hq with h1 | ⟨h1, h2, ⟨t, l, h3⟩, h4⟩ | ⟨o, ow, es, s, h1, h2, h3, h4, h5, h6⟩
      · obtain ⟨row0, f1, f2, row2', f3, f4, _⟩ := hrest q row h1
        have hql := (hbn q _ f1).2
        rw [hφlow q hql, f3] at k1; cases k1
        rw [f4] at e2
        obtain ⟨rc, rm⟩ := row
        cases rc with
        | arr t l => exact rowOk_closed e2 hbad ρ''
        | box cs =>
          obtain ⟨ri0, g1, g3, _⟩ := hb.heap.rows q _ f1
          rw [f2] at g3
          refine ⟨e2.1, fun i hi => ?_⟩
          obtain ⟨x1, y, x2, x3⟩ := e2.2 i hi
          obtain ⟨_, y0, _, y3⟩ := g3.2 i hi
          exact ⟨x1, y, x2, keepB _ _ x3 y3.refs⟩
      · subst h3
        rw [hφhi q h1, h4] at k1; cases k1
        exact rowOk_closed e2 hbad ρ''
      · have hqs := hb.slots s
        rw [h6] at hqs
        obtain ⟨ri', e4, _⟩ := hqs.bp_inv
        have hql := hlt q (by rw [e4]; simp)
        rw [hφlow q hql, h2] at k1; cases k1
        subst h1
        refine ⟨e2.1, fun i hi => ?_⟩
        rw [thawL_len] at hi
        obtain ⟨x1, y, x2, x3⟩ := e2.2 i (by rw [thawL_len]; exact hi)
        refine ⟨x1, y, x2, ?_⟩
        have := thawL_shift (w := w') (ρ := ρ2) (ρ2 := ρ'') (bad := Bad outer ρ2 g2) (bad2 := Bad outer ρ'' (install j b x).h) ow (M + o) (b.nx + o) es 0 (fun i => (w'.cell? (at_ ri.b i)).getD undef) (fun p _ hp => by
            rw [Nat.add_assoc, Nat.add_assoc]; exact hρhi (o + p) (by omega)) h4 hbad (fun i hi => by
            obtain ⟨_, y, x2, x3⟩ := e2.2 i hi
            rw [x2]; exact x3) i (by rw [thawL_len]; exact hi)
        rw [x2] at this; exact this
    · have cls : ∀ q row, (install j b x).h q = some row → φ q = q ∧ q < b.nx ∨ b.nx ≤ q ∧ φ q = M + (q - b.nx) := fun q row _ => by
        rcases Nat.lt_or_ge q b.nx with h | h
        · exact .inl ⟨hφlow q h, h⟩
        · exact .inr ⟨h, hφhi q h⟩
      rcases cls q row h1 with ⟨c1, c2⟩ | ⟨c1, c2⟩ <;> rcases cls q' row' h2 with ⟨c3, c4⟩ | ⟨c3, c4⟩ <;> omega
  refine ⟨x, hx, ρ'', ⟨hH, fun s => ?_, hr.size, hr.defers⟩, fun q hq => ?_, hext2, fun q row hqn hq hm => ?_⟩
  · show VR w' ρ'' _ _ (insS j.cs b.nx x (fun i => bif inKill j.kill i then .undef else b.s i) s)
    rcases insS_val (fun i => bif inKill j.kill i then .undef else b.s i) s j.cs M b.nx x hsl with ⟨h1, h2⟩ | ⟨h1, h2⟩ | ⟨o, h1, h2, h3⟩
    · rw [h2]
      cases hk : inKill j.kill s
      · simp only [cond_false]
        have hhas : j.has s = false := by simp [JI.has, hk, h1]
        have hv := E.keep _ _ (hr.slots s)
        rw [hslots s hhas] at hv
        exact keepB _ _ hv (hb.slots s).refs
      · simp only [cond_true]; exact .undef _
    · exact (h1.noRef h2 ρ'').mono (fun _ _ h => h) (fun _ _ _ => rfl) fun c hc => .inl (hbad c hc)
    · rw [h1]
      have hq := hρhi o h3
      have h2 : VR w' ρ2 (Bad outer ρ2 g2) (a'.tmps.getD s undef) (.ow (M + o)) := h2
      generalize a'.tmps.getD s undef = T at h2 ⊢
      cases h2 with
      | ow _ ri e1 e2 e3 e4 => exact .ow _ ri (by rw [hq]; exact e1) e2 e3 e4
      | owN _ ri ao e1 e2 e3 => exact .owN _ ri ao (by rw [hq]; exact e1) e2 e3
  · have h1 : ¬ q < b.nx := by simp only [install] at hq; omega
    have h2 : ¬ q < b.nx + L := by simp only [install] at hq; omega
    simp only [ρ'', h1, h2, if_false]
  · have h1 : (lockBut j b).h q = some row := by
      simp only [lockBut, hq]
      obtain ⟨c, m⟩ := row
      cases m with
      | own => cases hm
      | ro => rfl
      | lock => rfl
    have h2 : restH j b q = some row := by
      simp only [restH, hq]
      obtain ⟨c, m⟩ := row
      cases m with
      | own => cases hm
      | ro => rfl
      | lock => rfl
    have h3 : g2 q = some row := E.lies _ _ (E.left (q + 1) q _ (by omega) (hkeep q _ hqn h1 hm) hm)
    obtain ⟨row', h4⟩ := insH_some b.s j.cs b.nx x _ q row h2
    show insH b.s j.cs b.nx x (restH j b) q = some row
    rcases insH_row j.cs M b.nx x (restH j b) q row' hsl h4 with h5 | ⟨h5, _⟩ | ⟨o, ow, es, s, h5, h6, _⟩
    · rw [h2] at h5; cases h5; exact h4
    · omega
    · rw [h3] at h6; cases h6; cases hm

end
end Go.D

/-
  One operation: what it does to the plain state it does to the machine.
-/
import Derived.Test.YtilkenfgjljknaaFrz
namespace Go.D
section
variable {C : Cx} {w0 : World} {outer own : Nat → Prop} {ρ : Nat → Option RI} {st st' : St} {a : Act} {w : World} {h : Nat → Option Row}

theorem litV_ok {bad : Nat → Prop} (v : Value) : VR w ρ bad v (litV v) := by
  unfold litV
  split
  · exact .bool _
  · rename_i k n
    cases hb : (decide (k.min ≤ n) && decide (n ≤ k.max))
    · exact .undef _
    · simp at hb; exact .int _ _ hb
  · rename_i s
    cases hb : Nat.ble s.data.toList.length 1000000
    · exact .undef _
    · have := Nat.le_of_ble_eq_true hb
      have h2 : (⟨s.data.toList.toArray⟩ : ByteArray) = s := by cases s; simp
      have h3 := VR.str (w := w) (ρ := ρ) (bad := bad) s.data.toList (by unfold maxLen; omega)
      rw [h2] at h3; exact h3
  · exact .nil
  · exact .nili
  · exact .undef _

theorem Rel.opd (hr : Rel C w0 outer own ρ st a w) (x : Operand) : VR w ρ (Bad outer ρ st.h) (a.eval x) (opd st.s x) := by
  cases x with
  | tmp t => exact hr.slots t
  | const v => exact litV_ok v
  | global g => exact .undef _
  | func f => exact .fn f [] #[] rfl fun j hj => by simp at hj

/-- What an operation comes to: whatever is asked behind it is given. -/
def Does (P : Program) (o : Oper) (a : Act) (w : World) (post : Act → World → Prop) : Prop :=
  ∀ next Q, (∀ a' w', post a' w' → next a' w') → o.wp P a w next Q

theorem does_value {P : Program} {o : Oper} {v : Value} {w' : World} {post : Act → World → Prop} (hrun : (execOp a.eval o).run P w = .ok (.value v) w')
    (hp : post (a.put o.dst v) w') : Does P o a w post := fun next Q hn => by
  unfold Oper.wp; rw [hrun, Oper.upon_value]; exact hn _ _ hp

theorem does_skip {P : Program} {o : Oper} {w' : World} {post : Act → World → Prop} (hrun : (execOp a.eval o).run P w = .ok .skip w')
    (hp : post (a.put o.dst undef) w') : Does P o a w post := fun next Q hn => by
  unfold Oper.wp; rw [hrun, Oper.upon_skip]; exact hn _ _ hp

/-- The rows that an operation may make: 64 from i on. -/
def Ext (i : Nat) (ρ ρ' : Nat → Option RI) : Prop := ∀ r, ¬ (i ≤ r ∧ r < i + 64) → ρ' r = ρ r

def After (C : Cx) (w0 : World) (outer own : Nat → Prop) (i : Nat) (ρ : Nat → Option RI) (st' : St) (a' : Act) (w' : World) : Prop :=
  ∃ ρ', Rel C w0 outer own ρ' st' a' w' ∧ Ext i ρ ρ' ∧ ∀ r ri, ρ r = some ri → ρ' r = some ri

theorem Rel.after (hr : Rel C w0 outer own ρ st a w) {i : Nat} {dst : Option Nat} {v : Value} {d : V} (hv : VR w ρ (Bad outer ρ st.h) v d)
    (hk : putK C dst st d some = some st') : After C w0 outer own i ρ st' (a.put dst v) w :=
  ⟨ρ, (hr.put hv hk).1, fun _ _ => rfl, fun _ _ h => h⟩

/-- A state whose rows have turned. -/
theorem Rel.turn (hr : Rel C w0 outer own ρ st a w) {ρ' : Nat → Option RI} {h' : Nat → Option Row} {w' : World} (hh : HRel w0 outer own ρ' h' w')
    (hv : ∀ u d, VR w ρ (Bad outer ρ st.h) u d → VR w' ρ' (Bad outer ρ' h') u d) : Rel C w0 outer own ρ' { st with h := h' } a w' :=
  ⟨hh, fun i => hv _ _ (hr.slots i), hr.size, hr.defers⟩

theorem wx_alloc (w : World) (o : Obj) : Wx w (w.alloc o) := ⟨rfl, rfl, rfl, by simp⟩
theorem wx_drew (w : World) : Wx w w.drew := ⟨rfl, rfl, rfl, Nat.le_refl _⟩

theorem heap_alloc_lt (w : World) (o : Obj) (b : Nat) (hb : b < w.heap.size) : (w.alloc o).heap[b]? = w.heap[b]? := by
  show (w.heap.push o)[b]? = _
  rw [Array.getElem?_push, if_neg (by omega)]

/-- A new row in a new block. -/
theorem Rel.newRow (hr : Rel C w0 outer own ρ st a w) {i : Nat} (hi : ρ i = none) (ri : RI) (hb : ri.nl = false → ri.b = w.heap.size) (w' : World) (hwx : Wx w w')
    (hw : ∀ b, b < w.heap.size → w'.heap[b]? = w.heap[b]?) (hsz : ri.nl = false → w.heap.size < w'.heap.size) {c : RowC} {dst : Option Nat} {v : Value} {d : V}
    (hc : ∀ bad, (∀ u d, VR w ρ (Bad outer ρ st.h) u d → VR w' (upd ρ i (some ri)) bad u d) → RowOk w' (upd ρ i (some ri)) bad ri c)
    (hv : ∀ bad, VR w' (upd ρ i (some ri)) bad v d) (hk : newK C dst st i c d some = some st') : After C w0 outer own i ρ st' (a.put dst v) w' := by
  obtain ⟨h1, h2⟩ := hr.heap.alloc i hi ri hb w' hwx hw hsz c (hc _)
  refine ⟨_, ((hr.turn h1 h2).put (hv _) hk).1, fun r hn => upd_other _ _ _ _ ?_, fun r qi hq => ?_⟩
  · rintro rfl; exact hn ⟨Nat.le_refl _, by omega⟩
  · rw [upd_other]; exact hq; rintro rfl; simp [hi] at hq

theorem vr_getD {bad : Nat → Prop} {vs : Array Value} {cs : List V} (hs : vs.size = cs.length) (hv : ∀ j (hj : j < cs.length), VR w ρ bad (vs.getD j undef) cs[j]) (j : Nat) :
    VR w ρ bad (vs.getD j undef) (cs.getD j .undef) := by
  by_cases hj : j < cs.length
  · rw [List.getD_eq_getElem?_getD, List.getElem?_eq_getElem hj]; exact hv j hj
  · rw [List.getD_eq_getElem?_getD, List.getElem?_eq_none (by omega)]; exact .undef _

/-- The cells of a value, flat. -/
theorem vr_cells {bad : Nat → Prop} {v : Value} {d : V} (hv : VR w ρ bad v d) (hl : leafs (cellsOf d) = true) :
    v.cells.size = (cellsOf d).length ∧ (∀ j (hj : j < (cellsOf d).length), VR w ρ bad (v.cells.getD j undef) (cellsOf d)[j]) ∧ ∀ u ∈ v.cells.toList, u.oneCell' = true := by
  by_cases ha : ∃ cs, d = .agg cs
  · obtain ⟨cs, rfl⟩ := ha
    cases hv with
    | agg _ vs hs hv =>
      refine ⟨hs, hv, fun u hu => ?_⟩
      obtain ⟨j, hj, rfl⟩ := List.mem_iff_getElem.1 hu
      have hj' : j < vs.size := by simpa [Value.cells] using hj
      have h1 := hv j (by omega)
      simp only [cellsOf] at hl
      have h2 := List.all_eq_true.1 hl cs[j] (List.getElem_mem (by omega))
      have h3 := h1.one h2
      rw [Array.getD_eq_getD_getElem?, Array.getElem?_eq_getElem hj'] at h3
      simpa [Value.cells] using h3
  · have hc : cellsOf d = [d] := by cases d <;> first | rfl | exact absurd ⟨_, rfl⟩ ha
    rw [hc] at hl ⊢
    have hd : d.leaf = true := by simpa [leafs] using hl
    have h1 := hv.one hd
    have hcv : v.cells = #[v] := by cases v <;> first | rfl | (simp [Value.oneCell'] at h1)
    rw [hcv]
    refine ⟨rfl, fun j hj => ?_, fun u hu => ?_⟩
    · simp at hj; subst hj; exact hv
    · simp at hu; subst hu; exact h1

theorem cell?_new (w : World) (c : Array Value) (e : TypeId) (j : Nat) (hj : j < c.size) : (w.alloc (.cells c e)).cell? (at_ w.heap.size j) = some (c.getD j undef) := by
  rw [at_, World.cell?_alloc_new, Array.getD_eq_getD_getElem?, Array.getElem?_eq_getElem hj]; rfl

theorem box_new {bad bad' : Nat → Prop} {ρ' : Nat → Option RI} {c : Array Value} {e : TypeId} {cs : List V} {ri : RI} (hn : ri.nl = false) (hb : ri.b = w.heap.size) (hs : c.size = cs.length)
    (hv : ∀ j (hj : j < cs.length), VR w ρ bad (c.getD j undef) cs[j]) (hk : ∀ u d, VR w ρ bad u d → VR (w.alloc (.cells c e)) ρ' bad' u d) :
    RowOk (w.alloc (.cells c e)) ρ' bad' ri (.box cs) := by
  refine ⟨hn, fun j hj => ?_⟩
  rw [hb]
  exact ⟨World.frozen?_alloc_new _ _ _ _, _, cell?_new w c e j (by omega), hk _ _ (hv j hj)⟩

theorem newBox (hr : Rel C w0 outer own ρ st a w) {i : Nat} (hi : ρ i = none) {v : Value} {e : TypeId} {cs : List V} (hs : v.cells.size = cs.length)
    (hv : ∀ j (hj : j < cs.length), VR w ρ (Bad outer ρ st.h) (v.cells.getD j undef) cs[j]) {dst : Option Nat} (hk : newK C dst st i (.box cs) (.bp i 0) some = some st') :
    After C w0 outer own i ρ st' (a.put dst (.pointer (some ⟨w.heap.size, 0, none⟩))) (w.alloc (.cells v.cells e)) :=
  hr.newRow hi ⟨w.heap.size, 0, 0, false⟩ (fun _ => rfl) _ (wx_alloc _ _) (fun b hb => heap_alloc_lt _ _ _ hb) (fun _ => by simp)
    (fun bad hk' => box_new rfl rfl hs hv hk') (fun bad => .bp i 0 ⟨w.heap.size, 0, 0, false⟩ (upd_same _ _ _) rfl) hk

variable {o : Oper} {i : Nat} (hr : Rel C w0 outer own ρ st a w)
include hr

theorem ok_move (x : Operand) (ho : o.op = .move x ∨ o.op = .assign x) (hk : putK C o.dst st (opd st.s x) some = some st') :
    Does C.P o a w (After C w0 outer own i ρ st') :=
  does_value (v := a.eval x) (w' := w) (by rcases ho with ho | ho <;> simp [execOp, ho]) (hr.after (hr.opd x) hk)

theorem ok_pick (c x y : Operand) (ho : o.op = .pick c x y) (t p q : Bool) (hc : opd st.s c = .bool t) (hx : opd st.s x = .bool p) (hy : opd st.s y = .bool q)
    (hk : putK C o.dst st (.bool (cond t p q)) some = some st') : Does C.P o a w (After C w0 outer own i ρ st') := by
  have h1 := hr.opd c; rw [hc] at h1
  have h2 := hr.opd x; rw [hx] at h2
  have h3 := hr.opd y; rw [hy] at h3
  generalize hec : a.eval c = vc at h1
  generalize hex : a.eval x = vx at h2
  generalize hey : a.eval y = vy at h3
  cases h1; cases h2; cases h3
  refine does_value (v := .bool (cond t p q)) (w' := w) ?_ (hr.after (.bool _) hk)
  simp [execOp, ho, hec, hex, hey, asBool]

theorem ok_alloc (e : TypeId) (ho : o.op = .alloc e) (hi : ρ i = none) (cs : List V) (hz : zeroCells C.P e = some cs) (hk : newK C o.dst st i (.box cs) (.bp i 0) some = some st') :
    Does C.P o a w (After C w0 outer own i ρ st') := by
  unfold zeroCells at hz
  split at hz
  · rename_i z hz'
    cases hb : leafs (z.cells.toList.map litV) <;> simp [hb] at hz
    subst hz
    obtain ⟨info, hi1, hi2⟩ := Option.bind_eq_some_iff.1 hz'
    refine does_value (w' := w.alloc (.cells z.cells e)) ?_ (newBox hr hi (v := z) (e := e) (by simp) (fun j hj => ?_) hk)
    · simp [execOp, ho, Instr.alloc, zeroValue, typeInfo, hi1, hi2, newVar, newRow]
    · rw [List.getElem_map]
      have hj' : j < z.cells.size := by simpa using hj
      rw [Array.getD_eq_getD_getElem?, Array.getElem?_eq_getElem hj']
      exact litV_ok _
  · cases hz

theorem ok_box (e : TypeId) (x : Operand) (ho : o.op = .box e x) (hi : ρ i = none) (hl : leafs (cellsOf (opd st.s x)) = true)
    (hk : newK C o.dst st i (.box (cellsOf (opd st.s x))) (.bp i 0) some = some st') : Does C.P o a w (After C w0 outer own i ρ st') := by
  obtain ⟨h1, h2, h3⟩ := vr_cells (hr.opd x) hl
  refine does_value (w' := w.alloc (.cells (a.eval x).cells e)) ?_ (newBox hr hi (v := a.eval x) (e := e) h1 h2 hk)
  simp [execOp, ho, Instr.box, newVar, newRow]

omit hr

/-! ### Reading and writing cells -/

/-- Cells of memory that read as known values. -/
def CellsAt (w : World) (ρ : Nat → Option RI) (bad : Nat → Prop) (b o : Nat) (cs : List V) : Prop :=
  ∀ j (hj : j < cs.length), ∃ u, w.cell? (at_ b (o + j)) = some u ∧ VR w ρ bad u cs[j]

theorem add_at (b o n : Nat) : (at_ b o).add n = at_ b (o + n) := Addr.add_lit b o n

theorem run_underlyingC {P : Program} {t : TypeId} {d : TypeDesc} (h : P.underlying t = some d) : (underlying t).run P w = .ok d w := by
  simp [underlying, h]

theorem isAgg_run {P : Program} {t : TypeId} {ag : Bool} (h : isAggT P t = some ag) : (isAgg t).run P w = .ok ag w := by
  unfold isAggT at h
  unfold isAgg
  split at h
  · rename_i hu; cases h; simp [underlying, hu]
  · rename_i hu; cases h; simp [underlying, hu]
  · rename_i d h1 h2 hu
    cases h
    rw [Sem.run_bind, run_underlyingC hu, Result.andThen_ok]
    cases d <;> first | rfl | (exfalso; exact h1 _ rfl) | (exfalso; exact h2 _ _ rfl)
  · cases h

theorem size_run {P : Program} {t : TypeId} {n : Nat} (h : sizeT P t = some n) : (sizeOf t).run P w = .ok n w := by
  unfold sizeT at h
  obtain ⟨i, h1, h2⟩ := Option.map_eq_some_iff.1 h
  simp [sizeOf, typeInfo, h1, h2]

theorem load_ok {P : Program} {bad : Nat → Prop} {t : TypeId} {ag : Bool} {n b o off : Nat} {cs : List V} {R : Type} {K : V → Option R} {r : R} (h1 : isAggT P t = some ag) (h2 : sizeT P t = some n)
    (hc : CellsAt w ρ bad b o cs) (hk : loadCells ag n cs off K = some r) :
    ∃ d v, K d = some r ∧ VR w ρ bad v d ∧ (loadVar t (at_ b (o + off))).run P w = .ok v w := by
  unfold loadCells at hk
  cases ag with
  | true =>
    simp only [cond_true] at hk
    cases hb : Nat.ble (off + n) cs.length
    case false => simp [hb] at hk
    simp only [hb, cond_true] at hk
    have hle := Nat.le_of_ble_eq_true hb
    have hcell : ∀ j, j < n → w.cell? ((at_ b (o + off)).add j) = some ((w.cell? (at_ b (o + off + j))).getD undef) := fun j hj => by
      obtain ⟨u, h3, _⟩ := hc (off + j) (by omega)
      rw [add_at, show o + off + j = o + (off + j) by omega, h3]; rfl
    refine ⟨_, .agg ((List.range n).map fun j => (w.cell? (at_ b (o + off + j))).getD undef).toArray, hk, ?_, ?_⟩
    · refine .agg _ _ (by simp; omega) fun j hj => ?_
      have hjn : j < n := by simp at hj; omega
      obtain ⟨u, h3, h4⟩ := hc (off + j) (by omega)
      have he : ((cs.drop off).take n)[j] = cs[off + j]'(by omega) := by simp
      rw [he]
      have hg : (((List.range n).map fun j => (w.cell? (at_ b (o + off + j))).getD undef).toArray.getD j undef) = u := by
        simp [hjn, show o + off + j = o + (off + j) by omega, h3]
      rw [hg]; exact h4
    · simp only [loadVar, Sem.run_bind, isAgg_run h1, Result.andThen_ok, Sem.run_ite, if_true, size_run h2, run_loadCells w _ n _ hcell, Sem.run_pure]
  | false =>
    simp only [cond_false] at hk
    split at hk
    · rename_i c r' hd
      have hlt : off < cs.length := by
        rcases Nat.lt_or_ge off cs.length with h | h
        · exact h
        · rw [List.drop_eq_nil_of_le h] at hd; cases hd
      have hce : cs[off] = c := by
        rw [List.drop_eq_getElem_cons hlt] at hd; exact (List.cons.inj hd).1
      obtain ⟨u, h3, h4⟩ := hc off hlt
      refine ⟨c, u, hk, by rw [← hce]; exact h4, ?_⟩
      simp only [loadVar, Sem.run_bind, isAgg_run h1, Result.andThen_ok, Sem.run_ite, Bool.false_eq_true, if_false, run_load, h3]
    · cases hk

theorem heap_setCell (w : World) (x : Addr) (u : Value) (b : Nat) (h : b ≠ x.block) : (w.setCell x u).heap[b]? = w.heap[b]? := by
  simp only [World.setCell, Array.getElem?_modify]
  rw [if_neg (by omega)]

theorem heap_setCells : ∀ (vs : List Value) (o : Nat) (w : World) (b b' : Nat), b' ≠ b → (w.setCells b o vs).heap[b']? = w.heap[b']?
  | [], _, _, _, _, _ => rfl
  | v :: vs, o, w, b, b', h => by
    rw [World.setCells, heap_setCells vs _ _ b b' h, heap_setCell _ _ _ _ (by simpa using h)]

theorem size_setCells : ∀ (vs : List Value) (o : Nat) (w : World) (b : Nat), (w.setCells b o vs).heap.size = w.heap.size
  | [], _, _, _ => rfl
  | v :: vs, o, w, b => by rw [World.setCells, size_setCells vs]; simp

theorem wx_setCells : ∀ (vs : List Value) (o : Nat) (w : World) (b : Nat), Wx w (w.setCells b o vs)
  | [], _, _, _ => Wx.refl _
  | v :: vs, o, w, b => by
    rw [World.setCells]
    exact Wx.trans (b := w.setCell ⟨b, o, none⟩ v) ⟨rfl, rfl, rfl, by simp⟩ (wx_setCells vs _ _ _)

theorem splice_get (cs : List V) (off : Nat) (vs : List V) (hle : off + vs.length ≤ cs.length) : (splice cs off vs).length = cs.length ∧
    ∀ j (hj : j < cs.length) (hj' : j < (splice cs off vs).length), (splice cs off vs)[j] = if h : off ≤ j ∧ j < off + vs.length then vs[j - off]'(by omega) else cs[j] := by
  have hlen : (splice cs off vs).length = cs.length := by simp [splice]; omega
  refine ⟨hlen, fun j hj hj' => ?_⟩
  simp only [splice, List.append_assoc]
  by_cases h1 : j < off
  · rw [List.getElem_append_left (by simp; omega), dif_neg (by omega)]; simp
  · rw [List.getElem_append_right (by simp; omega)]
    by_cases h2 : j < off + vs.length
    · rw [List.getElem_append_left (by simp; omega), dif_pos ⟨by omega, h2⟩]
      congr 1; simp; omega
    · rw [List.getElem_append_right (by simp; omega), dif_neg (by omega)]
      simp; congr 1; omega

theorem store_run {P : Program} {t : TypeId} {n b o : Nat} {v : Value} (h2 : sizeT P t = some n) (hs : v.cells.size = n) (h1 : ∀ u ∈ v.cells.toList, u.oneCell' = true)
    (hc : ∀ j, j < n → (w.cell? (at_ b (o + j))).isSome = true) (hf : ∀ j, j < n → w.frozen? (at_ b (o + j)) = false) :
    (storeVar t (at_ b o) v).run P w = .ok () (w.setCells b o v.cells.toList) := by
  have hst := run_storeCells_cells (P := P) b o v.cells.toList 0 w (fun j hj => by rw [Nat.add_zero]; exact hc j (by simpa [hs] using hj)) (fun j hj => by rw [Nat.add_zero]; exact hf j (by simpa [hs] using hj)) h1
  simp only [Nat.add_zero] at hst
  simp [storeVar, size_run h2, hs]
  exact hst

end
end Go.D

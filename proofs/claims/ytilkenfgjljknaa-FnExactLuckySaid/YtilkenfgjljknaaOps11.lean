/-
  One operation, continued: composite literals, conversions, slices that are made.
-/
import Derived.Test.YtilkenfgjljknaaOps10
import Derived.Laws.IdiomStrings
import Derived.Laws.BytesArg
import Derived.Laws.MakeOwn
namespace Go.D

section
variable {C : Cx} {w0 : World} {outer own : Nat → Prop} {ρ : Nat → Option RI} {st st' : St} {a : Act} {w : World}

theorem fillAll_ok (hr : Rel C w0 outer own ρ st a w) (pl : List (Nat × Nat)) : ∀ (parts : List (Nat × Operand)) (cs cs' : List V) (vs : Array Value),
    fillAll pl st.s cs parts = some cs' → vs.size = cs.length → (∀ j (hj : j < cs.length), VR w ρ (Bad outer ρ st.h) (vs.getD j undef) cs[j]) →
    ∃ vs', Instr.fill (fun i => pl[i]?) vs (parts.map fun p => (p.1, a.eval p.2)) = some vs' ∧ vs'.size = cs'.length ∧ ∀ j (hj : j < cs'.length), VR w ρ (Bad outer ρ st.h) (vs'.getD j undef) cs'[j]
  | [], cs, cs', vs, hf, hs, hv => by simp [fillAll] at hf; subst hf; exact ⟨vs, rfl, hs, hv⟩
  | (f, x) :: r, cs, cs', vs, hf, hs, hv => by
    simp only [fillAll] at hf
    split at hf
    · cases hf
    rename_i off n hp
    cases hb : (Nat.beq n (cellsOf (opd st.s x)).length && leafs (cellsOf (opd st.s x)) && Nat.ble (off + n) cs.length)
    case false => simp [hb] at hf
    simp only [hb, cond_true] at hf
    simp only [Bool.and_eq_true] at hb
    obtain ⟨⟨hb1, hb2⟩, hb3⟩ := hb
    have hn := Nat.eq_of_beq_eq_true hb1
    have hle := Nat.le_of_ble_eq_true hb3
    obtain ⟨g1, g2, _⟩ := vr_cells (hr.opd x) hb2
    obtain ⟨k1, k2⟩ := fill_cells (a.eval x) off vs
    obtain ⟨s1, s2⟩ := splice_get cs off (cellsOf (opd st.s x)) (by omega)
    obtain ⟨vs', h1, h2, h3⟩ := fillAll_ok hr pl r _ cs' _ hf (by rw [k1, s1, hs]) (fun j hj => by
      rw [s2 j (by omega) hj, k2 j (by omega)]
      by_cases hin : off ≤ j ∧ j < off + (cellsOf (opd st.s x)).length
      · rw [dif_pos hin, if_pos (by omega)]; exact g2 _ (by omega)
      · rw [dif_neg hin, if_neg (by omega)]; exact hv j (by omega))
    refine ⟨vs', ?_, h2, h3⟩
    simp only [List.map_cons, Instr.fill, hp]
    rw [if_neg]
    · exact h1
    · simp; omega

variable {o : Oper} {i : Nat} (hr : Rel C w0 outer own ρ st a w)
include hr

theorem ok_build (t : TypeId) (parts : Array (Nat × Operand)) (ho : o.op = .build t parts) (hk : stepK C i o st some = some st') : Does C.P o a w (After C w0 outer own i ρ st') := by
  simp only [stepK, ho] at hk
  split at hk
  case h_2 => cases hk
  rename_i cs pl hz hpl
  obtain ⟨cs', hf, hk2⟩ := Option.bind_eq_some_iff.1 hk
  unfold zeroCells at hz
  split at hz
  case h_2 => cases hz
  rename_i z hz'
  cases hb : leafs (z.cells.toList.map litV) <;> simp [hb] at hz
  subst hz
  obtain ⟨info, hi1, hi2⟩ := Option.bind_eq_some_iff.1 hz'
  obtain ⟨vs', h1, h2, h3⟩ := fillAll_ok hr pl parts.toList _ cs' z.cells hf (by simp) (fun j hj => by
    rw [List.getElem_map]
    have hj' : j < z.cells.size := by simpa using hj
    rw [Array.getD_eq_getD_getElem?, Array.getElem?_eq_getElem hj']
    exact litV_ok _)
  unfold placesT at hpl
  split at hpl
  case h_2 => cases hpl
  rename_i fs hu
  have hbuilt : C.P.built t (parts.map fun (i, x) => (i, a.eval x)).toList = some vs' := by
    simp only [Program.built, hi1, hu, hi2, hpl, Array.toList_map]
    simpa using h1
  refine does_value (v := .agg vs') (w' := w) ?_ (hr.after (.agg cs' vs' h2 h3) hk2)
  simp only [execOp, ho, Sem.run_bind, run_build w t _ vs' hbuilt, Result.andThen_ok]
  rfl

theorem ok_makeSlice (hC : TnOk C) (t : TypeId) (x y : Operand) (ho : o.op = .makeSlice t x y) (hi : ρ i = none) (hk : stepK C i o st some = some st') : Does C.P o a w (After C w0 outer own i ρ st') := by
  simp only [stepK, ho] at hk
  split at hk
  case h_2 => cases hk
  rename_i tn z htn hz
  obtain ⟨e, he, hte⟩ := Option.bind_eq_some_iff.1 htn
  have hu : C.P.underlying t = some (.slice e) := by
    unfold elemT at he
    split at he
    · rename_i h1; cases he; exact h1
    · cases he
  obtain ⟨info, z', hi1, hi2, hi3, hi4, hi5⟩ := hC.ok e tn hte
  rw [he, Option.bind_some] at hz
  unfold zeroCells at hz
  rw [hi1, Option.bind_some, hi4] at hz
  simp only at hz
  cases hb : leafs (z'.cells.toList.map litV) <;> simp [hb] at hz
  subst hz
  split at hk
  case h_2 => cases hk
  rename_i n c hn hc
  cases hcond : (decide (0 ≤ n) && decide (n ≤ (LIM : Int)) && (n == c))
  case false => simp [hcond] at hk
  simp only [hcond, cond_true] at hk
  simp only [Bool.and_eq_true, decide_eq_true_eq, beq_iff_eq] at hcond
  obtain ⟨⟨h0, hlim⟩, rfl⟩ := hcond
  obtain ⟨x0, hx0, hk⟩ := Option.bind_eq_some_iff.1 hk
  have hx := hr.opd x; rw [hn] at hx
  have hy := hr.opd y; rw [hc] at hy
  generalize hvx : a.eval x = vx at hx
  generalize hvy : a.eval y = vy at hy
  cases hx; cases hy
  have hrun := run_make (P := C.P) w t e info z' hu hi1 hi4 .i64 .i64 n n h0 (Int.le_refl _) (by
    have h1 : info.bytes * n ≤ 1024 * n := Int.mul_le_mul_of_nonneg_right (by omega) h0
    unfold LIM at hlim; omega) (by unfold LIM at hlim; omega)
  have hrun2 : (execOp a.eval o).run C.P w = .ok (.value (.slice (some ⟨w.heap.size, 0, none⟩) n.toNat n.toNat)) (w.alloc (.cells (madeCells z'.cells (n.toNat * info.size)) e)) := by
    simp only [execOp, ho, hvx, hvy, Sem.run_bind, hrun, Result.andThen_ok]; rfl
  have hnm : n.toNat ≤ maxLen := by unfold maxLen; unfold LIM at hlim; omega
  have hsz : (madeCells z'.cells (n.toNat * info.size)).size = n.toNat * sz tn := by rw [size_madeCells, hi2]
  refine does_value hrun2 (hr.newRow hi ⟨w.heap.size, n.toNat, n.toNat, false⟩ (fun _ => rfl) _ (wx_alloc _ _) (fun b hb => heap_alloc_lt _ _ _ hb) (fun _ => by simp) (c := .arr tn (List.replicate n.toNat x0)) (fun bad hk2 => ?_) (fun bad => ?_) hk)
  · refine ⟨by simp, .inr ⟨rfl, Nat.le_refl _, hnm, fun j hj => ⟨World.frozen?_alloc_new _ _ _ _, ?_⟩, fun i' hi' j hj => ?_⟩⟩
    · have hj' : j < n.toNat * sz tn := hj
      rw [cell?_new w _ e j (by omega)]; rfl
    · have hin : i' < n.toNat := by simpa using hi'
      have hlt : i' * sz tn + j < (madeCells z'.cells (n.toNat * info.size)).size := by
        rw [hsz]
        have : (i' + 1) * sz tn ≤ n.toNat * sz tn := Nat.mul_le_mul_right _ hin
        rw [Nat.add_mul, Nat.one_mul] at this; omega
      refine ⟨_, cell?_new w _ e _ hlt, ?_⟩
      have hj2 : j < z'.cells.size := by omega
      have hval : (madeCells z'.cells (n.toNat * info.size)).getD (i' * sz tn + j) undef = z'.cells.getD j undef := by
        rw [Array.getD_eq_getD_getElem?, Array.getElem?_eq_getElem hlt, Array.getD_eq_getD_getElem?, Array.getElem?_eq_getElem hj2]
        simp only [madeCells, Array.getElem_map, Array.getElem_range, Option.getD_some]
        have hmod : (i' * sz tn + j) % z'.cells.size = j := by
          rw [hi5, Nat.add_comm, Nat.mul_comm, Nat.add_mul_mod_self_left, Nat.mod_eq_of_lt hj]
        rw [hmod, getElem!_pos z'.cells j hj2]
      rw [hval, List.getElem_replicate]
      have hs := dec_sub tn hx0
      have hs2 := hs.get j (by simpa using hj2) (by rw [enc_length]; exact hj)
      rw [getD_lt _ _ _ (by rw [enc_length]; exact hj)]
      refine hk2 _ _ (VR.sub hs2 ?_)
      rw [List.getElem_map, Array.getD_eq_getD_getElem?, Array.getElem?_eq_getElem hj2]
      simpa using litV_ok z'.cells[j]
  · exact .ow i ⟨w.heap.size, n.toNat, n.toNat, false⟩ (upd_same _ _ _) (Nat.le_refl _) hnm rfl

theorem ok_convert (hC : TnOk C) (src d : TypeId) (x : Operand) (ho : o.op = .convert src d x) (hi : ρ i = none) (hk : stepK C i o st some = some st') : Does C.P o a w (After C w0 outer own i ρ st') := by
  simp only [stepK, ho] at hk
  have hx := hr.opd x
  have hexec : ∀ v w', (convert src d (a.eval x)).run C.P w = .ok v w' → (execOp a.eval o).run C.P w = .ok (.value v) w' := fun v w' h1 => by
    simp [execOp, ho, h1]
  split at hk
  · rename_i k0 k k1 n h1 h2 h3
    rw [h3] at hx
    generalize hv : a.eval x = v at hx hexec
    cases hx
    refine does_value (hexec (.int k (k.wrap n)) w ?_) (hr.after (.int _ _ (wrap_fits _ _)) hk)
    simp [convert, run_underlying h1, run_underlying h2, Conv.intToInt]
  · rename_i e s h1 h2 h3
    split at hk
    case h_2 => cases hk
    rename_i h4 h5
    rw [h3] at hx
    cases hlim : Nat.ble s.length LIM
    case false => simp [hlim] at hk
    simp only [hlim, cond_true] at hk
    have hlim := Nat.le_of_ble_eq_true hlim
    generalize hv : a.eval x = v at hx hexec
    cases hx with
    | str _ hs =>
    obtain ⟨info, z, hi1, hi2, hi3, hi4, hi5⟩ := hC.ok e .byte h4
    have hrun := run_bytes_of_string (P := C.P) w src d e ⟨s.toArray⟩ h1 h2 h5
    have hss : (ByteArray.mk s.toArray).size = s.length := by simp [ByteArray.size]
    rw [hss] at hrun
    have hge := grownCap_ge w s.length 0 e
    have hcm : grownCap w s.length 0 e ≤ maxLen := grownCap_le_maxLen w s.length 0 e hs
    generalize hcap : grownCap w s.length 0 e = cap at hrun hge hcm
    have hbs : (bytesRow ⟨s.toArray⟩ cap).size = cap := by simp [bytesRow, hss]; omega
    refine does_value (hexec _ _ hrun) (hr.newRow hi ⟨w.heap.size, s.length, cap, false⟩ (fun _ => rfl) _ (Wx.trans (wx_drew w) (wx_alloc _ _))
      (fun b hb => heap_alloc_lt w.drew _ b hb) (fun _ => by simp) (c := .arr .byte s) (fun bad hk2 => ?_) (fun bad => ?_) hk)
    · have hcell : ∀ j, j < cap → (w.drew.alloc (.cells (bytesRow ⟨s.toArray⟩ cap) e ((bytesRow ⟨s.toArray⟩ cap).size, (bytesRow ⟨s.toArray⟩ cap).size + 1))).cell? (at_ w.heap.size j) = (bytesRow ⟨s.toArray⟩ cap)[j]? := fun j hj => by
        have hh : (w.drew.alloc (.cells (bytesRow ⟨s.toArray⟩ cap) e ((bytesRow ⟨s.toArray⟩ cap).size, (bytesRow ⟨s.toArray⟩ cap).size + 1))).heap[w.heap.size]? = some (.cells (bytesRow ⟨s.toArray⟩ cap) e ((bytesRow ⟨s.toArray⟩ cap).size, (bytesRow ⟨s.toArray⟩ cap).size + 1)) := by
          show (w.heap.push _)[w.heap.size]? = _
          simp
        unfold World.cell? at_
        rw [hh]
        rfl
      refine ⟨rfl, .inr ⟨rfl, hge, hcm, fun j hj => ?_, fun i' hi' j hj => ?_⟩⟩
      · have hj' : j < cap := by simpa [sz] using hj
        refine ⟨?_, ?_⟩
        · have := World.frozen?_alloc_mark w.drew (bytesRow ⟨s.toArray⟩ cap) e (bytesRow ⟨s.toArray⟩ cap).size ((bytesRow ⟨s.toArray⟩ cap).size + 1) j
          rw [World.size_drew] at this
          show World.frozen? _ ⟨w.heap.size, j, none⟩ = false
          rw [this, hbs]; simp; omega
        · rw [hcell j hj', Array.getElem?_eq_getElem (by omega)]; rfl
      · have hj0 : j = 0 := by simp [sz] at hj; exact hj
        subst hj0
        have hil : i' < s.length := hi'
        refine ⟨.int .u8 (s[i'].toNat : Int), ?_, ?_⟩
        · simp only [sz, Nat.mul_one, Nat.add_zero]
          rw [hcell i' (by omega), bytesRow_at _ _ _ (by simpa using hil)]
          simp
        · have := s[i'].toNat_lt
          exact .int _ _ ⟨by simp [IntKind.min, IntKind.signed], by simp [IntKind.max, IntKind.signed, IntKind.bits]; omega⟩
    · exact .ow i ⟨w.heap.size, s.length, cap, false⟩ (upd_same _ _ _) hge hcm rfl
  · rename_i e h1 h2
    split at hk
    case h_2 => cases hk
    rename_i l h5 h4
    cases hlim : Nat.ble l.length LIM
    case false => simp [hlim] at hk
    simp only [hlim, cond_true] at hk
    have hlim := Nat.le_of_ble_eq_true hlim
    obtain ⟨ao, cap, hv, hcase⟩ := elems_at hr hx h4
    refine does_value (hexec (.string ⟨l.toArray⟩) w ?_) (hr.after (.str l (by unfold LIM at hlim; unfold maxLen; omega)) hk)
    rw [hv]
    have empty : ∀ (ao : Option Addr) (c : Nat), (convert src d (.slice ao 0 c)).run C.P w = .ok (.string ⟨#[]⟩) w := fun ao c => by
      cases ao with
      | none => exact run_convert_bytes_nil w src e h1 h5 0 c d h2
      | some ad => exact run_convert_bytes_back w src d e ad c [] h1 h5 h2 (fun j hj => by simp at hj)
    rcases hcase with rfl | ⟨b, off, rfl, hc⟩
    · exact empty ao cap
    · refine run_convert_bytes_back w src d e (at_ b off) cap l h1 h5 h2 fun j hj => ?_
      obtain ⟨u, c1, c2⟩ := hc j hj 0 (by simp [sz])
      simp only [sz, Nat.mul_one, Nat.add_zero] at c1
      rw [add_at, c1]
      have : (enc .byte l[j]).getD 0 .undef = .int .u8 (l[j].toNat : Int) := rfl
      rw [this] at c2
      cases c2; rfl
  · cases hk

end
end Go.D

/-
  Plain values and the values of memory: when a value of the model, in a world, is what a plain value says.
-/
import Derived.Test.YtilkenfgjljknaaTypes
import Derived.WalkKit
import GoSem.ClaimData
namespace Go.D

/-- Where a row of the plain heap lies in memory: its block; for a slice its length and its room. -/
structure RI where
  b : Nat
  n : Nat
  cap : Nat
  nl : Bool

def Fits (k : IntKind) (n : Int) : Prop := k.min ≤ n ∧ n ≤ k.max

def at_ (b o : Nat) : Addr := ⟨b, o, none⟩

inductive VR (w : World) (ρ : Nat → Option RI) (bad : Nat → Prop) : Value → V → Prop where
  | undef (v : Value) : VR w ρ bad v .undef
  | bool (b : Bool) : VR w ρ bad (.bool b) (.bool b)
  | int (k : IntKind) (n : Int) (h : Fits k n) : VR w ρ bad (.int k n) (.int k n)
  | str (s : List UInt8) (h : s.length ≤ maxLen) : VR w ρ bad (.string ⟨s.toArray⟩) (.str s)
  | nil : VR w ρ bad (.slice none 0 0) .nil
  | slE (t : TN) (a : Option Addr) (cap : Nat) (h : cap ≤ maxLen) : VR w ρ bad (.slice a 0 cap) (.sl t [])
  | slC (t : TN) (l : List (El t)) (b off cap : Nat) (u : Nat → Nat → Value) (hb : ¬ bad b) (hl : l.length ≤ cap) (hc : cap ≤ maxLen)
      (hu : ∀ i, i < l.length → ∀ j, j < sz t → w.cell? (at_ b (off + i * sz t + j)) = some (u i j))
      (hv : ∀ i (h : i < l.length) j, j < sz t → VR w ρ bad (u i j) ((enc t l[i]).getD j .undef)) :
      VR w ρ bad (.slice (some (at_ b off)) l.length cap) (.sl t l)
  | ow (r : Nat) (ri : RI) (h : ρ r = some ri) (hn : ri.n ≤ ri.cap) (hc : ri.cap ≤ maxLen) (hnl : ri.nl = false) : VR w ρ bad (.slice (some (at_ ri.b 0)) ri.n ri.cap) (.ow r)
  | owN (r : Nat) (ri : RI) (ao : Option Addr) (h : ρ r = some ri) (hn : ri.n = 0) (hnl : ri.nl = true) : VR w ρ bad (.slice ao 0 0) (.ow r)
  | ov (r : Nat) (t : TN) (off len cap : Nat) (a : Option Addr) (ri : RI) (h : ρ r = some ri) (hof : off + len ≤ ri.n) (ha : len = 0 ∧ cap = 0 ∨ a = some (at_ ri.b (off * sz t)) ∧ ri.nl = false ∧ off + cap ≤ ri.cap)
      (hl : len ≤ cap) (hc : cap ≤ maxLen) : VR w ρ bad (.slice a len cap) (.ov r t off len)
  | bp (r off : Nat) (ri : RI) (h : ρ r = some ri) (hnl : ri.nl = false) : VR w ρ bad (.pointer (some (at_ ri.b off))) (.bp r off)
  | ep (r : Nat) (t : TN) (i off : Nat) (ri : RI) (h : ρ r = some ri) (hnl : ri.nl = false) : VR w ρ bad (.pointer (some (at_ ri.b (i * sz t + off)))) (.ep r t i off)
  | fp (cs : List V) (off b o : Nat) (u : Nat → Value) (h0 : 0 < cs.length) (hb : ¬ bad b) (hu : ∀ j, j < cs.length → w.cell? (at_ b (o + j)) = some (u j))
      (hv : ∀ j (h : j < cs.length), VR w ρ bad (u j) cs[j]) : VR w ρ bad (.pointer (some (at_ b (o + off)))) (.fp cs off)
  | fn (f : Nat) (cs : List V) (caps : Array Value) (hs : caps.size = cs.length) (hv : ∀ j (h : j < cs.length), VR w ρ bad (caps.getD j undef) cs[j]) :
      VR w ρ bad (.func (.func f) #[] caps) (.fn f cs)
  | agg (cs : List V) (vs : Array Value) (hs : vs.size = cs.length) (hv : ∀ j (h : j < cs.length), VR w ρ bad (vs.getD j undef) cs[j]) : VR w ρ bad (.agg vs) (.agg cs)
  | tup (cs : List V) (vs : Array Value) (hs : vs.size = cs.length) (hv : ∀ j (h : j < cs.length), VR w ρ bad (vs.getD j undef) cs[j]) : VR w ρ bad (.tuple vs) (.tup cs)
  | nili : VR w ρ bad .nilIface .nili
  | ifc (t : TypeId) (v : Value) : VR w ρ bad (.iface t v) .ifc

/-- The rows that a plain value names. -/
inductive RIn (S : Nat → Prop) : V → Prop where
  | undef : RIn S .undef
  | bool (b : Bool) : RIn S (.bool b)
  | int (k : IntKind) (n : Int) : RIn S (.int k n)
  | str (s : List UInt8) : RIn S (.str s)
  | nil : RIn S .nil
  | sl (t : TN) (l : List (El t)) (h : ∀ i (h : i < l.length) j, j < sz t → RIn S ((enc t l[i]).getD j .undef)) : RIn S (.sl t l)
  | ow (r : Nat) (h : S r) : RIn S (.ow r)
  | ov (r : Nat) (t : TN) (off len : Nat) (h : S r) : RIn S (.ov r t off len)
  | bp (r off : Nat) (h : S r) : RIn S (.bp r off)
  | ep (r : Nat) (t : TN) (i off : Nat) (h : S r) : RIn S (.ep r t i off)
  | fp (cs : List V) (off : Nat) (h : ∀ j (h : j < cs.length), RIn S cs[j]) : RIn S (.fp cs off)
  | fn (f : Nat) (cs : List V) (h : ∀ j (h : j < cs.length), RIn S cs[j]) : RIn S (.fn f cs)
  | agg (cs : List V) (h : ∀ j (h : j < cs.length), RIn S cs[j]) : RIn S (.agg cs)
  | tup (cs : List V) (h : ∀ j (h : j < cs.length), RIn S cs[j]) : RIn S (.tup cs)
  | nili : RIn S .nili
  | ifc : RIn S .ifc

section
variable {w : World} {ρ : Nat → Option RI} {bad : Nat → Prop} {v : Value} {d : V}

theorem VR.refs (h : VR w ρ bad v d) : RIn (fun r => ρ r ≠ none) d := by
  induction h with
  | undef => exact .undef
  | bool => exact .bool _
  | int => exact .int _ _
  | str => exact .str _
  | nil => exact .nil
  | slE => exact .sl _ _ (fun i h => by simp at h)
  | slC t l b off cap u hb hl hc hu hv ih => exact .sl _ _ ih
  | ow r ri h => exact .ow _ (by simp [h])
  | owN r ri ao h => exact .ow _ (by simp [h])
  | ov r t off len cap a ri h => exact .ov _ _ _ _ (by simp [h])
  | bp r off ri h => exact .bp _ _ (by simp [h])
  | ep r t i off ri h => exact .ep _ _ _ _ (by simp [h])
  | fp cs off b o u h0 hb hu hv ih => exact .fp _ _ ih
  | fn f cs caps hs hv ih => exact .fn _ _ ih
  | agg cs vs hs hv ih => exact .agg _ ih
  | tup cs vs hs hv ih => exact .tup _ ih
  | nili => exact .nili
  | ifc => exact .ifc

theorem cell?_lt {w : World} {b o : Nat} {u : Value} (h : w.cell? (at_ b o) = some u) : b < w.heap.size := by
  rcases Nat.lt_or_ge b w.heap.size with h' | h'
  · exact h'
  · simp [World.cell?, at_, Array.getElem?_eq_none h'] at h

theorem cell?_same {w w' : World} {b o : Nat} (h : w'.heap[b]? = w.heap[b]?) : w'.cell? (at_ b o) = w.cell? (at_ b o) := by
  simp [World.cell?, at_, h]

/-- What a value says stays so while memory turns elsewhere. -/
theorem VR.keep {w' : World} {ρ' : Nat → Option RI} {bad' : Nat → Prop} {S : Nat → Prop} (h : VR w ρ bad v d) (hS : RIn S d)
    (hρ : ∀ r ri, S r → ρ r = some ri → ρ' r = some ri)
    (hw : ∀ b, ¬ bad b → b < w.heap.size → w'.heap[b]? = w.heap[b]?) (hb : ∀ b, bad' b → bad b ∨ w.heap.size ≤ b) : VR w' ρ' bad' v d := by
  have hbad : ∀ b, ¬ bad b → b < w.heap.size → ¬ bad' b := fun b h1 h2 h3 => (hb b h3).elim h1 (by omega)
  induction h with
  | undef => exact .undef _
  | bool => exact .bool _
  | int k n h => exact .int _ _ h
  | str s h => exact .str _ h
  | nil => exact .nil
  | slE t a cap h => exact .slE _ _ _ h
  | slC t l b off cap u hb hl hc hu hv ih =>
    by_cases hl0 : l.length = 0
    · obtain rfl : l = [] := List.eq_nil_of_length_eq_zero hl0
      exact .slE _ _ _ hc
    · have hlt : b < w.heap.size := cell?_lt (hu 0 (by omega) 0 (sz_pos t))
      cases hS with
      | sl _ _ hS =>
      exact .slC t l b off cap u (hbad b hb hlt) hl hc (fun i h j hj => (cell?_same (hw b hb hlt)).trans (hu i h j hj)) (fun i h j hj => ih i h j hj (hS i h j hj))
  | ow r ri h hn hc hnl => cases hS with | ow _ hs => exact .ow _ _ (hρ _ _ hs h) hn hc hnl
  | owN r ri ao h hn hnl => cases hS with | ow _ hs => exact .owN _ _ _ (hρ _ _ hs h) hn hnl
  | ov r t off len cap a ri h hof ha hl hc => cases hS with | ov _ _ _ _ hs => exact .ov _ _ _ _ _ _ _ (hρ _ _ hs h) hof ha hl hc
  | bp r off ri h hnl => cases hS with | bp _ _ hs => exact .bp _ _ _ (hρ _ _ hs h) hnl
  | ep r t i off ri h hnl => cases hS with | ep _ _ _ _ hs => exact .ep _ _ _ _ _ (hρ _ _ hs h) hnl
  | fp cs off b o u h0 hb hu hv ih =>
    cases hS with
    | fp _ _ hS =>
    have hlt : b < w.heap.size := cell?_lt (hu 0 h0)
    exact .fp cs off b o u h0 (hbad b hb hlt) (fun j hj => (cell?_same (hw b hb hlt)).trans (hu j hj)) (fun j hj => ih j hj (hS j hj))
  | fn f cs caps hs hv ih => cases hS with | fn _ _ hS => exact .fn _ _ _ hs (fun j hj => ih j hj (hS j hj))
  | agg cs vs hs hv ih => cases hS with | agg _ hS => exact .agg _ _ hs (fun j hj => ih j hj (hS j hj))
  | tup cs vs hs hv ih => cases hS with | tup _ hS => exact .tup _ _ hs (fun j hj => ih j hj (hS j hj))
  | nili => exact .nili
  | ifc => exact .ifc _ _

theorem RIn.all {S : Nat → Prop} {d : V} (hS : ∀ r, S r) (h : RIn (fun r => ρ r ≠ none) d) : RIn S d := by
  induction h with
  | undef => exact .undef
  | bool => exact .bool _
  | int => exact .int _ _
  | str => exact .str _
  | nil => exact .nil
  | sl t l h ih => exact .sl _ _ ih
  | ow r h => exact .ow _ (hS _)
  | ov r t off len h => exact .ov _ _ _ _ (hS _)
  | bp r off h => exact .bp _ _ (hS _)
  | ep r t i off h => exact .ep _ _ _ _ (hS _)
  | fp cs off h ih => exact .fp _ _ ih
  | fn f cs h ih => exact .fn _ _ ih
  | agg cs h ih => exact .agg _ ih
  | tup cs h ih => exact .tup _ ih
  | nili => exact .nili
  | ifc => exact .ifc

/-- The plain way to keep: no row is forgotten. -/
theorem VR.mono {w' : World} {ρ' : Nat → Option RI} {bad' : Nat → Prop} (h : VR w ρ bad v d) (hρ : ∀ r ri, ρ r = some ri → ρ' r = some ri)
    (hw : ∀ b, ¬ bad b → b < w.heap.size → w'.heap[b]? = w.heap[b]?) (hb : ∀ b, bad' b → bad b ∨ w.heap.size ≤ b) : VR w' ρ' bad' v d :=
  h.keep (S := fun _ => True) (RIn.all (fun _ => trivial) h.refs) (fun r ri _ => hρ r ri) hw hb

/-- A value of one cell. -/
theorem VR.one (h : VR w ρ bad v d) (hd : d.leaf = true) : v.oneCell' = true := by
  cases h <;> first | rfl | simp [V.leaf] at hd

theorem fits_byte (n : Int) (h : Fits .u8 n) : ((UInt8.ofNat n.toNat).toNat : Int) = n := by
  obtain ⟨h1, h2⟩ := h
  simp [IntKind.min, IntKind.max, IntKind.signed, IntKind.bits] at h1 h2
  simp only [UInt8.toNat_ofNat']
  omega

theorem VR.sub {c d : V} (hs : Sub c d) (h : VR w ρ bad v c) : VR w ρ bad v d := by
  cases hs with
  | refl => exact h
  | byte n => cases h with | int _ _ hf => rw [fits_byte n hf]; exact .int _ _ hf
  | nil t => cases h; exact .slE _ _ _ (Nat.zero_le _)

end
end Go.D

/-
  Sizes of the program's data.
-/
import Derived.Test.YtnmnifbcflablaaDoorN7
import Derived.Lib.AtoiAll
import Derived.Lib.ItoaLen
import Derived.Test.YtnmnifbcflablaaDoorL8
import Derived.Below
namespace Go.D


end Go.D


/-
  Numbers and their digits.
-/
namespace Go.D

def itoaT (n : Int) : List UInt8 := Lib.itoa n
end Go.D

/-
  What the functions compute, as the plain semantics says it.
-/
namespace Go.D

noncomputable def spec_NumText.raw (a0 : Int) : Option (List UInt8) :=
  cond (a0 == 0)
  (some [48])
  (joinK (fun (y1 : (List UInt8)) =>
  cond (decide (a0 < 0))
  (cond (decide ([45].length + y1.length ≤ LIM)) (some ([45] ++ y1)) none)
  (some y1)) fun k2 =>
  loopK FU (fun (x3 : (List UInt8) × Int) k4 =>
  cond (x3.2 != 0)
  (joinK (fun (y5 : Int) =>
  let x7 : List UInt8 := [UInt8.ofNat (IntKind.wrap .u8 (iadd .i64 48 y5) : Int).toNat]
  cond (Nat.ble x7.length LIM) (cond (decide (x7.length + x3.1.length ≤ LIM)) (k4 ((x7 ++ x3.1), (iquo .i64 x3.2 10))) none) none) fun k6 =>
  cond (decide ((irem .i64 x3.2 10) < 0))
  (k6 (isub .i64 0 (irem .i64 x3.2 10)))
  (k6 (irem .i64 x3.2 10)))
  (k2 x3.1)) ([], a0))

noncomputable def impl_NumText.raw (a0 : Int) : Option (List UInt8) :=
  some (itoaT a0)

noncomputable def laws_FnExactNumText.raw (a0 : Int) : Option Bool :=
  cond (!((itoaT a0) == (itoaT a0)))
  (some false)
  (some true)

end Go.D

/-
  What the laws' own functions compute.
-/
namespace Go.D


end Go.D

/-
  Numbers and their digits: program and reference agree.
-/
namespace Go.D
open Go.Lib

theorem dec_big {u : Nat} (h : ¬ u < 10) : decDigits u = decDigits (u / 10) ++ [UInt8.ofNat (48 + u % 10)] := by rw [decDigits, dif_neg h]

end Go.D

/-
  Numbers and their digits: the laws.
-/
namespace Go.D
open Go.Lib

def digs (u : Nat) : List UInt8 := if u = 0 then [] else decDigits u
theorem digs_step {u : Nat} (h : u ≠ 0) : digs u = digs (u / 10) ++ [UInt8.ofNat (48 + u % 10)] := by
  unfold digs
  rw [if_neg h]
  by_cases h1 : u < 10
  · rw [if_pos (by omega), decDigits_one h1, show u % 10 = u by omega]; rfl
  · rw [if_neg (by omega), dec_big h1]

theorem spec_NumText_raw (n : Int) (h0 : -9223372036854775808 ≤ n) (h1 : n ≤ 9223372036854775807) : spec_NumText.raw n = some (itoaT n) := by
  have hL := LIM_is
  by_cases hz : n = 0
  · subst hz
    show some [48] = some (itoaT 0)
    unfold itoaT itoa
    rw [if_neg (by omega), show Int.toNat 0 = 0 from rfl, decDigits_one (by omega)]; rfl
  have hlen := itoa_length_le n h0 h1
  have hd : digs n.natAbs = decDigits n.natAbs := by unfold digs; rw [if_neg (by omega)]
  have hdl : (digs n.natAbs).length ≤ 21 := by
    rw [hd]; unfold itoa at hlen
    by_cases hn : n < 0
    · rw [if_pos hn] at hlen; simp at hlen; omega
    · rw [if_neg hn, show n.toNat = n.natAbs by omega] at hlen; exact hlen
  have hz' : (n == 0) = false := by simpa using hz
  simp only [spec_NumText.raw, joinK, hz', cond_false]
  refine (loop_FU (g := fun _ => some (itoaT n)) (fun x : List UInt8 × Int => -9223372036854775808 ≤ x.2 ∧ x.2 ≤ 9223372036854775807 ∧ digs x.2.natAbs ++ x.1 = digs n.natAbs) (fun x => x.2.natAbs) (fun x hx k hk => ?_) ⟨h0, h1, by simp⟩ (by show n.natAbs < _; omega)).trans rfl
  obtain ⟨s, x⟩ := x
  obtain ⟨hx0, hx1, hxe⟩ := hx
  simp only at hx0 hx1 hxe hk ⊢
  by_cases hxz : x = 0
  · subst hxz
    have e : digs (Int.natAbs 0) = [] := rfl
    rw [e, List.nil_append] at hxe
    have e2 : ((0 : Int) != 0) = false := rfl
    rw [e2, cond_false, hxe]
    unfold itoaT itoa
    by_cases hn : n < 0
    · have h5 : [(45 : Nat)].length + (digs n.natAbs).length ≤ LIM := by simp; omega
      simp only [hn, h5, decide_true, cond_true, if_pos]
      rw [hd]; rfl
    · rw [decide_eq_false hn, cond_false, if_neg hn, hd, show n.toNat = n.natAbs by omega]
  · have e2 : (x != 0) = true := by simpa using hxz
    rw [e2, cond_true]
    have hm : (irem .i64 x 10).natAbs = x.natAbs % 10 := by unfold irem; rw [Int.natAbs_tmod]; rfl
    have hq0 : (x.tdiv 10).natAbs = x.natAbs / 10 := by rw [Int.natAbs_tdiv]; rfl
    have hq : iquo .i64 x 10 = x.tdiv 10 := by unfold iquo; rw [wrap_i64 (by omega) (by omega)]
    have hsl : s.length ≤ 21 := by
      have := congrArg List.length hxe
      rw [List.length_append] at this; omega
    have hne : x.natAbs ≠ 0 := by omega
    have fin : ∀ d : Int, d = ((x.natAbs % 10 : Nat) : Int) →
        (cond (Nat.ble [UInt8.ofNat (IntKind.wrap .u8 (iadd .i64 48 d)).toNat].length LIM) (cond (decide ([UInt8.ofNat (IntKind.wrap .u8 (iadd .i64 48 d)).toNat].length + s.length ≤ LIM)) (k (([UInt8.ofNat (IntKind.wrap .u8 (iadd .i64 48 d)).toNat] ++ s), (iquo .i64 x 10))) none) none) = some (itoaT n) := by
      intro d hd'
      subst hd'
      have e3 : UInt8.ofNat (IntKind.wrap .u8 (iadd .i64 48 ((x.natAbs % 10 : Nat) : Int))).toNat = UInt8.ofNat (48 + x.natAbs % 10) := by
        have h1 : iadd .i64 48 ((x.natAbs % 10 : Nat) : Int) = ((48 + x.natAbs % 10 : Nat) : Int) := by
          unfold iadd; rw [wrap_i64 (by omega) (by omega)]; omega
        have h2 : IntKind.wrap .u8 ((48 + x.natAbs % 10 : Nat) : Int) = ((48 + x.natAbs % 10 : Nat) : Int) := by
          simp only [IntKind.wrap]
          simp [IntKind.bits, IntKind.signed]; omega
        rw [h1, h2, Int.toNat_natCast]
      rw [e3]
      have e4 : Nat.ble [UInt8.ofNat (48 + x.natAbs % 10)].length LIM = true := Nat.ble_eq_true_of_le (by simp; omega)
      have e5 : decide ([UInt8.ofNat (48 + x.natAbs % 10)].length + s.length ≤ LIM) = true := by simp; omega
      rw [e4, cond_true, e5, cond_true, hq]
      refine hk _ ⟨?_, ?_, ?_⟩ ?_
      · show -9223372036854775808 ≤ x.tdiv 10; omega
      · show x.tdiv 10 ≤ 9223372036854775807; omega
      · show digs (x.tdiv 10).natAbs ++ ([UInt8.ofNat (48 + x.natAbs % 10)] ++ s) = digs n.natAbs
        rw [hq0, ← List.append_assoc, ← digs_step hne, hxe]
      · show (x.tdiv 10).natAbs < x.natAbs
        rw [hq0]; omega
    by_cases hneg : irem .i64 x 10 < 0
    · rw [decide_eq_true hneg, cond_true]
      refine fin _ ?_
      unfold isub; rw [wrap_i64 (by omega) (by omega)]; omega
    · rw [decide_eq_false hneg, cond_false]
      exact fin _ (by omega)

theorem spec_NumText.ok {x : TyTup [.v .int]} (hb : bdTup [.v .int] x) : spec_NumText.raw x = some (itoaT x) := by
  have h := fits_i64 (bdx_fits (t := .int) (x := x) (hb) 0 (by decide) rfl)
  exact spec_NumText_raw x h.1 h.2
theorem impl_NumText.ok {x : TyTup [.v .int]} (_ : bdTup [.v .int] x) : impl_NumText.raw x = some (itoaT x) := rfl

theorem same_list (s : List UInt8) : (s == s) = true := by simp

theorem laws_FnExactNumText.ok {x : TyTup [.v .int]} (_ : bdTup [.v .int] x) : laws_FnExactNumText.raw x = some (always (α := Int) x) := by
  unfold laws_FnExactNumText.raw
  rw [same_list]; rfl

end Go.D

/-
  strconv.Itoa and strconv.Atoi as contracts.
-/
namespace Go.D
open Go.RowKit

theorem wx_below {w w' : World} (h : Below w.heap.size w w') : Wx w w' := ⟨h.os, h.tape, h.output, h.size⟩

theorem asI_eq {c : V} {n : Int} (h : asI c = some n) : c = .int .i64 n := by
  cases c <;> simp [asI] at h
  rename_i k m; cases k <;> simp at h; subst h; rfl
theorem decInt {v : V} {n : Int} (h : decTy (.v .int) v = some n) : v = .int .i64 n := by
  have key : dec .int [v] = some n → v = .int .i64 n := fun h => by
    obtain ⟨c0, cs, f0, h1, h0, h2⟩ := tk_some (show tk asI [v] (fun b cs => fin cs b) = some n from h)
    cases h1
    obtain ⟨-, rfl⟩ := fin_some h2
    exact asI_eq h0
  cases v <;> first | exact key h | cases h
theorem itoa_ctr {P : Program} {f : Nat} (g : Gl) (hent : ∀ args w, (callFunc f args).run P w = .ok (.enter f args) w)
    (h : ∀ (n : Int) (w : World), -9223372036854775808 ≤ n → n ≤ 9223372036854775807 → g.p w →
      Calls P f #[.int .i64 n] w fun e w' => e = .returned (.string ⟨(Lib.itoa n).toArray⟩) ∧ Below w.heap.size w w') :
    Contract P f (mkCI (plains 1) [.v .int] [.v .str] (fun x => some (itoaT x)) [(false, 1)] [] false) g := by
  refine ctr_plain _ g 1 rfl rfl rfl (fun as a ha => ?_) fun w args as a r ρ bad hs hl hv hd hF hg => ?_
  · match as, ha with
    | [_], _ => rfl
    | [], ha => cases ha
    | _ :: _ :: _, ha => cases ha
  · match as, hl with
    | [v], _ =>
    have h0 := hv 0 (by simp)
    have hd' : decTy (.v .int) v = some a := hd
    have hF' : some (itoaT a) = some r := hF
    cases hF'
    obtain rfl := decInt hd'
    generalize a = n at *
    have hargs : args = #[.int .i64 n] := by
      have h1 : args.getD 0 undef = .int .i64 n := by
        have h0' : VR w ρ bad (args.getD 0 undef) (.int .i64 n) := h0
        generalize args.getD 0 undef = u at h0'
        cases h0'; rfl
      apply Array.ext
      · simpa using hs
      · intro i hi1 hi2
        have : i = 0 := by simp at hi2; exact hi2
        subst this
        rw [Array.getD_eq_getD_getElem?, Array.getElem?_eq_getElem hi1] at h1
        simpa using h1
    have hf : Fits .i64 n := by
      have h0' : VR w ρ bad (args.getD 0 undef) (.int .i64 n) := h0
      generalize args.getD 0 undef = u at h0'
      cases h0'; assumption
    obtain ⟨f1, f2⟩ := fits_i64 hf
    subst hargs
    refine .inl ⟨hent _ _, Calls.mono' (h n w f1 f2 hg) fun e w' ⟨h1, h2⟩ => ⟨_, h1, wx_below h2, h2.block, fun ρ' bad' => ?_⟩⟩
    have hl := Lib.itoa_length_le n f1 f2
    exact .str (Lib.itoa n) (by rw [maxLen_is]; omega)

end Go.D

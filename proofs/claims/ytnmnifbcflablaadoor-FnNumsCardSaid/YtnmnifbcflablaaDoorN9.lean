/-
  Sizes of the program's data.
-/
import Derived.Test.YtnmnifbcflablaaDoorN7
import Derived.Lib.AtoiAll
import Derived.Lib.ItoaLen
import Derived.Test.YtnmnifbcflablaaDoorL8
import Derived.Below
namespace Go.D


end Go.D


/-
  Numbers and their digits.
-/
namespace Go.D

def itoaT (n : Int) : List UInt8 := Lib.itoa n
def atoiT (s : List UInt8) : Int × Bool := match Lib.atoiAll s with
  | .ok v => (v, true)
  | .«syntax» => (0, false)
  | .range => (Lib.atoiSat s, false)
noncomputable def atoiO (s : List UInt8) : Option (Int × Bool) := pt (s.length ≤ 281474976710656) (atoiT s)

/-- The digits, behind each other, as a number. -/
def numOf : Int → List UInt8 → Option Int
  | n, [] => some n
  | n, c :: r => bif inR ((c.toNat : Nat) : Int) 48 57 then numOf (10 * n + (((c.toNat : Nat) : Int) - 48)) r else none
def parseN (s : List UInt8) : Int × Bool :=
  bif decide (s.length = 0) || decide (5 < s.length) || (decide (1 < s.length) && s[0]? == some 48) then (0, false)
  else match numOf 0 s with
    | some n => bif decide (n > 10000) then (0, false) else (n, true)
    | none => (0, false)
noncomputable def parseO (s : List UInt8) : Option (Int × Bool) := pt (s.length ≤ 281474976710656) (parseN s)
def stName (k : Int) : List UInt8 :=
  bif k == 0 then [105, 100, 108, 101] else bif k == 1 then [105, 110, 105, 116] else bif k == 2 then [102, 105, 110, 105, 115, 104] else bif k == 3 then [117, 112] else []

end Go.D

/-
  What the functions compute, as the plain semantics says it.
-/
namespace Go.D

noncomputable def spec_NumText.raw (a0 : Int) : Option (List UInt8) :=
  cond (a0 == 0)
  (some [48])
  (joinK (fun (y1 : (List UInt8)) =>
  cond (decide (a0 < 0))
  (cond (decide ([45].length + y1.length ≤ LIM)) (some ([45] ++ y1)) none)
  (some y1)) fun k2 =>
  loopK FU (fun (x3 : (List UInt8) × Int) k4 =>
  cond (x3.2 != 0)
  (joinK (fun (y5 : Int) =>
  let x7 : List UInt8 := [UInt8.ofNat (IntKind.wrap .u8 (iadd .i64 48 y5) : Int).toNat]
  cond (Nat.ble x7.length LIM) (cond (decide (x7.length + x3.1.length ≤ LIM)) (k4 ((x7 ++ x3.1), (iquo .i64 x3.2 10))) none) none) fun k6 =>
  cond (decide ((irem .i64 x3.2 10) < 0))
  (k6 (isub .i64 0 (irem .i64 x3.2 10)))
  (k6 (irem .i64 x3.2 10)))
  (k2 x3.1)) ([], a0))

noncomputable def impl_NumText.raw (a0 : Int) : Option (List UInt8) :=
  some (itoaT a0)

noncomputable def spec_ParseNum.raw (a0 : List UInt8) : Option (Int × Bool) :=
  joinK (fun (y1 : Bool) =>
  cond (y1)
  (some (0, false))
  (joinK (fun (y4 : Int) =>
  cond (decide (y4 > 10000))
  (some (0, false))
  (some (y4, true))) fun k5 =>
  loopK FU (fun (x6 : Int × Int) k7 =>
  cond (decide (x6.2 < (a0.length : Int)))
  (Option.bind (idxI a0 x6.2) fun b8 =>
  let x9 : Int := IntKind.wrap .i64 ((b8.toNat : Nat) : Int)
  cond (!(inR x9 48 57))
  (some (0, false))
  (Option.bind (idxI a0 x6.2) fun b10 =>
  let x11 : Int := IntKind.wrap .i64 (isub .u8 ((b10.toNat : Nat) : Int) 48)
  k7 ((iadd .i64 (imul .i64 10 x6.1) x11), (iadd .i64 x6.2 1))))
  (k5 x6.1)) (0, 0))) fun k2 =>
  cond ((a0.length : Int) == 0)
  (k2 true)
  (cond (decide ((a0.length : Int) > 5))
  (k2 true)
  (cond (decide ((a0.length : Int) > 1))
  (Option.bind (idxI a0 0) fun b3 =>
  k2 (((b3.toNat : Nat) : Int) == 48))
  (k2 false)))

noncomputable def impl_ParseNum.raw (a0 : List UInt8) : Option (Int × Bool) :=
  Option.bind (atoiO a0) fun r1 =>
  joinK (fun (y2 : Bool) =>
  cond (y2)
  (some (0, false))
  (some (r1.1, true))) fun k3 =>
  cond (!r1.2)
  (k3 true)
  (cond (!(inR r1.1 0 10000))
  (k3 true)
  (k3 (!((itoaT r1.1) == a0))))

noncomputable def spec_l1Once.raw (a0 : G.Cur) (a1 : Int) : Option (Bool × G.Cur) :=
  Option.bind (spec_l1Below.raw a0 a1) fun r1 =>
  some (r1.1 == 0, r1.2)

noncomputable def spec_l1Odd.raw (a0 : G.Cur) : Option (Int × G.Cur) :=
  let x1 : List Int := [(-1), 0, 1, 2, 255, 256, 65535, 2147483647, 2147483648, 4294967295, 4294967296, (-2147483648), 9223372036854775807, (-9223372036854775808)]
  Option.bind (spec_l1Int.raw a0 x1) fun r2 =>
  some (r2.1, r2.2)

noncomputable def spec_DrawNumText.raw (a0 : List UInt8) : Option Int :=
  Option.bind (spec_l1New.raw a0) fun r1 =>
  Option.bind (spec_l1Once.raw r1 2) fun r2 =>
  cond (r2.1)
  (Option.bind (spec_l1Odd.raw r2.2) fun r3 =>
  some r3.1)
  (Option.bind (spec_l1Below.raw r2.2 2000) fun r4 =>
  some (isub .i64 r4.1 1000))

noncomputable def spec_l1Str.raw (a0 : G.Cur) (a1 : List (List UInt8)) : Option ((List UInt8) × G.Cur) :=
  Option.bind (spec_l1Below.raw a0 (a1.length : Int)) fun r1 =>
  Option.bind (idxI a1 r1.1) fun e2 =>
  some (e2, r1.2)

noncomputable def spec_DrawParseNum.raw (a0 : List UInt8) : Option (List UInt8) :=
  Option.bind (spec_l1New.raw a0) fun r1 =>
  Option.bind (spec_l1Once.raw r1 2) fun r2 =>
  cond (r2.1)
  (let x3 : List (List UInt8) := [[], [48], [48, 48], [48, 49], [49, 48, 48, 48, 48], [49, 48, 48, 48, 49], [57, 57, 57, 57, 57], [45, 49], [43, 49], [32, 49], [49, 50, 51, 52, 53, 54], [57, 97]]
  Option.bind (spec_l1Str.raw r2.2 x3) fun r4 =>
  some r4.1)
  (Option.bind (spec_l1Below.raw r2.2 10002) fun r5 =>
  some (itoaT r5.1))

noncomputable def spec_DrawStName.raw (a0 : List UInt8) : Option Int :=
  Option.bind (spec_l1New.raw a0) fun r1 =>
  Option.bind (spec_l1Below.raw r1 6) fun r2 =>
  some (isub .i64 r2.1 1)

noncomputable def impl_StName.raw (a0 : Int) : Option (List UInt8) :=
  cond (!(inR a0 0 3))
  (some [])
  (let x1 : List (List UInt8) := [[105, 100, 108, 101], [105, 110, 105, 116], [102, 105, 110, 105, 115, 104], [117, 112]]
  cond (decide (0 ≤ a0) && decide (a0 < (x1.length : Int))) (Option.bind (x1[a0.toNat]?) fun e2 =>
  some e2) none)

noncomputable def spec_StName.raw (a0 : Int) : Option (List UInt8) :=
  cond (a0 == 0)
  (some [105, 100, 108, 101])
  (cond (a0 == 1)
  (some [105, 110, 105, 116])
  (cond (a0 == 2)
  (some [102, 105, 110, 105, 115, 104])
  (cond (a0 == 3)
  (some [117, 112])
  (some []))))

noncomputable def laws_FnNums.raw (a0 : List UInt8) : Option Bool :=
  cond ((big a0))
  (some true)
  (Option.bind (spec_DrawNumText.raw a0) fun r1 =>
  Option.bind (parseO (itoaT r1)) fun r2 =>
  Option.bind (spec_DrawParseNum.raw a0) fun r3 =>
  Option.bind (parseO r3) fun r4 =>
  let r5 : Int × Bool := parseN r3
  Option.bind (spec_DrawStName.raw a0) fun r6 =>
  joinK (fun (y7 : Bool) =>
  some y7) fun k8 =>
  cond ((itoaT r1) == (itoaT r1))
  (cond (decide (r1 ≥ 0))
  (cond (r2.2 == (decide (r1 ≤ 10000)))
  (cond (!r2.2)
  (cond (r4.2 == r5.2)
  (cond (!r4.2)
  (cond (decide (r6 < 0))
  (cond (((stName r6) == []) == true)
  (k8 ((stName r6) == (stName r6)))
  (k8 false))
  (cond (((stName r6) == []) == (decide (r6 > 3)))
  (k8 ((stName r6) == (stName r6)))
  (k8 false)))
  (cond ((itoaT r4.1) == r3)
  (cond (decide (r6 < 0))
  (cond (((stName r6) == []) == true)
  (k8 ((stName r6) == (stName r6)))
  (k8 false))
  (cond (((stName r6) == []) == (decide (r6 > 3)))
  (k8 ((stName r6) == (stName r6)))
  (k8 false)))
  (k8 false)))
  (k8 false))
  (cond (r2.1 == r1)
  (cond (r4.2 == r5.2)
  (cond (!r4.2)
  (cond (decide (r6 < 0))
  (cond (((stName r6) == []) == true)
  (k8 ((stName r6) == (stName r6)))
  (k8 false))
  (cond (((stName r6) == []) == (decide (r6 > 3)))
  (k8 ((stName r6) == (stName r6)))
  (k8 false)))
  (cond ((itoaT r4.1) == r3)
  (cond (decide (r6 < 0))
  (cond (((stName r6) == []) == true)
  (k8 ((stName r6) == (stName r6)))
  (k8 false))
  (cond (((stName r6) == []) == (decide (r6 > 3)))
  (k8 ((stName r6) == (stName r6)))
  (k8 false)))
  (k8 false)))
  (k8 false))
  (k8 false)))
  (k8 false))
  (cond (r2.2 == false)
  (cond (!r2.2)
  (cond (r4.2 == r5.2)
  (cond (!r4.2)
  (cond (decide (r6 < 0))
  (cond (((stName r6) == []) == true)
  (k8 ((stName r6) == (stName r6)))
  (k8 false))
  (cond (((stName r6) == []) == (decide (r6 > 3)))
  (k8 ((stName r6) == (stName r6)))
  (k8 false)))
  (cond ((itoaT r4.1) == r3)
  (cond (decide (r6 < 0))
  (cond (((stName r6) == []) == true)
  (k8 ((stName r6) == (stName r6)))
  (k8 false))
  (cond (((stName r6) == []) == (decide (r6 > 3)))
  (k8 ((stName r6) == (stName r6)))
  (k8 false)))
  (k8 false)))
  (k8 false))
  (cond (r2.1 == r1)
  (cond (r4.2 == r5.2)
  (cond (!r4.2)
  (cond (decide (r6 < 0))
  (cond (((stName r6) == []) == true)
  (k8 ((stName r6) == (stName r6)))
  (k8 false))
  (cond (((stName r6) == []) == (decide (r6 > 3)))
  (k8 ((stName r6) == (stName r6)))
  (k8 false)))
  (cond ((itoaT r4.1) == r3)
  (cond (decide (r6 < 0))
  (cond (((stName r6) == []) == true)
  (k8 ((stName r6) == (stName r6)))
  (k8 false))
  (cond (((stName r6) == []) == (decide (r6 > 3)))
  (k8 ((stName r6) == (stName r6)))
  (k8 false)))
  (k8 false)))
  (k8 false))
  (k8 false)))
  (k8 false)))
  (k8 false))

end Go.D

/-
  What the laws' own functions compute.
-/
namespace Go.D


end Go.D

/-
  Numbers and their digits: program and reference agree.
-/
namespace Go.D
open Go.Lib

def isDig (c : UInt8) : Bool := decide (48 ≤ c.toNat) && decide (c.toNat ≤ 57)
def numN (acc : Nat) (l : List UInt8) : Nat := l.foldl (fun n c => 10 * n + (c.toNat - 48)) acc

theorem isDig_iff {c : UInt8} : isDig c = true ↔ 48 ≤ c.toNat ∧ c.toNat ≤ 57 := by simp [isDig]

theorem numOf_eq : ∀ (l : List UInt8) (acc : Nat), numOf (acc : Int) l = bif l.all isDig then some ((numN acc l : Nat) : Int) else none
  | [], acc => rfl
  | c :: r, acc => by
    rw [numOf, List.all_cons]
    have h1 : inR ((c.toNat : Nat) : Int) 48 57 = isDig c := by
      unfold inR isDig
      rw [Bool.eq_iff_iff]; simp; omega
    rw [h1]
    cases h : isDig c
    · rfl
    · rw [isDig_iff] at h
      simp only [cond_true, Bool.true_and]
      have : 10 * (acc : Int) + (((c.toNat : Nat) : Int) - 48) = ((10 * acc + (c.toNat - 48) : Nat) : Int) := by omega
      rw [this, numOf_eq r]
      rfl

theorem numN_app (acc : Nat) (l : List UInt8) (c : UInt8) : numN acc (l ++ [c]) = 10 * numN acc l + (c.toNat - 48) := by simp [numN]

theorem numN_ge : ∀ (l : List UInt8) (acc : Nat), acc ≤ numN acc l
  | [], acc => Nat.le_refl _
  | c :: r, acc => by
    have := numN_ge r (10 * acc + (c.toNat - 48))
    show acc ≤ numN (10 * acc + (c.toNat - 48)) r
    omega

theorem parseUint10_num : ∀ (l : List UInt8) (acc : Nat), l.all isDig = true → numN acc l < 18446744073709551616 → parseUint10 acc l = .ok (numN acc l)
  | [], acc, _, _ => rfl
  | c :: r, acc, h, hn => by
    rw [List.all_cons, Bool.and_eq_true, isDig_iff] at h
    have h1 := numN_ge r (10 * acc + (c.toNat - 48))
    have hn' : numN (10 * acc + (c.toNat - 48)) r < 18446744073709551616 := hn
    rw [parseUint10, if_pos h.1, if_neg (by omega), if_neg (by omega), Nat.mul_comm acc 10, parseUint10_num r _ h.2 hn']
    rfl

theorem dig_of (d : Nat) (h : d < 10) : (UInt8.ofNat (48 + d)).toNat = 48 + d := by
  rw [UInt8.toNat_ofNat']; omega
theorem of_dig {c : UInt8} (h : isDig c = true) : UInt8.ofNat (48 + (c.toNat - 48)) = c := by
  rw [isDig_iff] at h
  rw [show 48 + (c.toNat - 48) = c.toNat by omega, UInt8.ofNat_toNat]

theorem dec_big {u : Nat} (h : ¬ u < 10) : decDigits u = decDigits (u / 10) ++ [UInt8.ofNat (48 + u % 10)] := by rw [decDigits, dif_neg h]

/-- Digits without a leading zero are those of their number. -/
theorem dec_num : ∀ (n : Nat) (l : List UInt8), l.length = n → l ≠ [] → l.all isDig = true → (l.length = 1 ∨ l.head? ≠ some 48) →
    decDigits (numN 0 l) = l ∧ (l.head? ≠ some 48 → 1 ≤ numN 0 l)
  | 0, l, hl, h0, _, _ => absurd (List.eq_nil_of_length_eq_zero hl) h0
  | n + 1, l, hl, h0, hd, hz => by
    obtain ⟨t, c, rfl⟩ : ∃ t c, l = t ++ [c] := ⟨l.dropLast, l.getLast h0, (List.dropLast_concat_getLast h0).symm⟩
    rw [List.all_append, Bool.and_eq_true] at hd
    have hc : isDig c = true := by simpa using hd.2
    have hc' := isDig_iff.1 hc
    rw [numN_app]
    cases t with
    | nil =>
      have h1 : numN 0 [] = 0 := rfl
      rw [h1, show 10 * 0 + (c.toNat - 48) = c.toNat - 48 by omega]
      refine ⟨?_, fun hh => ?_⟩
      · rw [decDigits_one (by omega), of_dig hc]; rfl
      · rcases Nat.eq_or_lt_of_le hc'.1 with h | h
        · exfalso; apply hh
          have : c = 48 := UInt8.toNat_inj.1 (by rw [← h]; rfl)
          rw [this]; rfl
        · omega
    | cons a r =>
      have hz' : ((a :: r) ++ [c]).head? ≠ some 48 := by
        rcases hz with h | h
        · simp at h
        · exact h
      have hz2 : (a :: r).head? ≠ some 48 := by simpa using hz'
      obtain ⟨h1, h2⟩ := dec_num n (a :: r) (by simp at hl ⊢; omega) (by simp) hd.1 (.inr hz2)
      have h3 := h2 hz2
      refine ⟨?_, fun _ => by omega⟩
      rw [dec_big (by omega), show (10 * numN 0 (a :: r) + (c.toNat - 48)) / 10 = numN 0 (a :: r) by omega,
        show (10 * numN 0 (a :: r) + (c.toNat - 48)) % 10 = c.toNat - 48 by omega, h1, of_dig hc]

/-- The digits of a number. -/
theorem num_dec (u : Nat) : (decDigits u).all isDig = true ∧ numN 0 (decDigits u) = u ∧ decDigits u ≠ [] ∧ (1 ≤ u → (decDigits u).head? ≠ some 48) := by
  induction u using Nat.strongRecOn with
  | ind u ih =>
    by_cases h : u < 10
    · rw [decDigits_one h]
      have hd := dig_of u h
      refine ⟨by simp [isDig, hd]; omega, ?_, by simp, fun h1 hh => ?_⟩
      · show 10 * 0 + ((UInt8.ofNat (48 + u)).toNat - 48) = u; omega
      · have : UInt8.ofNat (48 + u) = 48 := by simpa using hh
        have : (UInt8.ofNat (48 + u)).toNat = 48 := by rw [this]; rfl
        omega
    · obtain ⟨h1, h2, h3, h4⟩ := ih (u / 10) (by omega)
      have hd := dig_of (u % 10) (by omega)
      rw [dec_big h]
      refine ⟨?_, ?_, by simp, fun _ => ?_⟩
      · rw [List.all_append, h1]; simp [isDig, hd]; omega
      · rw [numN_app, h2, hd]; omega
      · have := h4 (by omega)
        cases hq : decDigits (u / 10) with
        | nil => exact absurd hq h3
        | cons a r => rw [hq] at this; simpa using this

theorem nDigits_le5 {u : Nat} (h : u < 100000) : nDigits u ≤ 5 := by
  by_cases h1 : u < 10
  · rw [nDigits_small h1]; omega
  rw [nDigits_big h1]
  by_cases h2 : u / 10 < 10
  · rw [nDigits_small h2]; omega
  rw [nDigits_big h2]
  by_cases h3 : u / 10 / 10 < 10
  · rw [nDigits_small h3]; omega
  rw [nDigits_big h3]
  by_cases h4 : u / 10 / 10 / 10 < 10
  · rw [nDigits_small h4]; omega
  rw [nDigits_big h4, nDigits_small (by omega)]
  omega

theorem parseN_dec (u : Nat) : parseN (decDigits u) = if u ≤ 10000 then ((u : Int), true) else (0, false) := by
  obtain ⟨h1, h2, h3, h4⟩ := num_dec u
  have hlen : (decDigits u).length ≠ 0 := fun h => h3 (List.eq_nil_of_length_eq_zero h)
  unfold parseN
  have e0 : decide ((decDigits u).length = 0) = false := by simpa using h3
  have e2 : (decide (1 < (decDigits u).length) && (decDigits u)[0]? == some 48) = false := by
    by_cases hu : 1 ≤ u
    · have := h4 hu
      rw [List.head?_eq_getElem?] at this
      have : ((decDigits u)[0]? == some 48) = false := by simpa using this
      rw [this, Bool.and_false]
    · obtain rfl : u = 0 := by omega
      rw [decDigits_one (by omega)]; rfl
  have e3 : numOf 0 (decDigits u) = some (u : Int) := by
    have := numOf_eq (decDigits u) 0
    rw [h1, h2] at this
    exact this
  rw [e0, e2, Bool.or_false, Bool.false_or]
  by_cases hu : u ≤ 10000
  · have e1 : decide (5 < (decDigits u).length) = false := by
      rw [decDigits_length]; have := nDigits_le5 (u := u) (by omega); simp; omega
    rw [e1, if_pos hu, cond_false, e3]
    have : decide ((u : Int) > 10000) = false := by simp; omega
    simp only [this, cond_false]
  · rw [if_neg hu, e3]
    have : decide ((u : Int) > 10000) = true := by simp; omega
    simp only [this, cond_true]
    cases decide (5 < (decDigits u).length) <;> rfl

/-- Numbers are parsed from their digits, if they are accepted. -/
theorem parseN_itoa (n : Int) : parseN (itoaT n) = if 0 ≤ n ∧ n ≤ 10000 then (n, true) else (0, false) := by
  unfold itoaT itoa
  by_cases hn : n < 0
  · rw [if_pos hn, if_neg (by omega)]
    unfold parseN
    have : numOf 0 (45 :: decDigits n.natAbs) = none := rfl
    rw [this]
    cases decide ((45 :: decDigits n.natAbs).length = 0) || decide (5 < (45 :: decDigits n.natAbs).length) || (decide (1 < (45 :: decDigits n.natAbs).length) && (45 :: decDigits n.natAbs)[0]? == some 48) <;> rfl
  · rw [if_neg hn, parseN_dec]
    by_cases h : n.toNat ≤ 10000
    · rw [if_pos h, if_pos (by omega), Int.toNat_of_nonneg (by omega)]
    · rw [if_neg h, if_neg (by omega)]

/-- What is accepted is a number's digits. -/
theorem parseN_true {s : List UInt8} (h : (parseN s).2 = true) : s = decDigits (parseN s).1.toNat ∧ 0 ≤ (parseN s).1 ∧ (parseN s).1 ≤ 10000 ∧ s ≠ [] ∧ s.all isDig = true ∧ (parseN s).1 = (numN 0 s : Int) := by
  unfold parseN at h ⊢
  cases hc : decide (s.length = 0) || decide (5 < s.length) || (decide (1 < s.length) && s[0]? == some 48)
  case true => rw [hc] at h; cases h
  rw [hc, cond_false] at h
  simp only [cond_false]
  have hn := numOf_eq s 0
  cases hd : s.all isDig
  · rw [hd] at hn
    have hn' : numOf 0 s = none := hn
    rw [hn'] at h; cases h
  · rw [hd] at hn
    have hn' : numOf 0 s = some ((numN 0 s : Nat) : Int) := hn
    rw [hn'] at h ⊢
    simp only at h ⊢
    cases hb : decide (((numN 0 s : Nat) : Int) > 10000)
    case true => rw [hb] at h; cases h
    simp only [cond_false]
    rw [Bool.or_eq_false_iff, Bool.or_eq_false_iff] at hc
    have h0 : s ≠ [] := by
      intro h0; rw [h0] at hc; simp at hc
    have hz : s.length = 1 ∨ s.head? ≠ some 48 := by
      rcases Nat.lt_or_ge 1 s.length with h1 | h1
      · right
        have h2 := hc.2
        rw [decide_eq_true h1, Bool.true_and] at h2
        rw [List.head?_eq_getElem?]
        intro h3; rw [h3] at h2; cases h2
      · left
        have : s.length ≠ 0 := fun h => h0 (List.eq_nil_of_length_eq_zero h)
        omega
    have hb' : ¬ ((numN 0 s : Nat) : Int) > 10000 := by simpa using hb
    refine ⟨?_, by omega, by omega, h0, by first | trivial | rfl, by first | trivial | rfl⟩
    rw [Int.toNat_natCast]
    exact (dec_num _ s rfl h0 hd hz).1.symm

theorem atoi_dec {s : List UInt8} (h0 : s ≠ []) (hd : s.all isDig = true) (hn : numN 0 s ≤ 10000) : atoiAll s = .ok ((numN 0 s : Nat) : Int) := by
  cases s with
  | nil => exact absurd rfl h0
  | cons c r =>
    have hc : isDig c = true := by rw [List.all_cons, Bool.and_eq_true] at hd; exact hd.1
    rw [isDig_iff] at hc
    have hm : parseMag (c :: r) = .ok (numN 0 (c :: r)) := by
      unfold parseMag
      rw [if_neg (by simp)]
      exact parseUint10_num _ 0 hd (by omega)
    unfold atoiAll
    have h1 : ¬ (c.toNat = 43 ∨ c.toNat = 45) := by omega
    have h2 : ¬ c.toNat = 45 := by omega
    simp only [if_neg h1]
    rw [hm]
    simp only [h2, not_false_eq_true, true_and, false_and, if_false]
    rw [if_neg (by omega)]

/-- What the program makes of Atoi's answer is what the reference parses. -/
theorem parse_agree (s : List UInt8) : (bif !(atoiT s).2 || !(inR (atoiT s).1 0 10000) || !(itoaT (atoiT s).1 == s) then ((0 : Int), false) else ((atoiT s).1, true)) = parseN s := by
  cases h : !(atoiT s).2 || !(inR (atoiT s).1 0 10000) || !(itoaT (atoiT s).1 == s)
  · simp only [cond_false]
    simp only [Bool.or_eq_false_iff, Bool.not_eq_false', beq_iff_eq] at h
    obtain ⟨⟨h1, h2⟩, h3⟩ := h
    have h2' : 0 ≤ (atoiT s).1 ∧ (atoiT s).1 ≤ 10000 := by simpa [inR] using h2
    have := parseN_itoa (atoiT s).1
    rw [h3, if_pos h2'] at this
    exact this.symm
  · simp only [cond_true]
    cases hp : (parseN s).2
    · have : (parseN s).1 = 0 := by
        unfold parseN at hp ⊢
        cases hc : decide (s.length = 0) || decide (5 < s.length) || (decide (1 < s.length) && s[0]? == some 48)
        · rw [hc] at hp
          simp only [cond_false] at hp ⊢
          cases hn : numOf 0 s with
          | none => rfl
          | some n =>
            rw [hn] at hp
            simp only at hp ⊢
            cases hb : decide (n > 10000)
            · rw [hb] at hp; cases hp
            · rfl
        · rfl
      exact (Prod.ext this hp : parseN s = (0, false)).symm
    · exfalso
      obtain ⟨h1, h2, h3, h4, h5, h6⟩ := parseN_true hp
      have ha := atoi_dec h4 h5 (by omega)
      have hT : atoiT s = (((numN 0 s : Nat) : Int), true) := by unfold atoiT; rw [ha]
      rw [hT] at h
      simp only [Bool.not_true, Bool.false_or] at h
      have i1 : inR ((numN 0 s : Nat) : Int) 0 10000 = true := by simp [inR]; omega
      have i2 : itoaT ((numN 0 s : Nat) : Int) = s := by
        unfold itoaT itoa
        rw [if_neg (by omega), Int.toNat_natCast, ← Int.toNat_natCast (numN 0 s), ← h6]
        exact h1.symm
      rw [i1, i2] at h
      simp at h

end Go.D

/-
  Numbers and their digits: the laws.
-/
namespace Go.D
open Go.Lib

def digs (u : Nat) : List UInt8 := if u = 0 then [] else decDigits u
theorem digs_step {u : Nat} (h : u ≠ 0) : digs u = digs (u / 10) ++ [UInt8.ofNat (48 + u % 10)] := by
  unfold digs
  rw [if_neg h]
  by_cases h1 : u < 10
  · rw [if_pos (by omega), decDigits_one h1, show u % 10 = u by omega]; rfl
  · rw [if_neg (by omega), dec_big h1]

theorem spec_NumText_raw (n : Int) (h0 : -9223372036854775808 ≤ n) (h1 : n ≤ 9223372036854775807) : spec_NumText.raw n = some (itoaT n) := by
  have hL := LIM_is
  by_cases hz : n = 0
  · subst hz
    show some [48] = some (itoaT 0)
    unfold itoaT itoa
    rw [if_neg (by omega), show Int.toNat 0 = 0 from rfl, decDigits_one (by omega)]; rfl
  have hlen := itoa_length_le n h0 h1
  have hd : digs n.natAbs = decDigits n.natAbs := by unfold digs; rw [if_neg (by omega)]
  have hdl : (digs n.natAbs).length ≤ 21 := by
    rw [hd]; unfold itoa at hlen
    by_cases hn : n < 0
    · rw [if_pos hn] at hlen; simp at hlen; omega
    · rw [if_neg hn, show n.toNat = n.natAbs by omega] at hlen; exact hlen
  have hz' : (n == 0) = false := by simpa using hz
  simp only [spec_NumText.raw, joinK, hz', cond_false]
  refine (loop_FU (g := fun _ => some (itoaT n)) (fun x : List UInt8 × Int => -9223372036854775808 ≤ x.2 ∧ x.2 ≤ 9223372036854775807 ∧ digs x.2.natAbs ++ x.1 = digs n.natAbs) (fun x => x.2.natAbs) (fun x hx k hk => ?_) ⟨h0, h1, by simp⟩ (by show n.natAbs < _; omega)).trans rfl
  obtain ⟨s, x⟩ := x
  obtain ⟨hx0, hx1, hxe⟩ := hx
  simp only at hx0 hx1 hxe hk ⊢
  by_cases hxz : x = 0
  · subst hxz
    have e : digs (Int.natAbs 0) = [] := rfl
    rw [e, List.nil_append] at hxe
    have e2 : ((0 : Int) != 0) = false := rfl
    rw [e2, cond_false, hxe]
    unfold itoaT itoa
    by_cases hn : n < 0
    · have h5 : [(45 : Nat)].length + (digs n.natAbs).length ≤ LIM := by simp; omega
      simp only [hn, h5, decide_true, cond_true, if_pos]
      rw [hd]; rfl
    · rw [decide_eq_false hn, cond_false, if_neg hn, hd, show n.toNat = n.natAbs by omega]
  · have e2 : (x != 0) = true := by simpa using hxz
    rw [e2, cond_true]
    have hm : (irem .i64 x 10).natAbs = x.natAbs % 10 := by unfold irem; rw [Int.natAbs_tmod]; rfl
    have hq0 : (x.tdiv 10).natAbs = x.natAbs / 10 := by rw [Int.natAbs_tdiv]; rfl
    have hq : iquo .i64 x 10 = x.tdiv 10 := by unfold iquo; rw [wrap_i64 (by omega) (by omega)]
    have hsl : s.length ≤ 21 := by
      have := congrArg List.length hxe
      rw [List.length_append] at this; omega
    have hne : x.natAbs ≠ 0 := by omega
    have fin : ∀ d : Int, d = ((x.natAbs % 10 : Nat) : Int) →
        (cond (Nat.ble [UInt8.ofNat (IntKind.wrap .u8 (iadd .i64 48 d)).toNat].length LIM) (cond (decide ([UInt8.ofNat (IntKind.wrap .u8 (iadd .i64 48 d)).toNat].length + s.length ≤ LIM)) (k (([UInt8.ofNat (IntKind.wrap .u8 (iadd .i64 48 d)).toNat] ++ s), (iquo .i64 x 10))) none) none) = some (itoaT n) := by
      intro d hd'
      subst hd'
      have e3 : UInt8.ofNat (IntKind.wrap .u8 (iadd .i64 48 ((x.natAbs % 10 : Nat) : Int))).toNat = UInt8.ofNat (48 + x.natAbs % 10) := by
        have h1 : iadd .i64 48 ((x.natAbs % 10 : Nat) : Int) = ((48 + x.natAbs % 10 : Nat) : Int) := by
          unfold iadd; rw [wrap_i64 (by omega) (by omega)]; omega
        have h2 : IntKind.wrap .u8 ((48 + x.natAbs % 10 : Nat) : Int) = ((48 + x.natAbs % 10 : Nat) : Int) := by
          simp only [IntKind.wrap]
          simp [IntKind.bits, IntKind.signed]; omega
        rw [h1, h2, Int.toNat_natCast]
      rw [e3]
      have e4 : Nat.ble [UInt8.ofNat (48 + x.natAbs % 10)].length LIM = true := Nat.ble_eq_true_of_le (by simp; omega)
      have e5 : decide ([UInt8.ofNat (48 + x.natAbs % 10)].length + s.length ≤ LIM) = true := by simp; omega
      rw [e4, cond_true, e5, cond_true, hq]
      refine hk _ ⟨?_, ?_, ?_⟩ ?_
      · show -9223372036854775808 ≤ x.tdiv 10; omega
      · show x.tdiv 10 ≤ 9223372036854775807; omega
      · show digs (x.tdiv 10).natAbs ++ ([UInt8.ofNat (48 + x.natAbs % 10)] ++ s) = digs n.natAbs
        rw [hq0, ← List.append_assoc, ← digs_step hne, hxe]
      · show (x.tdiv 10).natAbs < x.natAbs
        rw [hq0]; omega
    by_cases hneg : irem .i64 x 10 < 0
    · rw [decide_eq_true hneg, cond_true]
      refine fin _ ?_
      unfold isub; rw [wrap_i64 (by omega) (by omega)]; omega
    · rw [decide_eq_false hneg, cond_false]
      exact fin _ (by omega)

theorem spec_NumText.ok {x : TyTup [.v .int]} (hb : bdTup [.v .int] x) : spec_NumText.raw x = some (itoaT x) := by
  have h := fits_i64 (bdx_fits (t := .int) (x := x) (hb) 0 (by decide) rfl)
  exact spec_NumText_raw x h.1 h.2
theorem impl_NumText.ok {x : TyTup [.v .int]} (_ : bdTup [.v .int] x) : impl_NumText.raw x = some (itoaT x) := rfl

theorem same_list (s : List UInt8) : (s == s) = true := by simp

theorem impl_ParseNum_raw (s : List UInt8) (h : s.length ≤ 281474976710656) : impl_ParseNum.raw s = some (parseN s) := by
  unfold impl_ParseNum.raw
  rw [atoiO, pt_bind h, ← parse_agree s]
  simp only [joinK]
  cases (atoiT s).2
  · rfl
  · cases inR (atoiT s).1 0 10000
    · rfl
    · cases itoaT (atoiT s).1 == s <;> rfl

theorem impl_ParseNum.ok {x : TyTup [.v .str]} (_ : bdTup [.v .str] x) {r : Int × Bool} : parseO x = some r → impl_ParseNum.raw x = some r := pt_ok fun h => impl_ParseNum_raw x h

theorem numOf_drop {s : List UInt8} {j : Nat} (h : j < s.length) (n : Int) : numOf n (s.drop j) = bif inR ((s[j].toNat : Nat) : Int) 48 57 then numOf (10 * n + (((s[j].toNat : Nat) : Int) - 48)) (s.drop (j + 1)) else none := by
  rw [List.drop_eq_getElem_cons h, numOf]

theorem spec_ParseNum_raw (s : List UInt8) : spec_ParseNum.raw s = some (parseN s) := by
  unfold spec_ParseNum.raw parseN
  simp only [joinK]
  have hlen0 : ((s.length : Int) == 0) = decide (s.length = 0) := by rw [Bool.eq_iff_iff]; simp
  have hlen5 : decide ((s.length : Int) > 5) = decide (5 < s.length) := by congr 1; simp; omega
  have hlen1 : decide ((s.length : Int) > 1) = decide (1 < s.length) := by congr 1; simp; omega
  rw [hlen0, hlen5, hlen1]
  cases h0 : decide (s.length = 0)
  case true => simp
  cases h5 : decide (5 < s.length)
  case true => simp
  have h0' : s.length ≠ 0 := of_decide_eq_false h0
  have h5' : s.length ≤ 5 := by have := of_decide_eq_false h5; omega
  have key : loopK FU (fun (x6 : Int × Int) k7 =>
      cond (decide (x6.2 < (s.length : Int)))
      (Option.bind (idxI s x6.2) fun b8 =>
      cond (!(inR (IntKind.wrap .i64 ((b8.toNat : Nat) : Int)) 48 57))
      (some ((0 : Int), false))
      (Option.bind (idxI s x6.2) fun b10 =>
      k7 ((iadd .i64 (imul .i64 10 x6.1) (IntKind.wrap .i64 (isub .u8 ((b10.toNat : Nat) : Int) 48))), (iadd .i64 x6.2 1))))
      (cond (decide (x6.1 > 10000)) (some (0, false)) (some (x6.1, true)))) (0, 0) =
      some (match numOf 0 s with | some n => bif decide (n > 10000) then (0, false) else (n, true) | none => (0, false)) := by
    refine (loop_FU (g := fun x : Int × Int => some (match numOf x.1 (s.drop x.2.toNat) with | some n => bif decide (n > 10000) then ((0 : Int), false) else (n, true) | none => (0, false)))
      (fun x => ∃ j : Nat, x.2 = j ∧ j ≤ s.length ∧ 0 ≤ x.1 ∧ x.1 < 10 ^ j) (fun x => s.length - x.2.toNat) (fun x hx k hk => ?_) ⟨0, rfl, Nat.zero_le _, Int.le_refl _, by decide⟩ (by show s.length - 0 < _; omega)).trans rfl
    obtain ⟨n, i⟩ := x
    obtain ⟨j, hj, hjl, hn0, hn1⟩ := hx
    simp only at hj hn0 hn1 hk ⊢
    subst hj
    rw [Int.toNat_natCast]
    rcases Nat.lt_or_ge j s.length with hlt | hge
    · rw [decide_eq_true (by omega), cond_true, idxI_get hlt, bind_some', numOf_drop hlt]
      have hb : (s[j]).toNat < 256 := s[j].toNat_lt
      rw [wrap_i64 (by omega) (by omega)]
      cases hr : inR ((s[j].toNat : Nat) : Int) 48 57
      · rfl
      · have hr' : 48 ≤ (s[j]).toNat ∧ (s[j]).toNat ≤ 57 := by simp [inR] at hr; omega
        simp only [Bool.not_true, cond_false, cond_true, bind_some']
        have hp : (10 : Int) ^ j ≤ 10000 := by
          have : j = 0 ∨ j = 1 ∨ j = 2 ∨ j = 3 ∨ j = 4 := by omega
          rcases this with rfl | rfl | rfl | rfl | rfl <;> decide
        have e1 : isub .u8 ((s[j].toNat : Nat) : Int) 48 = ((s[j].toNat : Nat) : Int) - 48 := by
          unfold isub; simp only [IntKind.wrap]; simp [IntKind.bits, IntKind.signed]; omega
        have e2 : imul .i64 10 n = 10 * n := by unfold imul; rw [wrap_i64 (by omega) (by omega)]
        have e3 : iadd .i64 (10 * n) (((s[j].toNat : Nat) : Int) - 48) = 10 * n + (((s[j].toNat : Nat) : Int) - 48) := by unfold iadd; rw [wrap_i64 (by omega) (by omega)]
        have e4 : iadd .i64 (j : Int) 1 = ((j + 1 : Nat) : Int) := iadd_nat j (by rw [maxLen_is]; omega)
        rw [e1, wrap_i64 (by omega) (by omega), e2, e3, e4]
        refine (hk _ ⟨j + 1, rfl, hlt, ?_, ?_⟩ ?_).trans ?_
        · show 0 ≤ 10 * n + _; omega
        · show 10 * n + (((s[j].toNat : Nat) : Int) - 48) < 10 ^ (j + 1)
          rw [Int.pow_succ]; omega
        · simp only [Int.toNat_natCast]; omega
        · simp only [Int.toNat_natCast]
    · rw [decide_eq_false (by omega), cond_false, List.drop_eq_nil_of_le hge]
      simp only [numOf]
      cases decide (n > 10000) <;> rfl
  cases h1 : decide (1 < s.length)
  · simp only [cond_false, Bool.false_and, Bool.or_false]
    exact key
  · have h1' : 1 < s.length := of_decide_eq_true h1
    have e0 : idxI s 0 = some s[0] := idxI_get (i := 0) (by omega)
    simp only [cond_true, cond_false, Bool.true_and, Bool.false_or, e0, bind_some']
    have e1 : (((s[0].toNat : Nat) : Int) == 48) = (s[0]? == some 48) := by
      rw [List.getElem?_eq_getElem (by omega), Bool.eq_iff_iff]
      simp only [beq_iff_eq, Option.some.injEq]
      constructor
      · intro h; apply UInt8.toNat_inj.1; have : (48 : UInt8).toNat = 48 := rfl; omega
      · intro h; rw [h]; rfl
    rw [e1]
    cases s[0]? == some 48
    · exact key
    · rfl

theorem spec_ParseNum.ok {x : TyTup [.v .str]} (_ : bdTup [.v .str] x) : spec_ParseNum.raw x = some (parseN x) := spec_ParseNum_raw x

theorem stName_nil (k : Int) : (stName k == []) = (decide (k < 0) || decide (k > 3)) := by
  unfold stName
  by_cases h0 : k = 0
  · subst h0; rfl
  by_cases h1 : k = 1
  · subst h1; rfl
  by_cases h2 : k = 2
  · subst h2; rfl
  by_cases h3 : k = 3
  · subst h3; rfl
  have e0 : (k == 0) = false := by simpa using h0
  have e1 : (k == 1) = false := by simpa using h1
  have e2 : (k == 2) = false := by simpa using h2
  have e3 : (k == 3) = false := by simpa using h3
  rw [e0, e1, e2, e3]
  simp; omega

theorem impl_StName.ok {x : TyTup [.v .int]} (_ : bdTup [.v .int] x) : impl_StName.raw x = some (stName x) := by
  unfold impl_StName.raw
  have key : ∀ k : Int, cond (!(inR k 0 3)) (some []) (cond (decide (0 ≤ k) && decide (k < ((([[105, 100, 108, 101], [105, 110, 105, 116], [102, 105, 110, 105, 115, 104], [117, 112]] : List (List UInt8)).length : Nat) : Int))) (Option.bind (([[105, 100, 108, 101], [105, 110, 105, 116], [102, 105, 110, 105, 115, 104], [117, 112]] : List (List UInt8))[k.toNat]?) fun e2 => some e2) none) = some (stName k) := by
    intro k
    by_cases h : 0 ≤ k ∧ k ≤ 3
    · have : k = 0 ∨ k = 1 ∨ k = 2 ∨ k = 3 := by omega
      rcases this with rfl | rfl | rfl | rfl <;> rfl
    · have e : inR k 0 3 = false := by simp [inR]; omega
      rw [e]
      have := stName_nil k
      have e2 : (decide (k < 0) || decide (k > 3)) = true := by simp; omega
      rw [e2] at this
      have : stName k = [] := by simpa using this
      rw [this]; rfl
  exact key x
theorem spec_StName.ok {x : TyTup [.v .int]} (_ : bdTup [.v .int] x) : spec_StName.raw x = some (stName x) := by
  unfold spec_StName.raw stName
  cases (x : Int) == 0
  · cases (x : Int) == 1
    · cases (x : Int) == 2
      · cases (x : Int) == 3 <;> rfl
      · rfl
    · rfl
  · rfl

theorem once_tot {c : G.Cur} {n : Int} (h : CurOk c) : Ok (spec_l1Once.raw c n) fun r => CurOk r.2 := by
  unfold spec_l1Once.raw
  exact (below_tot h).bind fun r hr => .some' hr.2.2.2

theorem drawNum_tot {code : List UInt8} (h : code.length ≤ 1048576) : Ok (spec_DrawNumText.raw code) fun n => -9223372036854775808 ≤ n ∧ n ≤ 9223372036854775807 := by
  unfold spec_DrawNumText.raw
  refine (new_tot h).bind fun c hc => (once_tot hc).bind fun r hr => .cond' (fun _ => ?_) fun _ => ?_
  · unfold spec_l1Odd.raw
    refine Ok.bind (P := fun r : Int × G.Cur => -9223372036854775808 ≤ r.1 ∧ r.1 ≤ 9223372036854775807) ((int_tot hr (by simp)).bind fun q hq => .some' ?_) fun q hq => .some' hq
    have := hq.1
    simp only [List.mem_cons, List.not_mem_nil, or_false] at this
    rcases this with h | h | h | h | h | h | h | h | h | h | h | h | h | h <;> rw [h] <;> omega
  · refine (below_tot hr).bind fun q hq => .some' ?_
    have h1 := hq.1
    have h2 := hq.2.1 (by omega)
    unfold isub
    rw [wrap_i64 (by omega) (by omega)]; omega

theorem drawParse_tot {code : List UInt8} (h : code.length ≤ 1048576) : Ok (spec_DrawParseNum.raw code) fun s => s.length ≤ 21 := by
  unfold spec_DrawParseNum.raw
  refine (new_tot h).bind fun c hc => (once_tot hc).bind fun r hr => .cond' (fun _ => ?_) fun _ => ?_
  · unfold spec_l1Str.raw
    refine Ok.bind (P := fun r : List UInt8 × G.Cur => r.1.length ≤ 21) ((below_tot hr).bind fun q hq => ?_) fun q hq => .some' hq
    have h1 := hq.1
    have h2 := hq.2.1 (by decide)
    obtain ⟨j, hj⟩ := Int.eq_ofNat_of_zero_le h1
    rw [hj] at h2 ⊢
    have hj' : j < 12 := Int.ofNat_lt.1 h2
    rw [idxI_get (by simpa using hj'), bind_some']
    refine .some' ?_
    have : j = 0 ∨ j = 1 ∨ j = 2 ∨ j = 3 ∨ j = 4 ∨ j = 5 ∨ j = 6 ∨ j = 7 ∨ j = 8 ∨ j = 9 ∨ j = 10 ∨ j = 11 := by omega
    rcases this with rfl | rfl | rfl | rfl | rfl | rfl | rfl | rfl | rfl | rfl | rfl | rfl <;> simp
  · refine (below_tot hr).bind fun q hq => .some' ?_
    have h1 := hq.1
    have h2 := hq.2.1 (by omega)
    exact itoa_length_le q.1 (by omega) (by omega)

theorem drawSt_tot {code : List UInt8} (h : code.length ≤ 1048576) : Ok (spec_DrawStName.raw code) fun _ => True := by
  unfold spec_DrawStName.raw
  exact (new_tot h).bind fun c hc => (below_tot hc).bind fun r hr => .some' trivial

theorem laws_FnNums.ok {x : TyTup [.sl .byte]} (_ : bdTup [.sl .byte] x) : laws_FnNums.raw x = some (always (α := List UInt8) x) := by
  unfold laws_FnNums.raw
  simp only [always]
  cases hb : big x
  case true => rfl
  rw [cond_false]
  have hb : List.length (α := UInt8) x ≤ 1048576 := by have := of_decide_eq_false hb; omega
  obtain ⟨n, hn, hn0, hn1⟩ := drawNum_tot hb
  obtain ⟨t, ht, ht1⟩ := drawParse_tot hb
  obtain ⟨k, hk, -⟩ := drawSt_tot hb
  have hl := itoa_length_le n hn0 hn1
  rw [hn, bind_some', parseO, pt_bind (by show (itoa n).length ≤ _; omega), ht, bind_some', parseO, pt_bind (by omega), hk, bind_some', parseN_itoa]
  simp only [joinK, same_list, cond_true, stName_nil, beq_self_eq_true]
  have hT : (parseN t).2 = true → (itoaT (parseN t).1 == t) = true := by
    intro h
    obtain ⟨h1, h2, h3, -⟩ := parseN_true h
    rw [beq_iff_eq]
    unfold itoaT itoa
    rw [if_neg (by omega)]
    exact h1.symm
  by_cases h0 : n ≥ 0 <;> by_cases h1 : n ≤ 10000 <;> cases hp : (parseN t).2 <;> by_cases h2 : k < 0 <;> by_cases h3 : k > 3 <;>
    first
    | (exfalso; omega)
    | (simp [h0, h1, h2, h3, hT hp]; done)
    | (simp [h0, h1, h2, h3]; done)
    | (have h0' : ¬ (0 ≤ n ∧ n ≤ 10000) := by omega
       simp [h0, h1, h2, h3, h0']; done)
    | (have h0' : ¬ (0 ≤ n ∧ n ≤ 10000) := by omega
       simp [h0, h1, h2, h3, h0', hT hp]; done)

end Go.D

/-
  strconv.Itoa and strconv.Atoi as contracts.
-/
namespace Go.D
open Go.RowKit

theorem ba_size (s : List UInt8) : (ByteArray.mk s.toArray).size = s.length := by simp [ByteArray.size]
theorem ba_list (s : List UInt8) : (ByteArray.mk s.toArray).data.toList = s := by simp
theorem wx_below {w w' : World} (h : Below w.heap.size w w') : Wx w w' := ⟨h.os, h.tape, h.output, h.size⟩

theorem asI_eq {c : V} {n : Int} (h : asI c = some n) : c = .int .i64 n := by
  cases c <;> simp [asI] at h
  rename_i k m; cases k <;> simp at h; subst h; rfl
theorem asS_eq {c : V} {s : List UInt8} (h : asS c = some s) : c = .str s := by
  cases c <;> simp [asS] at h
  subst h; rfl
theorem decInt {v : V} {n : Int} (h : decTy (.v .int) v = some n) : v = .int .i64 n := by
  have key : dec .int [v] = some n → v = .int .i64 n := fun h => by
    obtain ⟨c0, cs, f0, h1, h0, h2⟩ := tk_some (show tk asI [v] (fun b cs => fin cs b) = some n from h)
    cases h1
    obtain ⟨-, rfl⟩ := fin_some h2
    exact asI_eq h0
  cases v <;> first | exact key h | cases h
theorem decStr {v : V} {s : List UInt8} (h : decTy (.v .str) v = some s) : v = .str s := by
  have key : dec .str [v] = some s → v = .str s := fun h => by
    obtain ⟨c0, cs, f0, h1, h0, h2⟩ := tk_some (show tk asS [v] (fun b cs => fin cs b) = some s from h)
    cases h1
    obtain ⟨-, rfl⟩ := fin_some h2
    exact asS_eq h0
  cases v <;> first | exact key h | cases h

theorem itoa_ctr {P : Program} {f : Nat} (g : Gl) (hent : ∀ args w, (callFunc f args).run P w = .ok (.enter f args) w)
    (h : ∀ (n : Int) (w : World), -9223372036854775808 ≤ n → n ≤ 9223372036854775807 → g.p w →
      Calls P f #[.int .i64 n] w fun e w' => e = .returned (.string ⟨(Lib.itoa n).toArray⟩) ∧ Below w.heap.size w w') :
    Contract P f (mkCI (plains 1) [.v .int] [.v .str] (fun x => some (itoaT x)) [(false, 1)] [] false) g := by
  refine ctr_plain _ g 1 rfl rfl rfl (fun as a ha => ?_) fun w args as a r ρ bad hs hl hv hd hF hg => ?_
  · match as, ha with
    | [_], _ => rfl
    | [], ha => cases ha
    | _ :: _ :: _, ha => cases ha
  · match as, hl with
    | [v], _ =>
    have h0 := hv 0 (by simp)
    have hd' : decTy (.v .int) v = some a := hd
    have hF' : some (itoaT a) = some r := hF
    cases hF'
    obtain rfl := decInt hd'
    generalize a = n at *
    have hargs : args = #[.int .i64 n] := by
      have h1 : args.getD 0 undef = .int .i64 n := by
        have h0' : VR w ρ bad (args.getD 0 undef) (.int .i64 n) := h0
        generalize args.getD 0 undef = u at h0'
        cases h0'; rfl
      apply Array.ext
      · simpa using hs
      · intro i hi1 hi2
        have : i = 0 := by simp at hi2; exact hi2
        subst this
        rw [Array.getD_eq_getD_getElem?, Array.getElem?_eq_getElem hi1] at h1
        simpa using h1
    have hf : Fits .i64 n := by
      have h0' : VR w ρ bad (args.getD 0 undef) (.int .i64 n) := h0
      generalize args.getD 0 undef = u at h0'
      cases h0'; assumption
    obtain ⟨f1, f2⟩ := fits_i64 hf
    subst hargs
    refine .inl ⟨hent _ _, Calls.mono' (h n w f1 f2 hg) fun e w' ⟨h1, h2⟩ => ⟨_, h1, wx_below h2, h2.block, fun ρ' bad' => ?_⟩⟩
    have hl := Lib.itoa_length_le n f1 f2
    exact .str (Lib.itoa n) (by rw [maxLen_is]; omega)

theorem atoi_fits (s : List UInt8) : Fits .i64 (atoiT s).1 := by
  have key : -9223372036854775808 ≤ (atoiT s).1 ∧ (atoiT s).1 ≤ 9223372036854775807 := by
    unfold atoiT
    cases h : Lib.atoiAll s with
    | ok v =>
      simp only
      unfold Lib.atoiAll at h
      cases s with
      | nil => cases h
      | cons c r =>
        simp only at h
        split at h
        · cases h
        · cases h
        · split at h
          · cases h
          · split at h
            · cases h
            · injection h with h
              rename_i h1 h2
              by_cases hn : c.toNat = 45
              · simp only [hn, if_true] at h; simp only [hn, true_and] at h2; omega
              · simp only [hn, if_false] at h; simp only [hn, not_false_eq_true, true_and] at h1; omega
    | «syntax» => simp only; omega
    | range => simp only; unfold Lib.atoiSat; split <;> omega
  refine ⟨?_, ?_⟩ <;> simp [IntKind.min, IntKind.max, IntKind.signed, IntKind.bits] <;> omega

noncomputable def ciAtoi : CInfo := ⟨plains 1, TyTup [.v .str], Int × Bool, decTup [.v .str], fun x => atoiO x, fun r => [.int .i64 r.1, .ifc r.2], [(false, 1), (false, 1)], [], false⟩

theorem atoi_ctr {P : Program} {f : Nat} (g : Gl) (hent : ∀ args w, (callFunc f args).run P w = .ok (.enter f args) w)
    (h : ∀ (s : ByteArray) (w : World), s.size ≤ 281474976710656 → g.p w →
      Calls P f #[.string s] w fun e w' => (∃ v, e = .returned (.tuple #[.int .i64 (atoiT s.data.toList).1, v]) ∧ ((atoiT s.data.toList).2 = true ∧ v = .nilIface ∨ (atoiT s.data.toList).2 = false ∧ ∃ t p, v = .iface t p)) ∧ Below w.heap.size w w') :
    Contract P f ciAtoi g := by
  refine ctr_plain _ g 1 rfl rfl rfl (fun as a ha => ?_) fun w args as a r ρ bad hs hl hv hd hF hg => ?_
  · match as, ha with
    | [_], _ => rfl
    | [], ha => cases ha
    | _ :: _ :: _, ha => cases ha
  · match as, hl with
    | [v], _ =>
    have h0 := hv 0 (by simp)
    have hd' : decTy (.v .str) v = some a := hd
    have hF' : atoiO a = some r := hF
    obtain ⟨hlen, rfl⟩ := pt_inv hF'
    obtain rfl := decStr hd'
    generalize a = s at *
    have hargs : args = #[.string ⟨s.toArray⟩] := by
      have h1 : args.getD 0 undef = .string ⟨s.toArray⟩ := by
        have h0' : VR w ρ bad (args.getD 0 undef) (.str s) := h0
        generalize args.getD 0 undef = u at h0'
        cases h0'; rfl
      apply Array.ext
      · simpa using hs
      · intro i hi1 hi2
        have : i = 0 := by simp at hi2; exact hi2
        subst this
        rw [Array.getD_eq_getD_getElem?, Array.getElem?_eq_getElem hi1] at h1
        simpa using h1
    subst hargs
    have hsz := ba_size s
    refine .inl ⟨hent _ _, Calls.mono' (h ⟨s.toArray⟩ w (by rw [hsz]; exact hlen) hg) fun e w' ⟨⟨v, h1, h3⟩, h2⟩ => ⟨_, h1, wx_below h2, h2.block, fun ρ' bad' => ?_⟩⟩
    have e1 := ba_list s
    rw [e1] at h3 ⊢
    refine .tup [.int .i64 (atoiT s).1, .ifc (atoiT s).2] _ rfl fun j hj => ?_
    match j, hj with
    | 0, _ => exact .int _ _ (atoi_fits s)
    | 1, _ =>
      rcases h3 with ⟨h4, rfl⟩ | ⟨h4, t, p, rfl⟩
      · show VR w' ρ' bad' .nilIface (.ifc (atoiT s).2); rw [h4]; exact .ifn
      · show VR w' ρ' bad' (.iface t p) (.ifc (atoiT s).2); rw [h4]; exact .ifc t p

end Go.D

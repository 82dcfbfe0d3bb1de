/-
  The kinds of the cells of a type; what has cells of these kinds is an element of the type.
-/
import Derived.Test.YtilkenfgjljknaaEval
namespace Go.D

inductive LK where
  | i | by | b | s
  | l (t : TN)
  deriving DecidableEq

def lk : TN → List LK
  | .byte => [.by] | .int => [.i] | .bool => [.b] | .str => [.s] | .bs => [.l .byte]
  | .Addr => [.i, .i]
  | .Op => [.i, .i, .i, .l .byte]
  | .Event => [.i, .i, .i, .i, .l .byte, .l .Op]
  | .Jar => [.l .byte]
  | .Dice => [.l .byte, .i]
  | .Win => [.i, .l .int]
  | .Ep => [.i, .l .byte, .i, .i, .l .int]
  | .Chan => [.i, .l .byte, .i, .l .byte, .i, .i, .l .int, .i, .l .byte, .i, .i, .l .int, .b, .i, .l .byte]
  | .Cand => [.i, .i, .l .byte, .i]
  | .Paths => [.i, .i, .l .Cand]
  | .Sess => [.i, .l .byte, .l .byte, .i, .l .byte, .i, .l .byte, .i, .i, .l .int, .i, .l .byte, .i, .i, .l .int, .b, .i, .l .byte, .i, .i, .l .Cand, .i, .i, .b]
  | .Tab => [.i, .l .Sess]
  | .Credit => [.i, .i, .i, .i]
  | .Server => [.l .bs, .l .byte, .l .byte, .i, .i, .l .Sess, .l .Credit]
  | .Frame => [.i, .i, .l .byte, .l .byte, .i, .l .byte, .l .byte, .i, .i, .l .byte, .l .byte]
  | .Timer => [.b, .i, .i, .i]
  | .Client => [.i, .l .byte, .i, .i, .i, .l .byte, .i, .i, .l .byte, .l .byte, .i, .l .byte, .l .byte, .i, .i, .l .byte, .l .byte, .i, .l .byte, .i, .l .byte, .i, .i, .l .int, .i, .l .byte, .i, .i, .l .int, .b, .i, .l .byte, .b, .i, .i, .i, .b, .i, .i, .i, .i]
  | .Wire => [.i, .i, .i, .i, .l .byte]
  | .Note => [.i, .i, .i, .l .byte, .l .byte, .i, .i, .l .byte, .l .byte, .i, .i, .i]
  | .World => [.i, .l .Client, .l .bs, .l .byte, .l .byte, .i, .i, .l .Sess, .l .Credit, .l .byte, .i, .l .Wire, .l .bs, .l .Note]
  | .Cur => [.l .byte, .i, .i]
  | .Out => [.i, .i, .i, .i, .l .byte, .l .byte, .i, .l .byte, .l .byte, .i, .i, .l .byte, .l .byte]
  | .Form => [.i, .s]
  | .Hash => [.l .int, .l .byte, .i]

def Mat : LK → V → Prop
  | .i, v => ∃ n, asI v = some n
  | .by, v => ∃ n, asBy v = some n
  | .b, v => ∃ n, asB v = some n
  | .s, v => ∃ n, asS v = some n
  | .l t, v => ∃ n, asL t v = some n

inductive Mats : List LK → List V → Prop
  | nil : Mats [] []
  | cons {k : LK} {v : V} {ks : List LK} {vs : List V} (h : Mat k v) (r : Mats ks vs) : Mats (k :: ks) (v :: vs)

theorem Mats.app {a b : List LK} {x y : List V} (h : Mats a x) (k : Mats b y) : Mats (a ++ b) (x ++ y) := by
  induction h with
  | nil => exact k
  | cons h _ ih => exact .cons h ih
theorem Mats.len {a : List LK} {x : List V} (h : Mats a x) : a.length = x.length := by
  induction h with
  | nil => rfl
  | cons h _ ih => simp [ih]
theorem Mats.nil' {x : List V} (h : Mats [] x) : x = [] := by cases h; rfl
theorem Mats.take {k : LK} {ks : List LK} {x : List V} (h : Mats (k :: ks) x) : ∃ v r, x = v :: r ∧ Mat k v ∧ Mats ks r := by
  cases h with | cons h r => exact ⟨_, _, rfl, h, r⟩

theorem tk_val {α β : Type} {p : V → Option α} {v : V} {a : α} (h : p v = some a) (cs : List V) (k : α → List V → Option β) : tk p (v :: cs) k = k a cs := by simp [tk, h]
theorem tot_nil {β : Type} (r : β) {x : List V} (h : Mats [] x) : ∃ y, fin x r = some y := by cases h; exact ⟨r, rfl⟩
theorem tot_i {β : Type} {ks : List LK} {K : Int → List V → Option β} {x : List V} (h : Mats (.i :: ks) x) (hk : ∀ a r, Mats ks r → ∃ y, K a r = some y) : ∃ y, tk asI x K = some y := by
  cases h with | cons h r => obtain ⟨a, h⟩ := h; rw [tk_val h]; exact hk _ _ r
theorem tot_b {β : Type} {ks : List LK} {K : Bool → List V → Option β} {x : List V} (h : Mats (.b :: ks) x) (hk : ∀ a r, Mats ks r → ∃ y, K a r = some y) : ∃ y, tk asB x K = some y := by
  cases h with | cons h r => obtain ⟨a, h⟩ := h; rw [tk_val h]; exact hk _ _ r
theorem tot_s {β : Type} {ks : List LK} {K : List UInt8 → List V → Option β} {x : List V} (h : Mats (.s :: ks) x) (hk : ∀ a r, Mats ks r → ∃ y, K a r = some y) : ∃ y, tk asS x K = some y := by
  cases h with | cons h r => obtain ⟨a, h⟩ := h; rw [tk_val h]; exact hk _ _ r
theorem tot_l {β : Type} {t : TN} {ks : List LK} {K : List (El t) → List V → Option β} {x : List V} (h : Mats (.l t :: ks) x) (hk : ∀ a r, Mats ks r → ∃ y, K a r = some y) : ∃ y, tk (asL t) x K = some y := by
  cases h with | cons h r => obtain ⟨a, h⟩ := h; rw [tk_val h]; exact hk _ _ r

theorem tot_Addr {x : List V} (h : Mats (lk .Addr) x) : ∃ y, decAddr x = some y := tot_i h fun _ _ h => tot_i h fun _ _ h => tot_nil _ h
theorem tot_Op {x : List V} (h : Mats (lk .Op) x) : ∃ y, decOp x = some y := tot_i h fun _ _ h => tot_i h fun _ _ h => tot_i h fun _ _ h => tot_l h fun _ _ h => tot_nil _ h
theorem tot_Event {x : List V} (h : Mats (lk .Event) x) : ∃ y, decEvent x = some y := tot_i h fun _ _ h => tot_i h fun _ _ h => tot_i h fun _ _ h => tot_i h fun _ _ h => tot_l h fun _ _ h => tot_l h fun _ _ h => tot_nil _ h
theorem tot_Jar {x : List V} (h : Mats (lk .Jar) x) : ∃ y, decJar x = some y := tot_l h fun _ _ h => tot_nil _ h
theorem tot_Dice {x : List V} (h : Mats (lk .Dice) x) : ∃ y, decDice x = some y := tot_l h fun _ _ h => tot_i h fun _ _ h => tot_nil _ h
theorem tot_Win {x : List V} (h : Mats (lk .Win) x) : ∃ y, decWin x = some y := tot_i h fun _ _ h => tot_l h fun _ _ h => tot_nil _ h
theorem tot_Ep {x : List V} (h : Mats (lk .Ep) x) : ∃ y, decEp x = some y := tot_i h fun _ _ h => tot_l h fun _ _ h => tot_i h fun _ _ h => tot_i h fun _ _ h => tot_l h fun _ _ h => tot_nil _ h
theorem tot_Chan {x : List V} (h : Mats (lk .Chan) x) : ∃ y, decChan x = some y := tot_i h fun _ _ h => tot_l h fun _ _ h => tot_i h fun _ _ h => tot_l h fun _ _ h => tot_i h fun _ _ h => tot_i h fun _ _ h => tot_l h fun _ _ h => tot_i h fun _ _ h => tot_l h fun _ _ h => tot_i h fun _ _ h => tot_i h fun _ _ h => tot_l h fun _ _ h => tot_b h fun _ _ h => tot_i h fun _ _ h => tot_l h fun _ _ h => tot_nil _ h
theorem tot_Cand {x : List V} (h : Mats (lk .Cand) x) : ∃ y, decCand x = some y := tot_i h fun _ _ h => tot_i h fun _ _ h => tot_l h fun _ _ h => tot_i h fun _ _ h => tot_nil _ h
theorem tot_Paths {x : List V} (h : Mats (lk .Paths) x) : ∃ y, decPaths x = some y := tot_i h fun _ _ h => tot_i h fun _ _ h => tot_l h fun _ _ h => tot_nil _ h
theorem tot_Sess {x : List V} (h : Mats (lk .Sess) x) : ∃ y, decSess x = some y := tot_i h fun _ _ h => tot_l h fun _ _ h => tot_l h fun _ _ h => tot_i h fun _ _ h => tot_l h fun _ _ h => tot_i h fun _ _ h => tot_l h fun _ _ h => tot_i h fun _ _ h => tot_i h fun _ _ h => tot_l h fun _ _ h => tot_i h fun _ _ h => tot_l h fun _ _ h => tot_i h fun _ _ h => tot_i h fun _ _ h => tot_l h fun _ _ h => tot_b h fun _ _ h => tot_i h fun _ _ h => tot_l h fun _ _ h => tot_i h fun _ _ h => tot_i h fun _ _ h => tot_l h fun _ _ h => tot_i h fun _ _ h => tot_i h fun _ _ h => tot_b h fun _ _ h => tot_nil _ h
theorem tot_Tab {x : List V} (h : Mats (lk .Tab) x) : ∃ y, decTab x = some y := tot_i h fun _ _ h => tot_l h fun _ _ h => tot_nil _ h
theorem tot_Credit {x : List V} (h : Mats (lk .Credit) x) : ∃ y, decCredit x = some y := tot_i h fun _ _ h => tot_i h fun _ _ h => tot_i h fun _ _ h => tot_i h fun _ _ h => tot_nil _ h
theorem tot_Server {x : List V} (h : Mats (lk .Server) x) : ∃ y, decServer x = some y := tot_l h fun _ _ h => tot_l h fun _ _ h => tot_l h fun _ _ h => tot_i h fun _ _ h => tot_i h fun _ _ h => tot_l h fun _ _ h => tot_l h fun _ _ h => tot_nil _ h
theorem tot_Frame {x : List V} (h : Mats (lk .Frame) x) : ∃ y, decFrame x = some y := tot_i h fun _ _ h => tot_i h fun _ _ h => tot_l h fun _ _ h => tot_l h fun _ _ h => tot_i h fun _ _ h => tot_l h fun _ _ h => tot_l h fun _ _ h => tot_i h fun _ _ h => tot_i h fun _ _ h => tot_l h fun _ _ h => tot_l h fun _ _ h => tot_nil _ h
theorem tot_Timer {x : List V} (h : Mats (lk .Timer) x) : ∃ y, decTimer x = some y := tot_b h fun _ _ h => tot_i h fun _ _ h => tot_i h fun _ _ h => tot_i h fun _ _ h => tot_nil _ h
theorem tot_Client {x : List V} (h : Mats (lk .Client) x) : ∃ y, decClient x = some y := tot_i h fun _ _ h => tot_l h fun _ _ h => tot_i h fun _ _ h => tot_i h fun _ _ h => tot_i h fun _ _ h => tot_l h fun _ _ h => tot_i h fun _ _ h => tot_i h fun _ _ h => tot_l h fun _ _ h => tot_l h fun _ _ h => tot_i h fun _ _ h => tot_l h fun _ _ h => tot_l h fun _ _ h => tot_i h fun _ _ h => tot_i h fun _ _ h => tot_l h fun _ _ h => tot_l h fun _ _ h => tot_i h fun _ _ h => tot_l h fun _ _ h => tot_i h fun _ _ h => tot_l h fun _ _ h => tot_i h fun _ _ h => tot_i h fun _ _ h => tot_l h fun _ _ h => tot_i h fun _ _ h => tot_l h fun _ _ h => tot_i h fun _ _ h => tot_i h fun _ _ h => tot_l h fun _ _ h => tot_b h fun _ _ h => tot_i h fun _ _ h => tot_l h fun _ _ h => tot_b h fun _ _ h => tot_i h fun _ _ h => tot_i h fun _ _ h => tot_i h fun _ _ h => tot_b h fun _ _ h => tot_i h fun _ _ h => tot_i h fun _ _ h => tot_i h fun _ _ h => tot_i h fun _ _ h => tot_nil _ h
theorem tot_Wire {x : List V} (h : Mats (lk .Wire) x) : ∃ y, decWire x = some y := tot_i h fun _ _ h => tot_i h fun _ _ h => tot_i h fun _ _ h => tot_i h fun _ _ h => tot_l h fun _ _ h => tot_nil _ h
theorem tot_Note {x : List V} (h : Mats (lk .Note) x) : ∃ y, decNote x = some y := tot_i h fun _ _ h => tot_i h fun _ _ h => tot_i h fun _ _ h => tot_l h fun _ _ h => tot_l h fun _ _ h => tot_i h fun _ _ h => tot_i h fun _ _ h => tot_l h fun _ _ h => tot_l h fun _ _ h => tot_i h fun _ _ h => tot_i h fun _ _ h => tot_i h fun _ _ h => tot_nil _ h
theorem tot_World {x : List V} (h : Mats (lk .World) x) : ∃ y, decWorld x = some y := tot_i h fun _ _ h => tot_l h fun _ _ h => tot_l h fun _ _ h => tot_l h fun _ _ h => tot_l h fun _ _ h => tot_i h fun _ _ h => tot_i h fun _ _ h => tot_l h fun _ _ h => tot_l h fun _ _ h => tot_l h fun _ _ h => tot_i h fun _ _ h => tot_l h fun _ _ h => tot_l h fun _ _ h => tot_l h fun _ _ h => tot_nil _ h
theorem tot_Cur {x : List V} (h : Mats (lk .Cur) x) : ∃ y, decCur x = some y := tot_l h fun _ _ h => tot_i h fun _ _ h => tot_i h fun _ _ h => tot_nil _ h
theorem tot_Out {x : List V} (h : Mats (lk .Out) x) : ∃ y, decOut x = some y := tot_i h fun _ _ h => tot_i h fun _ _ h => tot_i h fun _ _ h => tot_i h fun _ _ h => tot_l h fun _ _ h => tot_l h fun _ _ h => tot_i h fun _ _ h => tot_l h fun _ _ h => tot_l h fun _ _ h => tot_i h fun _ _ h => tot_i h fun _ _ h => tot_l h fun _ _ h => tot_l h fun _ _ h => tot_nil _ h
theorem tot_Form {x : List V} (h : Mats (lk .Form) x) : ∃ y, decForm x = some y := tot_i h fun _ _ h => tot_s h fun _ _ h => tot_nil _ h
theorem tot_Hash {x : List V} (h : Mats (lk .Hash) x) : ∃ y, decHash x = some y := tot_l h fun _ _ h => tot_l h fun _ _ h => tot_i h fun _ _ h => tot_nil _ h
theorem dec_total (t : TN) (x : List V) (h : Mats (lk t) x) : ∃ y, dec t x = some y := by
  cases t with
  | byte =>
    cases h with
    | cons h r =>
      obtain ⟨a, h⟩ := h
      cases r
      refine ⟨a, ?_⟩
      simp only [dec]
      rw [tk_val h]; rfl
  | int => exact tot_i h fun _ _ h => tot_nil _ h
  | bool => exact tot_b h fun _ _ h => tot_nil _ h
  | str => exact tot_s h fun _ _ h => tot_nil _ h
  | bs => exact tot_l h fun _ _ h => tot_nil _ h
  | Addr => exact tot_Addr h
  | Op => exact tot_Op h
  | Event => exact tot_Event h
  | Jar => exact tot_Jar h
  | Dice => exact tot_Dice h
  | Win => exact tot_Win h
  | Ep => exact tot_Ep h
  | Chan => exact tot_Chan h
  | Cand => exact tot_Cand h
  | Paths => exact tot_Paths h
  | Sess => exact tot_Sess h
  | Tab => exact tot_Tab h
  | Credit => exact tot_Credit h
  | Server => exact tot_Server h
  | Frame => exact tot_Frame h
  | Timer => exact tot_Timer h
  | Client => exact tot_Client h
  | Wire => exact tot_Wire h
  | Note => exact tot_Note h
  | World => exact tot_World h
  | Cur => exact tot_Cur h
  | Out => exact tot_Out h
  | Form => exact tot_Form h
  | Hash => exact tot_Hash h

theorem lk_length (t : TN) : (lk t).length = sz t := by cases t <;> rfl

end Go.D

/-
  A plain semantics of the code: values without memory, what the call itself makes kept in rows. It is a function, so that the kernel can run it.
-/
import Derived.Test.YtilkenfgjljknaaTypes
import Derived.Calls
namespace Go.D

def upd {α : Type} (f : Nat → α) (i : Nat) (v : α) : Nat → α := fun j => bif Nat.beq j i then v else f j

inductive Mode where
  | own | ro | lock

inductive RowC where
  | box (cs : List V)
  | arr (t : TN) (l : List (El t))

structure Row where
  c : RowC
  m : Mode

structure St where
  s : Nat → V
  h : Nat → Option Row
  nx : Nat

/-- An argument of a call: a plain value, or a pointer to a variable that the function writes (which of its cells are the call's own slices). -/
inductive ArgK where
  | plain
  | ptr (own : List Nat)

/-- What is known of a function that is called: how plain arguments are read, what it computes, how its results lie. -/
structure CInfo where
  ks : List ArgK
  A : Type
  R : Type
  dA : List V → Option A
  F : A → Option R
  eR : R → List V
  shape : List (Bool × Nat)
  own : List Nat

structure Cx where
  P : Program
  tn : TypeId → Option TN
  Φ : Nat → Option CInfo
  nt : Nat

/-- The table of the types of elements is right. -/
structure TnOk (C : Cx) : Prop where
  mixed : C.P.follows .mixedOrders = true
  ok : ∀ e t, C.tn e = some t → ∃ i z, C.P.info? e = some i ∧ i.size = sz t ∧ i.bytes ≤ 1024 ∧ i.zero = some z ∧ z.cells.size = sz t

/-- Above this nothing is appended to. -/
def LIM : Nat := 2 ^ 36

def litV : Value → V
  | .bool b => .bool b
  | .int k n => bif decide (k.min ≤ n) && decide (n ≤ k.max) then .int k n else .undef
  | .string s => bif Nat.ble s.data.toList.length 1000000 then .str s.data.toList else .undef
  | .slice none 0 0 => .nil
  | .nilIface => .nili
  | _ => .undef

def opd (s : Nat → V) : Operand → V
  | .tmp t => s t
  | .const v => litV v
  | .func f => .fn f []
  | .global _ => .undef

section
variable (C : Cx) {R : Type}

def putK (dst : Option Nat) (st : St) (v : V) (K : St → Option R) : Option R :=
  match dst with
  | none => K st
  | some d => bif Nat.blt d C.nt then K { st with s := upd st.s d v } else none

def newK (dst : Option Nat) (st : St) (r : Nat) (c : RowC) (v : V) (K : St → Option R) : Option R :=
  putK C dst { st with h := upd st.h r (some ⟨c, .own⟩) } v K

/-- The flat cells of a value. -/
def cellsOf : V → List V
  | .agg cs => cs
  | v => [v]

def leafs (cs : List V) : Bool := cs.all V.leaf

def splice (cs : List V) (off : Nat) (vs : List V) : List V := cs.take off ++ vs ++ cs.drop (off + vs.length)

def markRo (h : Nat → Option Row) (ids : List Nat) : Nat → Option Row :=
  match ids with
  | [] => h
  | r :: rs => markRo (upd h r ((h r).map fun row => { row with m := .ro })) rs

def Mode.isLock : Mode → Bool
  | .lock => true
  | _ => false
def Mode.isOwn : Mode → Bool
  | .own => true
  | _ => false

def TN.beq (s t : TN) : Bool := Nat.beq s.ctorIdx t.ctorIdx

/-- A value that names no row: looked at to a depth. -/
def noRefN : Nat → V → Bool
  | 0, _ => false
  | n + 1, .fn _ cs => cs.all (noRefN n)
  | n + 1, .fp cs _ => cs.all (noRefN n)
  | _ + 1, .bool _ | _ + 1, .int _ _ | _ + 1, .str _ | _ + 1, .nil | _ + 1, .sl _ _ | _ + 1, .nili | _ + 1, .ifc => true
  | _ + 1, _ => false

/-- A value of one cell as it may be handed on: what the call owns becomes what nobody writes any more. -/
def frzLeaf (h : Nat → Option Row) : V → Option (V × List Nat)
  | .ow r => match h r with
    | some ⟨.arr t l, m⟩ => bif m.isLock then none else some (.sl t l, [r])
    | _ => none
  | .ov r t off len => match h r with
    | some ⟨.arr t' l, m⟩ => bif m.isLock then none else if e : t' = t then some (.sl t (((TN.cast e l).drop off).take len), [r]) else none
    | _ => none
  | v => bif noRefN 8 v then some (v, []) else none

def frzList (h : Nat → Option Row) : List V → Option (List V × List Nat)
  | [] => some ([], [])
  | v :: vs => match frzLeaf h v with
    | none => none
    | some (v', i) => match frzList h vs with
      | none => none
      | some (vs', j) => some (v' :: vs', i ++ j)

/-- An argument: a value of one cell, a struct, or a pointer to a variable that is only read (of a closure). -/
def frz (h : Nat → Option Row) : V → Option (V × List Nat)
  | .agg cs => match frzList h cs with
    | some (cs', i) => some (.agg cs', i)
    | none => none
  | .bp r off => match h r with
    | some ⟨.box cs, m⟩ => bif m.isLock || cs.isEmpty then none else match frzList h cs with
      | some (cs', i) => some (.fp cs' off, r :: i)
      | none => none
    | _ => none
  | v => frzLeaf h v

def frzArgs (h : Nat → Option Row) : List V → Option (List V × List Nat)
  | [] => some ([], [])
  | v :: vs => match frz h v with
    | none => none
    | some (v', i) => match frzArgs h vs with
      | none => none
      | some (vs', j) => some (v' :: vs', i ++ j)

def isAggT (P : Program) (t : TypeId) : Option Bool :=
  match P.underlying t with
  | some (.struct _) | some (.array _ _) => some true
  | some _ => some false
  | none => none

def sizeT (P : Program) (t : TypeId) : Option Nat := (P.info? t).map (·.size)

def loadCells (agg : Bool) (n : Nat) (cs : List V) (off : Nat) (K : V → Option R) : Option R :=
  bif agg then
    bif Nat.ble (off + n) cs.length then K (.agg ((cs.drop off).take n)) else none
  else match cs.drop off with
    | c :: _ => K c
    | [] => none

def idxI {α : Type} (l : List α) (i : Int) : Option α := if 0 ≤ i then l[i.toNat]? else none

/-- The element of a slice that lies at an address: by its number. -/
def nthK {α : Type} (l : List α) (i : Nat) (K : α → Option R) : Option R := Option.bind l[i]? K

def fieldOf (P : Program) (t : TypeId) (f : Nat) : Option (Nat × TypeId) :=
  match P.underlying t with
  | some (.struct fs) => match fs[f]? with
    | some x => some (x.offset, x.type)
    | none => none
  | _ => none

def elemT (P : Program) (t : TypeId) : Option TypeId :=
  match P.underlying t with
  | some (.slice e) => some e
  | _ => none

/-- A length that may be asked for: of a text, of a slice. -/
def lenKind : TypeDesc → V → Bool
  | .string, .str _ => true
  | .slice _, .sl _ _ | .slice _, .nil | .slice _, .ow _ | .slice _, .ov _ _ _ _ => true
  | _, _ => false

def lenOfV (h : Nat → Option Row) : V → Option Nat
  | .sl _ l => some l.length
  | .nil => some 0
  | .str s => some s.length
  | .ow r => match h r with
    | some ⟨.arr _ l, _⟩ => some l.length
    | _ => none
  | .ov _ _ _ len => some len
  | _ => none

/-- The elements of a slice that is only read. -/
def elemsOf (h : Nat → Option Row) (t : TN) : V → Option (List (El t))
  | .sl t' l => if e : t' = t then some (TN.cast e l) else none
  | .nil => some []
  | .ow r => match h r with
    | some ⟨.arr t' l, _⟩ => if e : t' = t then some (TN.cast e l) else none
    | _ => none
  | .ov r t0 off len => match h r with
    | some ⟨.arr t' l, _⟩ => bif decide (t0 = t) then if e : t' = t then some (((TN.cast e l).drop off).take len) else none else none
    | _ => none
  | _ => none

/-- The elements that an append goes on from, and the row that it takes. -/
def takenOf (h : Nat → Option Row) (t : TN) : V → Option (List (El t) × Option Nat)
  | .nil => some ([], none)
  | .ow r => match h r with
    | some ⟨.arr t' l, .own⟩ => if e : t' = t then some (TN.cast e l, some r) else none
    | _ => none
  | .ov r _ 0 len => match h r with
    | some ⟨.arr t' l, .own⟩ => if e : t' = t then some ((TN.cast e l).take len, some r) else none
    | _ => none
  | _ => none

def killO (h : Nat → Option Row) : Option Nat → Nat → Option Row
  | none => h
  | some r => upd h r none

def eqCells : List Bool → List V → List V → Option Bool
  | [], [], [] => some true
  | false :: ks, .int j a :: xs, .int k b :: ys => bif decide (j = k) then (eqCells ks xs ys).map (fun r => bif a == b then r else false) else none
  | true :: ks, .bool a :: xs, .bool b :: ys => (eqCells ks xs ys).map (fun r => bif a == b then r else false)
  | _, _, _ => none

def binV (op : BinOp) : V → V → Option V
  | .int k a, .int k' b =>
    match op with
    | .shl => if b < 0 then none else some (.int k (k.wrap (a * 2 ^ (min b.toNat k.bits))))
    | .shr => if b < 0 then none else some (.int k (a.fdiv (2 ^ (min b.toNat k.bits))))
    | .add => bif decide (k = k') then some (.int k (k.wrap (a + b))) else none
    | .sub => bif decide (k = k') then some (.int k (k.wrap (a - b))) else none
    | .mul => bif decide (k = k') then some (.int k (k.wrap (a * b))) else none
    | .and => bif decide (k = k') then some (.int k (k.wrap (BitVec.ofInt k.bits a &&& BitVec.ofInt k.bits b).toNat)) else none
    | .or => bif decide (k = k') then some (.int k (k.wrap (BitVec.ofInt k.bits a ||| BitVec.ofInt k.bits b).toNat)) else none
    | .xor => bif decide (k = k') then some (.int k (k.wrap (BitVec.ofInt k.bits a ^^^ BitVec.ofInt k.bits b).toNat)) else none
    | .andNot => bif decide (k = k') then some (.int k (k.wrap (BitVec.ofInt k.bits a &&& ~~~ BitVec.ofInt k.bits b).toNat)) else none
    | .eql => bif decide (k = k') then some (.bool (a == b)) else none
    | .neq => bif decide (k = k') then some (.bool (a != b)) else none
    | .lss => bif decide (k = k') then some (.bool (decide (a < b))) else none
    | .leq => bif decide (k = k') then some (.bool (decide (a ≤ b))) else none
    | .gtr => bif decide (k = k') then some (.bool (decide (a > b))) else none
    | .geq => bif decide (k = k') then some (.bool (decide (a ≥ b))) else none
    | _ => none
  | .str a, .str b =>
    match op with
    | .eql => some (.bool (a == b))
    | .neq => some (.bool (!(a == b)))
    | _ => none
  | _, _ => none

/-- A struct of numbers and truths, in whose comparison nothing else is met: which of its parts are truths. -/
def flatFields (P : Program) : Nat → List Field → Option (List Bool)
  | _, [] => some []
  | k, f :: fs => bif f.name != "_" && Nat.beq f.offset k then
      match P.underlying f.type, flatFields P (k + 1) fs with
      | some .bool, some ks => some (true :: ks)
      | some (.int _), some ks => some (false :: ks)
      | _, _ => none
    else none

def flatStruct (P : Program) (t : TypeId) : Option (List Bool) :=
  match P.underlying t with
  | some (.struct fs) => bif !(P.stoodInHeld t) && !(P.eqGuardType P.depth t) then flatFields P 0 fs.toList else none
  | _ => none

/-- '/', '%' and shifts ask what they are handed; so they are asked ahead. -/
def binK (op : BinOp) (x y : V) (K : V → Option R) : Option R :=
  match op, x, y with
  | .quo, .int k a, .int k' b => bif decide (k = k') then (bif b == 0 then none else K (.int k (k.wrap (a.tdiv b)))) else none
  | .rem, .int k a, .int k' b => bif decide (k = k') then (bif b == 0 then none else K (.int k (a.tmod b))) else none
  | .shl, .int k a, .int _ b => bif decide (b < 0) then none else K (.int k (k.wrap (a * 2 ^ (min b.toNat k.bits))))
  | .shr, .int k a, .int _ b => bif decide (b < 0) then none else K (.int k (a.fdiv (2 ^ (min b.toNat k.bits))))
  | .add, .str a, .str b => bif decide (a.length + b.length ≤ LIM) then K (.str (a ++ b)) else none
  | op, x, y => match binV op x y with
    | some v => K v
    | none => none

def unV (op : UnOp) : V → Option V
  | .int k n => match op with
    | .neg => some (.int k (k.wrap (0 - n)))
    | _ => none
  | .bool b => match op with
    | .not => some (.bool (!b))
    | _ => none
  | _ => none

/-- An own slice out of values for its elements. -/
def decAll (t : TN) : List (List V) → Option (List (El t))
  | [] => some []
  | cs :: r => match dec t cs with
    | none => none
    | some a => match decAll t r with
      | none => none
      | some l => some (a :: l)

/-- The leaves of a variable that are the call's own: taken out of their rows. -/
def takeLeaves (own : List Nat) : Nat → List V → (Nat → Option Row) → Option (List V × (Nat → Option Row))
  | _, [], h => some ([], h)
  | p, c :: cs, h =>
    bif own.any (Nat.beq p) then
      match c with
      | .ow r => match h r with
        | some ⟨.arr t l, .own⟩ => match takeLeaves own (p + 1) cs (upd h r none) with
          | some (cs', h') => some (.sl t l :: cs', h')
          | none => none
        | _ => none
      | .nil => match takeLeaves own (p + 1) cs h with
        | some (cs', h') => some (.nil :: cs', h')
        | none => none
      | _ => none
    else match frzLeaf h c with
      | some (c', ids) => match takeLeaves own (p + 1) cs (markRo h ids) with
        | some (cs', h') => some (c' :: cs', h')
        | none => none
      | none => none

/-- The results, flat, as the caller gets them: which of them are its own. -/
def thawL (own : List Nat) (base : Nat) : Nat → List V → List V
  | _, [] => []
  | p, .sl t l :: vs => (bif own.any (Nat.beq p) then .ow (base + p) else .sl t l) :: thawL own base (p + 1) vs
  | p, v :: vs => v :: thawL own base (p + 1) vs

def thawH (own : List Nat) (base : Nat) (h : Nat → Option Row) : Nat → List V → Nat → Option Row
  | _, [] => h
  | p, .sl t l :: vs => bif own.any (Nat.beq p) then upd (thawH own base h (p + 1) vs) (base + p) (some ⟨.arr t l, .own⟩) else thawH own base h (p + 1) vs
  | p, _ :: vs => thawH own base h (p + 1) vs

def packs : List (Bool × Nat) → List V → List V
  | [], _ => []
  | (agg, n) :: sh, vs => (bif agg then .agg (vs.take n) else match vs with | v :: _ => v | [] => .undef) :: packs sh (vs.drop n)

def pack (sh : List (Bool × Nat)) (vs : List V) : V :=
  match packs sh vs with
  | [v] => v
  | l => .tup l

def allCells : V → List (List V)
  | .agg cs => [cs]
  | v => [[v]]

/-- The parts of a composite literal of a slice: one a place, in order. -/
def partsFrom (s : Nat → V) : Nat → List (Nat × Operand) → Option (List V)
  | _, [] => some []
  | i, (j, x) :: r => bif Nat.beq i j then match partsFrom s (i + 1) r with
      | none => none
      | some vs => some (opd s x :: vs)
    else none

/-- The places of a struct's fields. -/
def placesT (P : Program) (t : TypeId) : Option (List (Nat × Nat)) :=
  match P.underlying t with
  | some (.struct fs) => fs.toList.mapM fun f => (P.info? f.type).map fun i => (f.offset, i.size)
  | _ => none

def fillAll (pl : List (Nat × Nat)) (s : Nat → V) (cs : List V) : List (Nat × Operand) → Option (List V)
  | [] => some cs
  | (f, x) :: r => match pl[f]? with
    | none => none
    | some (off, n) =>
      let vs := cellsOf (opd s x)
      bif Nat.beq n vs.length && leafs vs && Nat.ble (off + n) cs.length then fillAll pl s (splice cs off vs) r else none

/-- The zero of a type of elements. -/
def zeroCells (P : Program) (t : TypeId) : Option (List V) :=
  match (P.info? t).bind (·.zero) with
  | some z => let cs := z.cells.toList.map litV; bif leafs cs then some cs else none
  | none => none

def chainK (f : Nat → Option R) (i : Int) : Nat → Nat → Option R
  | _, 0 => none
  | k, n + 1 => bif i == (k : Int) then f k else chainK f i (k + 1) n

def boundV (d : Int) : Option V → Option Int
  | none => some d
  | some (.int _ n) => some n
  | _ => none

/-- A slice's part. -/
def cutV (d : TypeDesc) (tnok : TypeId → TN → Bool) (h : Nat → Option Row) (x : V) (lo hi : Option V) (K : V → Option R) : Option R :=
  match lenOfV h x with
  | none => none
  | some len =>
    match boundV 0 lo, boundV (len : Int) hi with
    | some a, some b =>
      bif decide (0 ≤ a) && decide (a ≤ b) && decide (b ≤ (len : Int)) then
        match d, x with
        | .slice e, .sl t l => bif tnok e t then K (.sl t ((l.drop a.toNat).take (b - a).toNat)) else none
        | .string, .str s => K (.str ((s.drop a.toNat).take (b - a).toNat))
        | .slice e, .ow r => match h r with
          | some ⟨.arr t _, _⟩ => bif tnok e t then K (.ov r t a.toNat (b - a).toNat) else none
          | _ => none
        | .slice e, .ov r t off _ => bif tnok e t then K (.ov r t (off + a.toNat) (b - a).toNat) else none
        | _, _ => none
      else none
    | _, _ => none

def tnIs (e : TypeId) (t : TN) : Bool := match C.tn e with
  | some t' => decide (t' = t)
  | none => false

/-- The arguments of a call, plain; what is left of the heap; the variables that are handed on. -/
def takeArgs : List ArgK → List V → (Nat → Option Row) → Option (List V × (Nat → Option Row) × List Nat)
  | [], [], h => some ([], h, [])
  | .plain :: ks, v :: vs, h => match frz h v with
    | none => none
    | some (v', ids) => match takeArgs ks vs (markRo h ids) with
      | none => none
      | some (as, h', bs) => some (v' :: as, h', bs)
  | .ptr own :: ks, .bp r 0 :: vs, h => match h r with
    | some ⟨.box cs, .own⟩ => bif Nat.ble cs.length 63 then match takeLeaves own 0 cs (upd h r none) with
      | none => none
      | some (cs', h') => match takeArgs ks vs h' with
        | none => none
        | some (as, h'', bs) => some (.agg cs' :: as, h'', r :: bs)
      else none
    | _ => none
  | _, _, _ => none

/-- The variables that were handed on, as they come back. -/
def putBoxes : List ArgK → List V → List Nat → List V → (Nat → Option Row) → Nat → Option Row
  | .plain :: ks, _ :: as, bs, vs, h => putBoxes ks as bs vs h
  | .ptr _ :: ks, .agg cs :: as, b :: bs, vs, h => upd (putBoxes ks as bs (vs.drop cs.length) h) b (some ⟨.box (vs.take cs.length), .own⟩)
  | _, _, _, _, h => h

def boxesLen : List ArgK → List V → Nat
  | .plain :: ks, _ :: as => boxesLen ks as
  | .ptr _ :: ks, .agg cs :: as => cs.length + boxesLen ks as
  | _, _ => 0

def shapeLen (sh : List (Bool × Nat)) : Nat := (sh.map (·.2)).sum

def callK (i : Nat) (dst : Option Nat) (st : St) (f : Nat) (as : List V) (K : St → Option R) : Option R :=
  match C.Φ f with
  | none => none
  | some ci => match takeArgs ci.ks as st.h with
    | none => none
    | some (as', h', bs) =>
      Option.bind (ci.dA as') fun a => Option.bind (ci.F a) fun r =>
        let vs := thawL ci.own i 0 (ci.eR r)
        bif Nat.ble vs.length 64 then
          putK C dst { st with h := putBoxes ci.ks as' bs (vs.drop (shapeLen ci.shape)) (thawH ci.own i h' 0 (ci.eR r)) } (pack ci.shape vs) K
        else none

/-- One operation. 'i': the first of the rows that it may make. -/
def stepK (i : Nat) (o : Oper) (st : St) (K : St → Option R) : Option R :=
  match o.op with
  | .move x | .assign x => putK C o.dst st (opd st.s x) K
  | .pick c a b => match opd st.s c with
    | .bool t => match opd st.s a, opd st.s b with
      | .bool x, .bool y => putK C o.dst st (.bool (cond t x y)) K
      | x, y => putK C o.dst st (cond t x y) K
    | _ => none
  | .alloc e => match zeroCells C.P e with
    | some cs => newK C o.dst st i (.box cs) (.bp i 0) K
    | none => none
  | .box e x =>
    let cs := cellsOf (opd st.s x)
    bif leafs cs then newK C o.dst st i (.box cs) (.bp i 0) K else none
  | .build t parts => match zeroCells C.P t, placesT C.P t with
    | some cs, some pl => Option.bind (fillAll pl st.s cs parts.toList) fun cs' => putK C o.dst st (.agg cs') K
    | _, _ => none
  | .buildSlice t len parts => match (elemT C.P t).bind C.tn with
    | none => none
    | some tn => match partsFrom st.s 0 parts.toList with
      | none => none
      | some vs => bif Nat.beq vs.length len && Nat.ble len 1000 then
          match frzArgs st.h vs with
          | none => none
          | some (vs', ids) => Option.bind (decAll tn (vs'.map cellsOf)) fun l =>
              newK C o.dst { st with h := markRo st.h ids } i (.arr tn l) (.ow i) K
        else none
  | .load t a => match isAggT C.P t, sizeT C.P t with
    | some ag, some n => match opd st.s a with
      | .bp r off => match st.h r with
        | some ⟨.box cs, _⟩ => loadCells ag n cs off fun v => putK C o.dst st v K
        | _ => none
      | .ep r t' k off => match st.h r with
        | some ⟨.arr t'' l, _⟩ => bif decide (t'' = t') then nthK l k fun x => loadCells ag n (enc t'' x) off fun v => putK C o.dst st v K else none
        | _ => none
      | .fp cs off => loadCells ag n cs off fun v => putK C o.dst st v K
      | _ => none
    | _, _ => none
  | .store t a x => match sizeT C.P t with
    | none => none
    | some n =>
      let vs := cellsOf (opd st.s x)
      bif Nat.beq n vs.length && leafs vs then
        match opd st.s a with
        | .bp r off => match st.h r with
          | some ⟨.box cs, .own⟩ => bif Nat.ble (off + n) cs.length then putK C o.dst { st with h := upd st.h r (some ⟨.box (splice cs off vs), .own⟩) } .undef K else none
          | _ => none
        | .ep r t' k off => match st.h r with
          | some ⟨.arr t'' l, .own⟩ => bif decide (t'' = t') then
              match frzList st.h vs with
              | none => none
              | some (vs', ids) => bif ids.any (Nat.beq r) then none else
                nthK l k fun x => bif Nat.ble (off + n) (sz t'') then
                  Option.bind (dec t'' (splice (enc t'' x) off vs')) fun y =>
                    putK C o.dst { st with h := upd (markRo st.h ids) r (some ⟨.arr t'' (l.set k y), .own⟩) } .undef K
                  else none
            else none
          | _ => none
        | _ => none
      else none
  | .nilCheck x => match opd st.s x with
    | .bp r off => putK C o.dst st (.bp r off) K
    | .ep r t k off => putK C o.dst st (.ep r t k off) K
    | .fp cs off => putK C o.dst st (.fp cs off) K
    | .fn f cs => putK C o.dst st (.fn f cs) K
    | _ => none
  | .binOp op t x y _ => match opd st.s x, opd st.s y with
    | .agg xs, .agg ys => match flatStruct C.P t with
      | some ks => match eqCells ks xs ys with
        | some b => match op with
          | .eql => putK C o.dst st (.bool b) K
          | .neq => putK C o.dst st (.bool (!b)) K
          | _ => none
        | none => none
      | none => none
    | .bool p, .bool q => match C.P.underlying t with
      | some .bool => match op with
        | .eql => putK C o.dst st (.bool (p == q)) K
        | .neq => putK C o.dst st (.bool (!(p == q))) K
        | _ => none
      | _ => none
    | vx, vy => binK op vx vy fun v => putK C o.dst st v K
  | .unOp op _ x => match unV op (opd st.s x) with
    | some v => putK C o.dst st v K
    | none => none
  | .convert src d x => match C.P.underlying src, C.P.underlying d, opd st.s x with
    | some (.int _), some (.int k), .int _ n => putK C o.dst st (.int k (k.wrap n)) K
    | some .string, some (.slice e), .str s => match C.tn e, C.P.underlying e with
      | some .byte, some (.int .u8) => bif Nat.ble s.length LIM then newK C o.dst st i (.arr .byte s) (.ow i) K else none
      | _, _ => none
    | some (.slice e), some .string, v => match C.P.underlying e, elemsOf st.h .byte v with
      | some (.int .u8), some l => bif Nat.ble l.length LIM then putK C o.dst st (.str l) K else none
      | _, _ => none
    | _, _, _ => none
  | .makeFunc (.func f) first captured => bif first.isEmpty then match frzArgs st.h (captured.toList.map (opd st.s)) with
      | some (cs, ids) => putK C o.dst { st with h := markRo st.h ids } (.fn f cs) K
      | none => none
    else none
  | .makeSlice t n c => match (elemT C.P t).bind C.tn, (elemT C.P t).bind (zeroCells C.P) with
    | some tn, some z => match opd st.s n, opd st.s c with
      | .int .i64 n, .int .i64 c => bif decide (0 ≤ n) && decide (n ≤ (LIM : Int)) && (n == c) then
          Option.bind (dec tn z) fun x => newK C o.dst st i (.arr tn (List.replicate n.toNat x)) (.ow i) K
        else none
      | _, _ => none
    | _, _ => none
  | .slice t x lo hi mx => match mx, C.P.underlying t with
    | some _, _ | _, none => none
    | none, some d => cutV d (tnIs C) st.h (opd st.s x) (lo.map (opd st.s)) (hi.map (opd st.s)) fun v => putK C o.dst st v K
  | .fieldAddr t x f => match fieldOf C.P t f with
    | none => none
    | some (off, ft) => match sizeT C.P ft with
      | some (_ + 1) => match opd st.s x with
        | .bp r o1 => putK C o.dst st (.bp r (o1 + off)) K
        | .ep r t' k o1 => putK C o.dst st (.ep r t' k (o1 + off)) K
        | .fp cs o1 => putK C o.dst st (.fp cs (o1 + off)) K
        | _ => none
      | _ => none
  | .field t x f => match fieldOf C.P t f, opd st.s x with
    | some (off, ft), .agg cs => match isAggT C.P ft, sizeT C.P ft with
      | some ag, some n => loadCells ag n cs off fun v => putK C o.dst st v K
      | _, _ => none
    | _, _ => none
  | .indexAddr t x ix => match opd st.s ix with
    | .int _ n => match C.P.underlying t, opd st.s x with
      | some (.slice e), .sl t' l => bif tnIs C e t' then Option.bind (idxI l n) fun a => putK C o.dst st (.fp (enc t' a) 0) K else none
      | some (.slice e), .ow r => match st.h r with
        | some ⟨.arr t' l, _⟩ => bif tnIs C e t' then bif decide (0 ≤ n) && decide (n < (l.length : Int)) then putK C o.dst st (.ep r t' n.toNat 0) K else none else none
        | _ => none
      | some (.slice e), .ov r t' off len => bif tnIs C e t' then bif decide (0 ≤ n) && decide (n < (len : Int)) then putK C o.dst st (.ep r t' (off + n.toNat) 0) K else none else none
      | some (.array m e), .bp r o1 => match sizeT C.P e with
        | some 1 => chainK (fun k => putK C o.dst st (.bp r (o1 + k)) K) n 0 m
        | _ => none
      | _, _ => none
    | _ => none
  | .index t x ix => match opd st.s ix, C.P.underlying t, opd st.s x with
    | .int _ n, some .string, .str s => Option.bind (idxI s n) fun b => putK C o.dst st (.int .u8 (b.toNat : Int)) K
    | .int _ n, some (.array m e), .agg cs => match sizeT C.P e, isAggT C.P e with
      | some 1, some false => chainK (fun k => match cs.drop k with | c :: _ => putK C o.dst st c K | [] => none) n 0 m
      | _, _ => none
    | _, _, _ => none
  | .extract x ix => match opd st.s x with
    | .tup vs => match vs.drop ix with
      | v :: _ => putK C o.dst st v K
      | [] => none
    | _ => none
  | .call { callee := .builtin .len, args, argTypes } => match args.toList, argTypes.toList with
    | [x], [t] => match C.P.underlying t, lenOfV st.h (opd st.s x) with
      | some d, some n => bif lenKind d (opd st.s x) then putK C o.dst st (.int .i64 (n : Int)) K else none
      | _, _ => none
    | _, _ => none
  | .call { callee := .builtin .append, args, argTypes } => match args.toList, argTypes.toList with
    | [x, y], [t, t'] => bif Nat.beq t t' then match (elemT C.P t).bind C.tn with
      | none => none
      | some tn => match takenOf st.h tn (opd st.s x), elemsOf st.h tn (opd st.s y) with
        | some (l, r), some m => bif decide (l.length + m.length ≤ LIM) then
            newK C o.dst { st with h := killO st.h r } i (.arr tn (l ++ m)) (.ow i) K
          else none
        | _, _ => none
      else none
    | _, _ => none
  | .call { callee := .builtin .min, args, argTypes := _ } => match args.toList.map (opd st.s) with
    | [.int k a, .int k' b] => bif decide (k = k') then putK C o.dst st (.int k (if b < a then b else a)) K else none
    | _ => none
  | .call { callee := .builtin .max, args, argTypes := _ } => match args.toList.map (opd st.s) with
    | [.int k a, .int k' b] => bif decide (k = k') then putK C o.dst st (.int k (if b > a then b else a)) K else none
    | _ => none
  | .call { callee := .value x, args, argTypes := _ } => match opd st.s x with
    | .fn f cs => callK C i o.dst st f (args.toList.map (opd st.s) ++ cs) K
    | _ => none
  | _ => none

end
end Go.D

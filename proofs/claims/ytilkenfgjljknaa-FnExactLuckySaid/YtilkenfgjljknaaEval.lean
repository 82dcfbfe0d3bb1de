/-
  The plain semantics of whole bodies: regions, branches that meet again, loops. What meets again meets by a tuple of plain data.
-/
import Derived.Test.YtilkenfgjljknaaKeep
namespace Go.D

inductive Ty where
  | v (t : TN)
  | sl (t : TN)
  | raw
  | cells (t : TN)

@[reducible] def Ty.T : Ty → Type
  | .v t => El t
  | .sl t => List (El t)
  | .raw => V
  | .cells t => El t

def encV (t : TN) (a : El t) : V := bif t.isAgg then .agg (enc t a) else match enc t a with
  | c :: _ => c
  | [] => .undef

def encTy : (t : Ty) → t.T → V
  | .v t, a => encV t a
  | .sl t, l => .sl t l
  | .raw, v => v
  | .cells t, a => .agg (enc t a)

def decTy : (t : Ty) → V → Option t.T
  | .v t, v => match v with
    | .agg cs => bif t.isAgg then dec t cs else none
    | v => bif t.isAgg then none else dec t [v]
  | .sl t, v => asL t v
  | .raw, v => some v
  | .cells t, v => match v with
    | .agg cs => dec t cs
    | _ => none

inductive Comp where
  | slot (s : Nat) (ty : Ty)
  | own (s : Nat) (t : TN)
  | box (s : Nat) (t : TN) (own : List Nat)

@[reducible] def Comp.T : Comp → Type
  | .slot _ ty => ty.T
  | .own _ t => List (El t)
  | .box _ t _ => El t

@[reducible] def Tup : List Comp → Type
  | [] => Unit
  | [c] => c.T
  | c :: d :: r => c.T × Tup (d :: r)

@[reducible] def TyTup : List Ty → Type
  | [] => Unit
  | [c] => c.T
  | c :: d :: r => c.T × TyTup (d :: r)

def decTup : (ts : List Ty) → List V → Option (TyTup ts)
  | [], [] => some ()
  | [t], [v] => decTy t v
  | t :: d :: r, v :: vs => Option.bind (decTy t v) fun x => Option.bind (decTup (d :: r) vs) fun y => some (x, y)
  | _, _ => none

def encTup : (ts : List Ty) → TyTup ts → List V
  | [], _ => []
  | [t], x => [encTy t x]
  | t :: d :: r, x => encTy t x.1 :: encTup (d :: r) x.2

def flatTy : (t : Ty) → t.T → List V
  | .v t, a => enc t a
  | .sl t, l => [.sl t l]
  | .raw, v => [v]
  | .cells t, a => enc t a

def flatTup : (ts : List Ty) → TyTup ts → List V
  | [], _ => []
  | [t], x => flatTy t x
  | t :: d :: r, x => flatTy t x.1 ++ flatTup (d :: r) x.2

def unflatTy : (t : Ty) → List V → Option (t.T × List V)
  | .v t, vs => (dec t (vs.take (sz t))).bind fun a => some (a, vs.drop (sz t))
  | .sl t, v :: vs => (asL t v).bind fun l => some (l, vs)
  | .sl _, [] => none
  | .raw, v :: vs => some (v, vs)
  | .raw, [] => none
  | .cells t, vs => (dec t (vs.take (sz t))).bind fun a => some (a, vs.drop (sz t))

def unflat : (ts : List Ty) → List V → Option (TyTup ts)
  | [], [] => some ()
  | [t], vs => (unflatTy t vs).bind fun x => match x.2 with
    | [] => some x.1
    | _ => none
  | t :: d :: r, vs => (unflatTy t vs).bind fun x => (unflat (d :: r) x.2).bind fun y => some (x.1, y)
  | [], _ :: _ => none

structure JI where
  cs : List Comp
  kill : List (Nat × Nat)
  pre : List Nat

/-- What is known of a body ahead: where branches, blocks, loops and regions meet again; what is given up ahead of a region that draws its order. -/
structure An where
  c : List (Nat × JI)
  b : List (Nat × JI)
  l : List (Nat × JI)
  r : List (Nat × JI)
  d : List (Nat × List Nat)

inductive Ex where
  | normal
  | exit (id : Nat)
  | ret

noncomputable def FU : Nat := Classical.choose (⟨2 ^ 64, rfl⟩ : ∃ n : Nat, n = 2 ^ 64)
theorem FU_eq : FU = 2 ^ 64 := Classical.choose_spec (⟨2 ^ 64, rfl⟩ : ∃ n : Nat, n = 2 ^ 64)

section
variable {R : Type}

def loopK {σ : Type} : Nat → (σ → (σ → Option R) → Option R) → σ → Option R
  | 0, _, _ => none
  | n + 1, f, x => f x (loopK n f)

def joinK {σ : Type} (k : σ → Option R) (b : (σ → Option R) → Option R) : Option R := b k

def look {α : Type} (k : Nat) : List (Nat × α) → Option α
  | [] => none
  | (j, x) :: r => bif Nat.beq j k then some x else look k r

def ex1 : (c : Comp) → St → (c.T → St → Option R) → Option R
  | .slot s ty, st, k => match frz st.h (st.s s) with
    | some (v, ids) => Option.bind (decTy ty v) fun x => k x { st with h := markRo st.h ids }
    | none => none
  | .own s t, st, k => match takenOf st.h t (st.s s) with
    | some (l, r) => k l { st with h := killO st.h r }
    | none => none
  | .box s t own, st, k => match st.s s with
    | .bp r 0 => match st.h r with
      | some ⟨.box cs, .own⟩ => match takeLeaves own 0 cs (upd st.h r none) with
        | some (cs', h') => Option.bind (dec t cs') fun x => k x { st with h := h' }
        | none => none
      | _ => none
    | _ => none

def exK : (cs : List Comp) → St → (Tup cs → Option R) → Option R
  | [], _, k => k ()
  | [c], st, k => ex1 c st fun x _ => k x
  | c :: d :: r, st, k => ex1 c st fun x st' => exK (d :: r) st' fun y => k (x, y)

def rowOf : V → Option Nat
  | .ow r => some r
  | .ov r _ _ _ => some r
  | _ => none

def insS1 : (c : Comp) → Nat → c.T → (Nat → V) → Nat → V
  | .slot s ty, _, x, f => upd f s (encTy ty x)
  | .own s _, id, _, f => upd f s (.ow id)
  | .box .., _, _, f => f

def insS : (cs : List Comp) → Nat → Tup cs → (Nat → V) → Nat → V
  | [], _, _, f => f
  | [c], id, x, f => insS1 c id x f
  | c :: d :: r, id, x, f => insS1 c id x.1 (insS (d :: r) (id + 64) x.2 f)

/-- The rows of the tuple's parts. 'sl': the slots ahead (where a variable lies). -/
def insH1 (sl : Nat → V) : (c : Comp) → Nat → c.T → (Nat → Option Row) → Nat → Option Row
  | .slot .., _, _, h => h
  | .own _ t, id, x, h => upd h id (some ⟨.arr t x, .own⟩)
  | .box s t own, id, x, h => match sl s with
    | .bp r 0 => upd (thawH own id h 0 (enc t x)) r (some ⟨.box (thawL own id 0 (enc t x)), .own⟩)
    | _ => h

def insH (sl : Nat → V) : (cs : List Comp) → Nat → Tup cs → (Nat → Option Row) → Nat → Option Row
  | [], _, _, h => h
  | [c], id, x, h => insH1 sl c id x h
  | c :: d :: r, id, x, h => insH1 sl c id x.1 (insH sl (d :: r) (id + 64) x.2 h)

def inKill (kill : List (Nat × Nat)) (i : Nat) : Bool := kill.any fun p => Nat.ble p.1 i && Nat.ble i p.2

def isSlot : List Comp → Nat → Bool
  | [], _ => false
  | .slot s _ :: r, i => Nat.beq s i || isSlot r i
  | .own s _ :: r, i => Nat.beq s i || isSlot r i
  | .box .. :: r, i => isSlot r i

/-- The rows that the tuple's parts lie in. -/
def inRows1 (st : St) (r : Nat) : Comp → Bool
  | .slot .. => false
  | .own s _ => match rowOf (st.s s) with | some r' => Nat.beq r r' | none => false
  | .box s _ _ => match st.s s with
    | .bp b 0 => Nat.beq r b || match st.h b with
      | some ⟨.box cs, _⟩ => cs.any fun c => match rowOf c with | some r' => Nat.beq r r' | none => false
      | _ => false
    | _ => false

def inRows (cs : List Comp) (st : St) (r : Nat) : Bool := cs.any (inRows1 st r)

/-- The rows that stay: all but those of the tuple's parts that are the call's own. -/
def restH (j : JI) (base : St) : Nat → Option Row := fun r => match base.h r with
  | some ⟨c, .own⟩ => bif inRows j.cs base r then none else some ⟨c, .own⟩
  | x => x

/-- The state behind: what the tuple says, and what was there ahead and was not touched. -/
def install (j : JI) (base : St) (x : Tup j.cs) : St :=
  { s := insS j.cs base.nx x fun i => bif inKill j.kill i then .undef else base.s i
    h := insH base.s j.cs base.nx x (restH j base)
    nx := base.nx + 64 * j.cs.length }

/-- Ahead of a part that meets again: what is not in the tuple may not be touched. -/
def lockBut (j : JI) (st : St) : St :=
  { st with h := fun r => match st.h r with
      | some ⟨c, .own⟩ => bif inRows j.cs st r then some ⟨c, .own⟩ else some ⟨c, .lock⟩
      | x => x }

/-- What was locked is free again. -/
def unlock (base st : St) : St :=
  { st with h := fun r => match st.h r with
      | some ⟨c, .lock⟩ => match base.h r with
        | some ⟨_, .own⟩ => some ⟨c, .own⟩
        | _ => some ⟨c, .lock⟩
      | x => x }

/-- Own slices that are given up ahead. -/
def preRo (pre : List Nat) (st : St) : Option St :=
  match pre with
  | [] => some st
  | s :: r => match frz st.h (st.s s) with
    | some (_, ids) => preRo r { st with h := markRo st.h ids }
    | none => none

def firstRegion : Code → Option Nat
  | .region id _ _ => some id
  | .seq a b => match firstRegion a with
    | some i => some i
    | none => firstRegion b
  | .cond _ a _ => firstRegion a
  | .block _ b | .loop b | .scope b => firstRegion b
  | _ => none

/-- A tuple's slots and what it wipes. -/
def JI.has (j : JI) (i : Nat) : Bool := inKill j.kill i || isSlot j.cs i

def subKill (kill : List (Nat × Nat)) (j : JI) (p : Nat × Nat) : Bool := kill.any (fun q => Nat.ble q.1 p.1 && Nat.ble p.2 q.2) || (Nat.beq p.1 p.2 && isSlot j.cs p.1)

def compOk (j : JI) : Comp → Bool
  | .slot s _ => j.has s
  | .own s _ => j.has s
  | .box .. => true

/-- What lies inside stays inside. -/
def fits (j : JI) : Option JI → Bool
  | none => true
  | some i => i.kill.all (subKill j.kill j) && i.cs.all (compOk j)

def Code.within (an : An) (j : JI) : Code → Bool
  | .region id ops _ => ops.toList.all (fun o => match o.dst with | some d => j.has d | none => true) && fits j (look id an.r)
  | .seq a b => Code.within an j a && Code.within an j b
  | .cond (.tmp t) a b => Code.within an j a && Code.within an j b && fits j (look t an.c)
  | .cond _ a b => Code.within an j a && Code.within an j b
  | .block id b => Code.within an j b && fits j (look id an.b)
  | .loop b => Code.within an j b && match firstRegion b with
    | some rid => fits j (look rid an.l)
    | none => true
  | .scope b => Code.within an j b
  | _ => true

/-- A variable's own slot is not written. -/
def boxSlots (j : JI) : Bool := j.cs.all fun c => match c with
  | .box s _ _ => !(j.has s)
  | _ => true

def slotsNodup : List Comp → Bool
  | [] => true
  | .slot s _ :: r => !(isSlot r s) && slotsNodup r
  | .own s _ :: r => !(isSlot r s) && slotsNodup r
  | .box .. :: r => slotsNodup r

def joinOk (an : An) (j : JI) (c : Code) : Bool := Code.within an j c && boxSlots j && slotsNodup j.cs

variable (C : Cx)

def runG (ops : Array Oper) (nx : Nat) : List (Nat × Oper) → St → (St → Option R) → Option R
  | [], st, K => K st
  | (i, o) :: rest, st, K =>
    match o.guard with
    | none => stepK C (nx + 64 * i) o st fun st' => runG ops nx rest st' K
    | some (j, want) => match (ops[j]?).bind (·.dst) with
      | none => none
      | some dj => match st.s dj with
        | .tup [] => putK C o.dst st (.tup []) fun st' => runG ops nx rest st' K
        | .bool t =>
          let G : Bool → Option R := fun b =>
            let st := { st with s := upd st.s dj (.bool b) }
            bif b == want then stepK C (nx + 64 * i) o st fun st' => runG ops nx rest st' K
            else putK C o.dst st (.tup []) fun st' => runG ops nx rest st' K
          cond t (G true) (G false)
        | _ => none

def zipFrom {α : Type} : Nat → List α → List (Nat × α)
  | _, [] => []
  | i, x :: r => (i, x) :: zipFrom (i + 1) r

/-! ### Regions that draw their order -/

/-- An operation of such a region, as it ran in the order of the text: the slots that it looks at, the rows that it reads, those that it turns. -/
structure Rec where
  i : Nat
  dst : Option Nat
  ls : List Nat
  rd : List Nat
  wr : List Nat

def memN (r : Nat) (l : List Nat) : Bool := l.any (Nat.beq r)

def lockRow : Option Row → Option Row
  | some ⟨c, .own⟩ => some ⟨c, .lock⟩
  | x => x

def cutH (rd wr : List Nat) (h : Nat → Option Row) : Nat → Option Row := fun r => bif memN r wr then h r else bif memN r rd then lockRow (h r) else none
def cutS (ls : List Nat) (s : Nat → V) : Nat → V := fun t => bif memN t ls then s t else .undef

def inFresh (b r : Nat) : Bool := Nat.ble b r && Nat.blt r (b + 64)

def layH (b : Nat) (wr : List Nat) (h h' : Nat → Option Row) : Nat → Option Row := fun r => bif memN r wr || inFresh b r then h' r else h r
def layS (dst : Option Nat) (s s' : Nat → V) : Nat → V := match dst with
  | none => s
  | some d => upd s d (s' d)

/-- An operation that sees what it is said to see, and no more. -/
def stepR (b : Nat) (o : Oper) (ls rd wr : List Nat) (st : St) (K : St → Option R) : Option R :=
  stepK C b o { s := cutS ls st.s, h := cutH rd wr st.h, nx := st.nx } fun st' => K { s := layS o.dst st.s st'.s, h := layH b wr st.h st'.h, nx := st.nx }

def nameLeaf : V → List Nat
  | .ow r => [r]
  | .ov r _ _ _ => [r]
  | .bp r _ => [r]
  | .ep r _ _ _ => [r]
  | _ => []
def names1 : V → List Nat
  | .agg cs => cs.flatMap nameLeaf
  | v => nameLeaf v
def names2 (h : Nat → Option Row) : V → List Nat
  | .bp r _ => r :: match h r with
    | some ⟨.box cs, _⟩ => cs.flatMap nameLeaf
    | _ => []
  | v => names1 v
def isRoAt (h : Nat → Option Row) (r : Nat) : Bool := match h r with
  | some ⟨_, .ro⟩ => true
  | _ => false
def splitRo (h : Nat → Option Row) (l : List Nat) : List Nat × List Nat := (l.filter (isRoAt h), l.filter fun r => !isRoAt h r)

/-- The rows that an operation reads, and those that it may turn. -/
def foot (o : Oper) (st : St) : List Nat × List Nat :=
  match o.op with
  | .load _ a => (nameLeaf (opd st.s a), [])
  | .store _ a x => match opd st.s a with
    | .ep r _ _ _ => let p := splitRo st.h (names1 (opd st.s x)); (p.1, r :: p.2)
    | v => ([], nameLeaf v)
  | .slice _ x _ _ _ => (nameLeaf (opd st.s x), [])
  | .indexAddr _ x _ => (nameLeaf (opd st.s x), [])
  | .convert _ _ x => (nameLeaf (opd st.s x), [])
  | .buildSlice _ _ ps => splitRo st.h (ps.toList.flatMap fun p => names1 (opd st.s p.2))
  | .makeFunc _ _ cs => splitRo st.h (cs.toList.flatMap fun x => names2 st.h (opd st.s x))
  | .call { callee := .builtin .append, args, argTypes := _ } => match args.toList with
    | [x, y] => (nameLeaf (opd st.s y), nameLeaf (opd st.s x))
    | _ => ([], [])
  | .call { callee := .builtin _, args, argTypes := _ } => (args.toList.flatMap fun x => nameLeaf (opd st.s x), [])
  | .call { callee := _, args, argTypes := _ } => splitRo st.h (args.toList.flatMap fun x => names2 st.h (opd st.s x))
  | _ => ([], [])

def slotsOf (o : Oper) : List Nat := o.op.operands.toList.filterMap fun x => match x with
  | .tmp t => some t
  | _ => none

def dstIs (d : Option Nat) (l : List Nat) : Bool := match d with
  | some d => memN d l
  | none => false

/-- Two operations that may run in either order. -/
def okPair (nx : Nat) (e1 e : Rec) : Bool :=
  !(dstIs e1.dst e.ls) && !(dstIs e.dst e1.ls) && !(dstIs e1.dst e.dst.toList) &&
  e1.wr.all (fun r => !(memN r e.rd) && !(memN r e.wr)) && e.wr.all (fun r => !(memN r e1.rd)) &&
  e.rd.all (fun r => !(inFresh (nx + 64 * e1.i) r)) && e.wr.all (fun r => !(inFresh (nx + 64 * e1.i) r)) &&
  e1.rd.all (fun r => !(inFresh (nx + 64 * e.i) r)) && e1.wr.all (fun r => !(inFresh (nx + 64 * e.i) r))

def okRecs (mask nx : Nat) (rs : List Rec) (e : Rec) : Bool := rs.all fun e1 => Nat.testBit mask e1.i || okPair nx e1 e

/-- What must have run ahead of an operation. -/
def maskOf (ms : List Nat) (es : List Edge) : Nat := es.foldl (fun s e => bif Region.binds .any e then s ||| (2 ^ e.on ||| ms.getD e.on 0) else s) 0
def masksGo : List Nat → List Oper → List Nat
  | ms, [] => ms
  | ms, o :: r => masksGo (ms ++ [maskOf ms o.after.toList]) r

def edgesOk (i : Nat) (o : Oper) : Bool := o.after.toList.all fun e => !(Region.binds .any e) || Nat.blt e.on i

def runD1 (ops : Array Oper) (ms : List Nat) (nx : Nat) : List (Nat × Oper) → List Rec → St → (St → Option R) → Option R
  | [], _, st, K => K st
  | (i, o) :: rest, rs, st, K =>
    bif edgesOk i o then
    match o.guard with
    | none =>
      let f := foot o st
      let e : Rec := ⟨i, o.dst, slotsOf o, f.1, f.2⟩
      bif okRecs (ms.getD i 0) nx rs e then stepR C (nx + 64 * i) o e.ls e.rd e.wr st fun st' => runD1 ops ms nx rest (e :: rs) st' K else none
    | some (j, want) => match (ops[j]?).bind (·.dst) with
      | none => none
      | some dj =>
        let skip : St → Option R := fun st =>
          let e : Rec := ⟨i, o.dst, [dj], [], []⟩
          bif okRecs (ms.getD i 0) nx rs e then putK C o.dst st (.tup []) fun st' => runD1 ops ms nx rest (e :: rs) st' K else none
        match st.s dj with
        | .tup [] => skip st
        | .bool t =>
          let G : Bool → Option R := fun b =>
            let st := { st with s := upd st.s dj (.bool b) }
            bif b == want then
              let f := foot o st
              let e : Rec := ⟨i, o.dst, dj :: slotsOf o, f.1, f.2⟩
              bif okRecs (ms.getD i 0) nx rs e then stepR C (nx + 64 * i) o e.ls e.rd e.wr st fun st' => runD1 ops ms nx rest (e :: rs) st' K else none
            else skip st
          cond t (G true) (G false)
        | _ => none
    else none

def runD (pre : List Nat) (ops : Array Oper) (st : St) (K : St → Option R) : Option R :=
  match preRo pre st with
  | none => none
  | some st => runD1 C ops (masksGo [] ops.toList) st.nx (zipFrom 0 ops.toList) [] st fun st' => K { st' with nx := st.nx + 64 * ops.size }

def runR (pre : List Nat) (draw : Bool) (ops : Array Oper) (st : St) (K : St → Option R) : Option R :=
  bif draw then runD C pre ops st K else
  runG C ops st.nx (zipFrom 0 ops.toList) st fun st' => K { st' with nx := st.nx + 64 * ops.size }

noncomputable def runC (an : An) : Code → St → (Ex → St → Option R) → Option R
  | .skip, st, K => K .normal st
  | .region id ops d, st, K => match look id an.r with
    | none => runR C ((look id an.d).getD []) d ops st (K .normal)
    | some j => match preRo j.pre st with
      | none => none
      | some st => bif joinOk an j (.region id ops d) then
          joinK (fun y : Tup j.cs => K .normal (install j st y)) fun k => runR C ((look id an.d).getD []) d ops (lockBut j st) fun st' => exK j.cs st' k
        else none
  | .seq a b, st, K => runC an a st fun e st' => match e with
    | .normal => runC an b st' K
    | e => K e st'
  | .cond (.tmp t) a b, st, K => match st.s t with
    | .bool x => match look t an.c with
      | none => cond x (runC an a st K) (runC an b st K)
      | some j => match preRo j.pre st with
        | none => none
        | some st => bif joinOk an j a && joinOk an j b then
            joinK (fun y : Tup j.cs => K .normal (install j st y)) fun k =>
              let K' : Ex → St → Option R := fun e st' => match e with
                | .normal => exK j.cs st' k
                | e => K e (unlock st st')
              cond x (runC an a (lockBut j st) K') (runC an b (lockBut j st) K')
          else none
    | _ => none
  | .block id b, st, K => match look id an.b with
    | none => runC an b st fun e st' => match e with
      | .exit id' => bif Nat.beq id' id then K .normal st' else K e st'
      | e => K e st'
    | some j => match preRo j.pre st with
      | none => none
      | some st => bif joinOk an j b then
          joinK (fun y : Tup j.cs => K .normal (install j st y)) fun k =>
            runC an b (lockBut j st) fun e st' => match e with
              | .normal => exK j.cs st' k
              | .exit id' => bif Nat.beq id' id then exK j.cs st' k else K e (unlock st st')
              | e => K e (unlock st st')
        else none
  | .loop b, st, K => match firstRegion b with
    | none => none
    | some rid => match look rid an.l with
      | none => none
      | some j => match preRo j.pre st with
        | none => none
        | some st => bif joinOk an j b then
            exK j.cs (lockBut j st) fun x0 => loopK FU (fun (x : Tup j.cs) (k : Tup j.cs → Option R) =>
              runC an b (lockBut j (install j st x)) fun e st' => match e with
                | .normal => exK j.cs st' k
                | e => K e (unlock (install j st x) st')) x0
          else none
  | .exit id, st, K => K (.exit id) st
  | .ret, st, K => K .ret st
  | _, _, _ => none

/-- The results, flat: of each whether it is a struct, and how many cells it has. -/
def resLeaves (P : Program) (st : St) : List ResultVar → List (Bool × Nat) → Option (List V)
  | [], [] => some []
  | .tmp t :: r, (ag, n) :: sh => match st.s t, resLeaves P st r sh with
    | .agg cs, some vs => bif ag && Nat.beq n cs.length then some (cs ++ vs) else none
    | v, some vs => bif !ag && Nat.beq n 1 && v.leaf then some (v :: vs) else none
    | _, none => none
  | .cell a t :: r, (ag, n) :: sh => match st.s a, resLeaves P st r sh, isAggT P t, sizeT P t with
    | .bp b 0, some vs, some ag', some n' => match st.h b with
      | some ⟨.box cs, _⟩ => bif (ag == ag') && Nat.beq n n' && Nat.beq n cs.length && (ag || Nat.beq n 1) then some (cs ++ vs) else none
      | _ => none
    | _, _, _, _ => none
  | _, _ => none

/-- What the variables hold that were handed in. -/
def boxLeaves (st : St) : List ArgK → List V → Nat → Option (List V)
  | .plain :: ks, _ :: as, k => boxLeaves st ks as (k + 1)
  | .ptr _ :: ks, .agg cs0 :: as, k => match st.h (64 * k + 63), boxLeaves st ks as (k + 1) with
    | some ⟨.box cs, .own⟩, some vs => bif Nat.beq cs.length cs0.length then some (cs ++ vs) else none
    | _, _ => none
  | [], [], _ => some []
  | _, _, _ => none

/-- What arguments may be handed: a variable has its cells. -/
def ksOk : List ArgK → List Ty → Bool
  | [], [] => true
  | .plain :: ks, _ :: ts => ksOk ks ts
  | .ptr [] :: ks, .cells _ :: ts => ksOk ks ts
  | _, _ => false

noncomputable def evalF (fn : Func) (body : Code) (an : An) (ks : List ArgK) (own : List Nat) (shape : List (Bool × Nat)) (ts : List Ty) (as : List V) : Option (TyTup ts) :=
  runC C an body { s := fun i => match (entS ks 0 as).drop i with | v :: _ => v | [] => .undef, h := entH ks 0 as, nx := 64 * ks.length } fun e st =>
    match e with
    | .exit _ => none
    | _ => match resLeaves C.P st fn.results.toList shape, boxLeaves st ks as 0 with
      | some vs, some us => match takeLeaves own 0 (vs ++ us) st.h with
        | some (rs, _) => unflat ts rs
        | none => none
      | _, _ => none
end
end Go.D

/-
  A plain semantics of the code: values without memory, what the call itself makes kept in rows. It is a function, so that the kernel can run it.
-/
import Derived.Test.YtinolgjddfjojaaGreatL1
import Derived.Calls
import Derived.Deep.AppendSrc
namespace Go.D
def hgt (b:Bool):Bool:=b
def gd {α:Type _} (c:Bool) (a b:α):α:=match hgt c with
  | true=>a
  | false=>b
def bnd {α β:Type _} (x:Option α) (f:α→Option β):Option β:=gd true (match x with
  | some a=>f a
  | none=>none) none
@[simp] theorem gd_true {α:Type _} (a b:α):gd true a b=a:=rfl
@[simp] theorem gd_false {α:Type _} (a b:α):gd false a b=b:=rfl
@[simp] theorem bnd_eq {α β:Type _} (x:Option α) (f:α→Option β):bnd x f=Option.bind x f:=by cases x <;> rfl
def upd {α:Type} (f:Nat→α) (i:Nat) (v:α):Nat→α:=fun j=>bif Nat.beq j i then v else f j
inductive Mode where
  | own | ro | lock
inductive RowC where
  | box (cs:List V)
  | arr (t:TN) (l:List (El t))
structure Row where
  c:RowC
  m:Mode
structure St where
  s:Nat→V
  h:Nat→Option Row
  nx:Nat
inductive ArgK where
  | plain
  | ptr (own:List Nat)
  | mv (own:List Nat)
structure CInfo where
  ks:List ArgK
  A:Type
  R:Type
  dA:List V→Option A
  F:A→Option R
  eR:R→List V
  shape:List (Bool × Nat)
  own:List Nat
  pb:Bool
structure Gl where
  K:Nat
  p:World→Prop
  stay:∀ w w':World,(∀ b,b<K→w'.heap[b]?=w.heap[b]?)→p w→p w'
  lt:∀ w,p w→K≤w.heap.size
def noGl:Gl:=⟨0,fun _=>True,fun _ _ _ h=>h,fun _ _=>Nat.zero_le _⟩
structure Glob (g:Gl) (own:Nat→Prop) (w:World):Prop where
  p:g.p w
  own:∀ b,b<g.K→¬ own b
structure Cx where
  P:Program
  tn:TypeId→Option TN
  Φ:Nat→Option CInfo
  nt:Nat
  g:Gl
structure TnOk (C:Cx):Prop where
  mixed:C.P.follows .mixedOrders=true
  ok:∀ e t,C.tn e=some t→∃ i z,C.P.info? e=some i∧i.size=sz t∧i.bytes≤1024∧i.zero=some z∧z.cells.size=sz t
def LIM:Nat:=2^36
def litV:Value→V
  | .bool b=> .bool b
  | .int k n=>bif decide (k.min≤n)&&decide (n≤k.max) then .int k n else .undef
  | .string s=>bif Nat.ble s.data.toList.length 1000000 then .str s.data.toList else .undef
  | .slice none 0 0=> .nil
  | .nilIface=> .nili
  | _=> .undef
def opd (s:Nat→V):Operand→V
  | .tmp t=>s t
  | .const v=>litV v
  | .func f=> .fn f []
  | .global _=> .undef
section
variable (C:Cx) {R:Type}
def putK (dst:Option Nat) (st:St) (v:V) (K:St→Option R):Option R:=
  match dst with
  | none=>K st
  | some d=>gd (Nat.blt d C.nt) (K { st with s:=upd st.s d v }) none
def newK (dst:Option Nat) (st:St) (r:Nat) (c:RowC) (v:V) (K:St→Option R):Option R:=
  putK C dst { st with h:=upd st.h r (some ⟨c, .own⟩) } v K
def cellsOf:V→List V
  | .agg cs=>cs
  | v=>[v]
def leafs (cs:List V):Bool:=cs.all V.leaf
def splice (cs:List V) (off:Nat) (vs:List V):List V:=cs.take off++vs++cs.drop (off+vs.length)
def markRo (h:Nat→Option Row) (ids:List Nat):Nat→Option Row:=
  match ids with
  | []=>h
  | r :: rs=>markRo (upd h r ((h r).map fun row=> { row with m:= .ro })) rs
def Mode.isLock:Mode→Bool
  | .lock=>true
  | _=>false
def Mode.isOwn:Mode→Bool
  | .own=>true
  | _=>false
def TN.beq (s t:TN):Bool:=Nat.beq s.ctorIdx t.ctorIdx
def noRefN:Nat→V→Bool
  | 0,_=>false
  | n+1, .fn _ cs=>cs.all (noRefN n)
  | n+1, .fp cs _=>cs.all (noRefN n)
  | _+1, .bool _ | _+1, .int _ _ | _+1, .str _ | _+1, .nil | _+1, .sl _ _ | _+1, .nili | _+1, .ifc _=>true
  | _+1,_=>false
def frzLeaf (h:Nat→Option Row):V→Option (V × List Nat)
  | .ow r=>match h r with
    | some ⟨.arr t l,m⟩=>bif m.isLock then none else some (.sl t l,[r])
    | _=>none
  | .ov r t off len=>match h r with
    | some ⟨.arr t' l,m⟩=>bif m.isLock then none else if e:t'=t then some (.sl t (((TN.cast e l).drop off).take len),[r]) else none
    | _=>none
  | v=>bif noRefN 8 v then some (v,[]) else none
def frzList (h:Nat→Option Row):List V→Option (List V × List Nat)
  | []=>some ([],[])
  | v :: vs=>match frzLeaf h v with
    | none=>none
    | some (v',i)=>match frzList h vs with
      | none=>none
      | some (vs',j)=>some (v' :: vs',i++j)
def frz (h:Nat→Option Row):V→Option (V × List Nat)
  | .agg cs=>match frzList h cs with
    | some (cs',i)=>some (.agg cs',i)
    | none=>none
  | .bp r off=>match h r with
    | some ⟨.box cs,m⟩=>bif m.isLock||cs.isEmpty then none else match frzList h cs with
      | some (cs',i)=>some (.fp cs' off,r :: i)
      | none=>none
    | _=>none
  | v=>frzLeaf h v
def frzArgs (h:Nat→Option Row):List V→Option (List V × List Nat)
  | []=>some ([],[])
  | v :: vs=>match frz h v with
    | none=>none
    | some (v',i)=>match frzArgs h vs with
      | none=>none
      | some (vs',j)=>some (v' :: vs',i++j)
def isAggT (P:Program) (t:TypeId):Option Bool:=
  match P.underlying t with
  | some (.struct _) | some (.array _ _)=>some true
  | some _=>some false
  | none=>none
def sizeT (P:Program) (t:TypeId):Option Nat:=(P.info? t).map (·.size)
def loadCells (agg:Bool) (n:Nat) (cs:List V) (off:Nat) (K:V→Option R):Option R:=
  gd agg (gd (Nat.ble (off+n) cs.length) (K (.agg ((cs.drop off).take n))) none) (match cs.drop off with
    | c :: _=>K c
    | []=>none)
def idxI {α:Type} (l:List α) (i:Int):Option α:=if 0≤i then l[i.toNat]? else none
def nthK {α:Type} (l:List α) (i:Nat) (K:α→Option R):Option R:=Option.bind l[i]? K
def fieldOf (P:Program) (t:TypeId) (f:Nat):Option (Nat × TypeId):=
  match P.underlying t with
  | some (.struct fs)=>match fs[f]? with
    | some x=>some (x.offset,x.type)
    | none=>none
  | _=>none
def elemT (P:Program) (t:TypeId):Option TypeId:=
  match P.underlying t with
  | some (.slice e)=>some e
  | _=>none
def lenKind:TypeDesc→V→Bool
  | .string, .str _=>true
  | .slice _, .sl _ _ | .slice _, .nil | .slice _, .ow _ | .slice _, .ov _ _ _ _=>true
  | _,_=>false
def lenOfV (h:Nat→Option Row):V→Option Nat
  | .sl _ l=>some l.length
  | .nil=>some 0
  | .str s=>some s.length
  | .ow r=>match h r with
    | some ⟨.arr _ l,_⟩=>some l.length
    | _=>none
  | .ov _ _ _ len=>some len
  | _=>none
def elemsOf (h:Nat→Option Row) (t:TN):V→Option (List (El t))
  | .sl t' l=>if e:t'=t then some (TN.cast e l) else none
  | .nil=>some []
  | .ow r=>match h r with
    | some ⟨.arr t' l,_⟩=>if e:t'=t then some (TN.cast e l) else none
    | _=>none
  | .ov r t0 off len=>match h r with
    | some ⟨.arr t' l,_⟩=>bif decide (t0=t) then if e:t'=t then some (((TN.cast e l).drop off).take len) else none else none
    | _=>none
  | _=>none
def takenOf (h:Nat→Option Row) (t:TN):V→Option (List (El t) × Option Nat)
  | .nil=>some ([],none)
  | .ow r=>match h r with
    | some ⟨.arr t' l, .own⟩=>if e:t'=t then some (TN.cast e l,some r) else none
    | _=>none
  | .ov r _ 0 len=>match h r with
    | some ⟨.arr t' l, .own⟩=>if e:t'=t then some ((TN.cast e l).take len,some r) else none
    | _=>none
  | _=>none
def killO (h:Nat→Option Row):Option Nat→Nat→Option Row
  | none=>h
  | some r=>upd h r none
def eqCells:List Bool→List V→List V→Option Bool
  | [],[],[]=>some true
  | false :: ks, .int j a :: xs, .int k b :: ys=>bif decide (j=k) then (eqCells ks xs ys).map (fun r=>bif a==b then r else false) else none
  | true :: ks, .bool a :: xs, .bool b :: ys=>(eqCells ks xs ys).map (fun r=>bif a==b then r else false)
  | _,_,_=>none
def binV (op:BinOp):V→V→Option V
  | .int k a, .int k' b=>
    match op with
    | .shl=>if b<0 then none else some (.int k (k.wrap (a *2^(min b.toNat k.bits))))
    | .shr=>if b<0 then none else some (.int k (a.fdiv (2^(min b.toNat k.bits))))
    | .add=>bif decide (k=k') then some (.int k (k.wrap (a+b))) else none
    | .sub=>bif decide (k=k') then some (.int k (k.wrap (a - b))) else none
    | .mul=>bif decide (k=k') then some (.int k (k.wrap (a *b))) else none
    | .and=>bif decide (k=k') then some (.int k (k.wrap (BitVec.ofInt k.bits a&&&BitVec.ofInt k.bits b).toNat)) else none
    | .or=>bif decide (k=k') then some (.int k (k.wrap (BitVec.ofInt k.bits a|||BitVec.ofInt k.bits b).toNat)) else none
    | .xor=>bif decide (k=k') then some (.int k (k.wrap (BitVec.ofInt k.bits a^^^BitVec.ofInt k.bits b).toNat)) else none
    | .andNot=>bif decide (k=k') then some (.int k (k.wrap (BitVec.ofInt k.bits a&&& ~~~ BitVec.ofInt k.bits b).toNat)) else none
    | .eql=>bif decide (k=k') then some (.bool (a==b)) else none
    | .neq=>bif decide (k=k') then some (.bool (a !=b)) else none
    | .lss=>bif decide (k=k') then some (.bool (decide (a<b))) else none
    | .leq=>bif decide (k=k') then some (.bool (decide (a≤b))) else none
    | .gtr=>bif decide (k=k') then some (.bool (decide (a>b))) else none
    | .geq=>bif decide (k=k') then some (.bool (decide (a≥b))) else none
    | _=>none
  | .str a, .str b=>
    match op with
    | .eql=>some (.bool (a==b))
    | .neq=>some (.bool (!(a==b)))
    | _=>none
  | _,_=>none
def flatFields (P:Program):Nat→List Field→Option (List Bool)
  | _,[]=>some []
  | k, f :: fs => bif f.name != "_" && Nat.beq f.offset k then
      match P.underlying f.type,flatFields P (k+1) fs with
      | some .bool,some ks=>some (true :: ks)
      | some (.int _),some ks=>some (false :: ks)
      | _,_=>none
    else none
def flatFields2 (P:Program):Nat→List Field→Option (List Bool)
  | _,[]=>some []
  | k, f :: fs => bif f.name != "_" && Nat.beq f.offset k then
      match P.underlying f.type with
      | some .bool=>match flatFields2 P (k+1) fs with
        | some ks=>some (true :: ks)
        | none=>none
      | some (.int _)=>match flatFields2 P (k+1) fs with
        | some ks=>some (false :: ks)
        | none=>none
      | some (.struct gs)=>match flatFields P 0 gs.toList with
        | some k1=>bif !(P.stoodInHeld f.type)&&decide (sizeT P f.type=some k1.length) then match flatFields2 P (k+k1.length) fs with
            | some ks=>some (k1++ks)
            | none=>none
          else none
        | none=>none
      | _=>none
    else none
def flatStruct (P:Program) (t:TypeId):Option (List Bool):=
  match P.underlying t with
  | some (.struct fs)=>bif !(P.stoodInHeld t)&&!(P.eqGuardType P.depth t) then flatFields2 P 0 fs.toList else none
  | _=>none
def binK (op:BinOp) (x y:V) (K:V→Option R):Option R:=
  match op,x,y with
  | .quo, .int k a, .int k' b=>bif decide (k=k') then (bif b==0 then none else K (.int k (k.wrap (a.tdiv b)))) else none
  | .rem, .int k a, .int k' b=>bif decide (k=k') then (bif b==0 then none else K (.int k (a.tmod b))) else none
  | .shl, .int k a, .int _ b=>bif decide (b<0) then none else K (.int k (k.wrap (a *2^(min b.toNat k.bits))))
  | .shr, .int k a, .int _ b=>bif decide (b<0) then none else K (.int k (a.fdiv (2^(min b.toNat k.bits))))
  | .add, .str a, .str b=>bif decide (a.length+b.length≤LIM) then K (.str (a++b)) else none
  | op,x,y=>match binV op x y with
    | some v=>K v
    | none=>none
def unV (op:UnOp):V→Option V
  | .int k n=>match op with
    | .neg=>some (.int k (k.wrap (0 - n)))
    | _=>none
  | .bool b=>match op with
    | .not=>some (.bool (!b))
    | _=>none
  | _=>none
def decAll (t:TN):List (List V)→Option (List (El t))
  | []=>some []
  | cs :: r=>match dec t cs with
    | none=>none
    | some a=>match decAll t r with
      | none=>none
      | some l=>some (a :: l)
def takeLeaves (own:List Nat):Nat→List V→(Nat→Option Row)→Option (List V × (Nat→Option Row))
  | _,[],h=>some ([],h)
  | p,c :: cs,h=>
    bif own.any (Nat.beq p) then
      match c with
      | .ow r=>match h r with
        | some ⟨.arr t l, .own⟩=>match takeLeaves own (p+1) cs (upd h r none) with
          | some (cs',h')=>some (.sl t l :: cs',h')
          | none=>none
        | _=>none
      | .nil=>match takeLeaves own (p+1) cs h with
        | some (cs',h')=>some (.nil :: cs',h')
        | none=>none
      | _=>none
    else match frzLeaf h c with
      | some (c',ids)=>match takeLeaves own (p+1) cs (markRo h ids) with
        | some (cs',h')=>some (c' :: cs',h')
        | none=>none
      | none=>none
def thawL (own:List Nat) (base:Nat):Nat→List V→List V
  | _,[]=>[]
  | p, .sl t l :: vs=>(bif own.any (Nat.beq p) then .ow (base+p) else .sl t l) :: thawL own base (p+1) vs
  | p,v :: vs=>v :: thawL own base (p+1) vs
def thawH (own:List Nat) (base:Nat) (h:Nat→Option Row):Nat→List V→Nat→Option Row
  | _,[]=>h
  | p, .sl t l :: vs=>bif own.any (Nat.beq p) then upd (thawH own base h (p+1) vs) (base+p) (some ⟨.arr t l, .own⟩) else thawH own base h (p+1) vs
  | p,_ :: vs=>thawH own base h (p+1) vs
def packs:List (Bool × Nat)→List V→List V
  | [],_=>[]
  | (agg,n) :: sh,vs=>(bif agg then .agg (vs.take n) else match vs with | v :: _=>v | []=> .undef) :: packs sh (vs.drop n)
def pack (sh:List (Bool × Nat)) (vs:List V):V:=
  match packs sh vs with
  | [v]=>v
  | l=> .tup l
def partsFrom (s:Nat→V):Nat→List (Nat × Operand)→Option (List V)
  | _,[]=>some []
  | i,(j,x) :: r=>bif Nat.beq i j then match partsFrom s (i+1) r with
      | none=>none
      | some vs=>some (opd s x :: vs)
    else none
def placesT (P:Program) (t:TypeId):Option (List (Nat × Nat)):=
  match P.underlying t with
  | some (.struct fs)=>fs.toList.mapM fun f=>(P.info? f.type).map fun i=>(f.offset,i.size)
  | some (.array n e)=>match P.info? e with
    | some i=>bif Nat.ble n 128 then some ((List.range n).map fun k=>(k *i.size,i.size)) else none
    | none=>none
  | _=>none
def fillAll (pl:List (Nat × Nat)) (s:Nat→V) (cs:List V):List (Nat × Operand)→Option (List V)
  | []=>some cs
  | (f,x) :: r=>match pl[f]? with
    | none=>none
    | some (off,n)=>
      let vs:=cellsOf (opd s x)
      bif Nat.beq n vs.length&&leafs vs&&Nat.ble (off+n) cs.length then fillAll pl s (splice cs off vs) r else none
def zeroCells (P:Program) (t:TypeId):Option (List V):=
  match (P.info? t).bind (·.zero) with
  | some z=>let cs:=z.cells.toList.map litV;bif leafs cs then some cs else none
  | none=>none
def zeroAny (P:Program) (t:TypeId):Option (List V):=((P.info? t).bind (·.zero)).map fun z=>z.cells.toList.map litV
def chainK (f:Nat→Option R) (i:Int):Nat→Nat→Option R
  | _,0=>none
  | k,n+1=>bif i==(k:Int) then f k else chainK f i (k+1) n
def boundV (d:Int):Option V→Option Int
  | none=>some d
  | some (.int _ n)=>some n
  | _=>none
def cutV (d:TypeDesc) (tnok:TypeId→TN→Bool) (h:Nat→Option Row) (x:V) (lo hi:Option V) (K:V→Option R):Option R:=
  match lenOfV h x with
  | none=>none
  | some len=>
    match boundV 0 lo,boundV (len:Int) hi with
    | some a,some b=>
      bif decide (0≤a)&&decide (a≤b)&&decide (b≤(len:Int)) then
        match d,x with
        | .slice e, .sl t l=>gd (tnok e t) (K (.sl t ((l.drop a.toNat).take (b - a).toNat))) none
        | .string, .str s=>K (.str ((s.drop a.toNat).take (b - a).toNat))
        | .slice e, .ow r=>match h r with
          | some ⟨.arr t _,_⟩=>gd (tnok e t) (K (.ov r t a.toNat (b - a).toNat)) none
          | _=>none
        | .slice e, .ov r t off _=>gd (tnok e t) (K (.ov r t (off+a.toNat) (b - a).toNat)) none
        | _,_=>none
      else none
    | _,_=>none
def tnIs (e:TypeId) (t:TN):Bool:=match C.tn e with
  | some t'=>decide (t'=t)
  | none=>false
def takeArgs:List ArgK→List V→(Nat→Option Row)→Option (List V × (Nat→Option Row) × List Nat)
  | [],[],h=>some ([],h,[])
  | .plain :: ks,v :: vs,h=>match frz h v with
    | none=>none
    | some (v',ids)=>match takeArgs ks vs (markRo h ids) with
      | none=>none
      | some (as,h',bs)=>some (v' :: as,h',bs)
  | .ptr own :: ks, .bp r 0 :: vs,h=>match h r with
    | some ⟨.box cs, .own⟩=>bif Nat.ble cs.length 127 then match takeLeaves own 0 cs (upd h r none) with
      | none=>none
      | some (cs',h')=>match takeArgs ks vs h' with
        | none=>none
        | some (as,h'',bs)=>some (.agg cs' :: as,h'',r :: bs)
      else none
    | _=>none
  | .mv own :: ks, .agg cs :: vs,h=>bif Nat.ble cs.length 127 then match takeLeaves own 0 cs h with
      | none=>none
      | some (cs',h')=>match takeArgs ks vs h' with
        | none=>none
        | some (as,h'',bs)=>some (.agg cs' :: as,h'',bs)
    else none
  | _,_,_=>none
def freeH (h:Nat→Option Row):Nat→Option Row:=fun r=>match h r with
  | some ⟨c, .lock⟩=>some ⟨c, .own⟩
  | x=>x
def putBoxes:List ArgK→List V→List Nat→List V→(Nat→Option Row)→Nat→Option Row
  | .plain :: ks,_ :: as,bs,vs,h=>putBoxes ks as bs vs h
  | .mv _ :: ks,_ :: as,bs,vs,h=>putBoxes ks as bs vs h
  | .ptr _ :: ks, .agg cs :: as,b :: bs,vs,h=>upd (putBoxes ks as bs (vs.drop cs.length) h) b (some ⟨.box (vs.take cs.length), .own⟩)
  | _,_,_,_,h=>h
def shapeLen (sh:List (Bool × Nat)):Nat:=(sh.map (·.2)).sum
def keyOf (f:Nat) (as:List V):Nat:=match as with
  | [_, .fn g _]=>f+(g+1) *1048576
  | _=>f
theorem keyOf_mod (f:Nat) (as:List V) (h:f<1048576):keyOf f as % 1048576=f:=by
  unfold keyOf
  split
  · rw [Nat.add_mul_mod_self_right];exact Nat.mod_eq_of_lt h
  · exact Nat.mod_eq_of_lt h
def hpX (ci:CInfo) (as:List V) (bs:List Nat) (i:Nat) (rs:List V) (h:Nat→Option Row):Nat→Option Row:=
  bif ci.pb then upd h i (some ⟨.box rs, .own⟩) else putBoxes ci.ks as bs ((thawL ci.own i 0 rs).drop (shapeLen ci.shape)) (thawH ci.own i h 0 rs)
def resX (ci:CInfo) (i:Nat) (rs:List V):V:=bif ci.pb then .bp i 0 else pack ci.shape (thawL ci.own i 0 rs)
def scalarV:V→Bool
  | .int _ _ | .bool _ | .str _=>true
  | _=>false
def ArgK.isPlain:ArgK→Bool
  | .plain=>true
  | _=>false
def TN.flat:TN→Bool
  | .byte | .int | .bool | .str | .Addr | .Credit | .Timer | .Form=>true
  | _=>false
def pureR (own:List Nat):Nat→List V→Bool
  | _,[]=>true
  | p, .sl t _ :: vs=>own.any (Nat.beq p)&&t.flat&&pureR own (p+1) vs
  | p,v :: vs=>scalarV v&&pureR own (p+1) vs
def pureC (ci:CInfo) (rs:List V):Bool:=!ci.pb&&ci.ks.all ArgK.isPlain&&pureR ci.own 0 rs
def callK (i:Nat) (dst:Option Nat) (st:St) (f:Nat) (as:List V) (K:St→Option R):Option R:=
  match bif Nat.blt f 1048576 then C.Φ (keyOf f as) else none with
  | none=>none
  | some ci=>match takeArgs ci.ks as st.h with
    | none=>match takeArgs ci.ks as (freeH st.h) with
      | none=>none
      | some (as',_,bs)=>
        bnd (ci.dA as') fun a=>Option.bind (ci.F a) fun r=>
          gd (Nat.ble (ci.eR r).length 128&&pureC ci (ci.eR r)) (
            putK C dst { st with h:=hpX ci as' bs i (ci.eR r) st.h } (resX ci i (ci.eR r)) K) none
    | some (as',h',bs)=>
      bnd (ci.dA as') fun a=>Option.bind (ci.F a) fun r=>
        gd (Nat.ble (ci.eR r).length 128) (
          putK C dst { st with h:=hpX ci as' bs i (ci.eR r) (bif pureC ci (ci.eR r) then st.h else h') } (resX ci i (ci.eR r)) K) none
def stepK (i:Nat) (o:Oper) (st:St) (K:St→Option R):Option R:=
  match o.op with
  | .move x | .assign x=>putK C o.dst st (opd st.s x) K
  | .pick c a b=>match opd st.s c with
    | .bool t=>match opd st.s a,opd st.s b with
      | .bool x, .bool y=>putK C o.dst st (.bool (cond t x y)) K
      | x,y=>putK C o.dst st (cond t x y) K
    | _=>none
  | .alloc e=>match zeroAny C.P e with
    | some cs=>newK C o.dst st i (.box cs) (.bp i 0) K
    | none=>none
  | .box e x=>
    let cs:=cellsOf (opd st.s x)
    gd (leafs cs) (newK C o.dst st i (.box cs) (.bp i 0) K) none
  | .build t parts=>match zeroCells C.P t,placesT C.P t with
    | some cs,some pl=>bnd (fillAll pl st.s cs parts.toList) fun cs'=>putK C o.dst st (.agg cs') K
    | _,_=>none
  | .buildSlice t len parts=>match (elemT C.P t).bind C.tn with
    | none=>none
    | some tn=>match partsFrom st.s 0 parts.toList with
      | none=>none
      | some vs=>gd (Nat.beq vs.length len&&Nat.ble len 1000) (
          match frzArgs st.h vs with
          | none=>none
          | some (vs',ids)=>bnd (decAll tn (vs'.map cellsOf)) fun l=>
              newK C o.dst { st with h:=markRo st.h ids } i (.arr tn l) (.ow i) K) none
  | .load t a=>match isAggT C.P t,sizeT C.P t with
    | some ag,some n=>match opd st.s a with
      | .bp r off=>match st.h r with
        | some ⟨.box cs,_⟩=>loadCells ag n cs off fun v=>putK C o.dst st v K
        | _=>none
      | .ep r t' k off=>match st.h r with
        | some ⟨.arr t'' l,_⟩=>gd (decide (t''=t')) (nthK l k fun x=>loadCells ag n (enc t'' x) off fun v=>putK C o.dst st v K) none
        | _=>none
      | .fp cs off=>loadCells ag n cs off fun v=>putK C o.dst st v K
      | _=>none
    | _,_=>none
  | .store t a x=>match sizeT C.P t with
    | none=>none
    | some n=>
      let vs:=cellsOf (opd st.s x)
      gd (Nat.beq n vs.length&&leafs vs) (
        match opd st.s a with
        | .bp r off=>match st.h r with
          | some ⟨.box cs, .own⟩=>gd (Nat.ble (off+n) cs.length) (putK C o.dst { st with h:=upd st.h r (some ⟨.box (splice cs off vs), .own⟩) } .undef K) none
          | _=>none
        | .ep r t' k off=>match st.h r with
          | some ⟨.arr t'' l, .own⟩=>gd (decide (t''=t')) (
              match frzList st.h vs with
              | none=>none
              | some (vs',ids)=>gd (ids.any (Nat.beq r)) none (
                nthK l k fun x=>gd (Nat.ble (off+n) (sz t'')) (
                  bnd (dec t'' (splice (enc t'' x) off vs')) fun y=>
                    putK C o.dst { st with h:=upd (markRo st.h ids) r (some ⟨.arr t'' (l.set k y), .own⟩) } .undef K) none)) none
          | _=>none
        | _=>none) none
  | .nilCheck x=>match opd st.s x with
    | .bp r off=>putK C o.dst st (.bp r off) K
    | .ep r t k off=>putK C o.dst st (.ep r t k off) K
    | .fp cs off=>putK C o.dst st (.fp cs off) K
    | .fn f cs=>putK C o.dst st (.fn f cs) K
    | _=>none
  | .binOp op t x y _=>match opd st.s x,opd st.s y with
    | .agg xs, .agg ys=>match flatStruct C.P t with
      | some ks=>match eqCells ks xs ys with
        | some b=>match op with
          | .eql=>putK C o.dst st (.bool b) K
          | .neq=>putK C o.dst st (.bool (!b)) K
          | _=>none
        | none=>none
      | none=>none
    | .bool p, .bool q=>match C.P.underlying t with
      | some .bool=>match op with
        | .eql=>putK C o.dst st (.bool (p==q)) K
        | .neq=>putK C o.dst st (.bool (!(p==q))) K
        | _=>none
      | _=>none
    | .ifc b, .nili=>match y,C.P.underlying t with
      | .const _,some (.interface _)=>match op with
        | .eql=>putK C o.dst st (.bool b) K
        | .neq=>putK C o.dst st (.bool (!b)) K
        | _=>none
      | _,_=>none
    | vx,vy=>binK op vx vy fun v=>putK C o.dst st v K
  | .unOp op _ x=>match unV op (opd st.s x) with
    | some v=>putK C o.dst st v K
    | none=>none
  | .convert src d x=>match C.P.underlying src,C.P.underlying d,opd st.s x with
    | some (.int _),some (.int k), .int _ n=>putK C o.dst st (.int k (k.wrap n)) K
    | some .string,some (.slice e), .str s=>match C.tn e,C.P.underlying e with
      | some .byte,some (.int .u8)=>bif Nat.ble s.length LIM then newK C o.dst st i (.arr .byte s) (.ow i) K else none
      | _,_=>none
    | some (.slice e),some .string,v=>match C.P.underlying e,elemsOf st.h .byte v with
      | some (.int .u8),some l=>bif Nat.ble l.length LIM then putK C o.dst st (.str l) K else none
      | _,_=>none
    | some (.slice _),some (.slice e), .ow r=>match Nat.beq src d,C.P.underlying e,st.h r with
      | true,some (.int .u8),some ⟨.arr .byte (b :: l), .own⟩=>putK C o.dst { st with h:=upd st.h r none } (.sl .byte (b :: l)) K
      | _,_,_=>none
    | _,_,_=>none
  | .makeFunc (.func f) first captured=>gd (first.isEmpty) ( match frzArgs st.h (captured.toList.map (opd st.s)) with
      | some (cs,ids)=>putK C o.dst { st with h:=markRo st.h ids } (.fn f cs) K
      | none=>none) none
  | .makeSlice t n c=>match (elemT C.P t).bind C.tn,(elemT C.P t).bind (zeroCells C.P) with
    | some tn,some z=>match opd st.s n,opd st.s c with
      | .int .i64 n, .int .i64 c=>bif decide (0≤n)&&decide (n≤(LIM:Int))&&(n==c) then
          bnd (dec tn z) fun x=>newK C o.dst st i (.arr tn (List.replicate n.toNat x)) (.ow i) K
        else none
      | _,_=>none
    | _,_=>none
  | .slice t x lo hi mx=>match mx,C.P.underlying t with
    | some _,_ | _,none=>none
    | none,some d=>cutV d (tnIs C) st.h (opd st.s x) (lo.map (opd st.s)) (hi.map (opd st.s)) fun v=>putK C o.dst st v K
  | .fieldAddr t x f=>match fieldOf C.P t f with
    | none=>none
    | some (off,ft)=>match sizeT C.P ft with
      | some (_+1)=>match opd st.s x with
        | .bp r o1=>putK C o.dst st (.bp r (o1+off)) K
        | .ep r t' k o1=>putK C o.dst st (.ep r t' k (o1+off)) K
        | .fp cs o1=>putK C o.dst st (.fp cs (o1+off)) K
        | _=>none
      | _=>none
  | .field t x f=>match fieldOf C.P t f,opd st.s x with
    | some (off,ft), .agg cs=>match isAggT C.P ft,sizeT C.P ft with
      | some ag,some n=>loadCells ag n cs off fun v=>putK C o.dst st v K
      | _,_=>none
    | _,_=>none
  | .indexAddr t x ix=>match opd st.s ix with
    | .int _ n=>match C.P.underlying t,opd st.s x with
      | some (.slice e), .sl t' l=>gd (tnIs C e t') (Option.bind (idxI l n) fun a=>putK C o.dst st (.fp (enc t' a) 0) K) none
      | some (.slice e), .ow r=>match st.h r with
        | some ⟨.arr t' l,_⟩=>gd (tnIs C e t') (bif decide (0≤n)&&decide (n<(l.length:Int)) then putK C o.dst st (.ep r t' n.toNat 0) K else none) none
        | _=>none
      | some (.slice e), .ov r t' off len=>gd (tnIs C e t') (bif decide (0≤n)&&decide (n<(len:Int)) then putK C o.dst st (.ep r t' (off+n.toNat) 0) K else none) none
      | some (.array m e), .bp r o1=>match sizeT C.P e with
        | some 1=>chainK (fun k=>putK C o.dst st (.bp r (o1+k)) K) n 0 m
        | _=>none
      | _,_=>none
    | _=>none
  | .index t x ix=>match opd st.s ix,C.P.underlying t,opd st.s x with
    | .int _ n,some .string, .str s=>Option.bind (idxI s n) fun b=>putK C o.dst st (.int .u8 (b.toNat:Int)) K
    | .int _ n,some (.array m e), .agg cs=>match sizeT C.P e,isAggT C.P e with
      | some 1,some false=>chainK (fun k=>match cs.drop k with | c :: _=>putK C o.dst st c K | []=>none) n 0 m
      | _,_=>none
    | _,_,_=>none
  | .extract x ix=>match opd st.s x with
    | .tup vs=>match vs.drop ix with
      | v :: _=>putK C o.dst st v K
      | []=>none
    | _=>none
  | .call { callee:= .builtin .len,args,argTypes }=>match args.toList,argTypes.toList with
    | [x],[t]=>match C.P.underlying t,lenOfV st.h (opd st.s x) with
      | some d,some n=>gd (lenKind d (opd st.s x)) (putK C o.dst st (.int .i64 (n:Int)) K) none
      | _,_=>none
    | _,_=>none
  | .call { callee:= .builtin .append,args,argTypes }=>match args.toList,argTypes.toList with
    | [x,y],[t,t']=>gd (Nat.beq t t') ( match (elemT C.P t).bind C.tn with
      | none=>none
      | some tn=>match takenOf st.h tn (opd st.s x),elemsOf st.h tn (opd st.s y) with
        | some (l,r),some m=>bif decide (l.length+m.length≤LIM) then
            newK C o.dst { st with h:=killO st.h r } i (.arr tn (l++m)) (.ow i) K
          else none
        | _,_=>none) none
    | _,_=>none
  | .call { callee:= .builtin .min,args,argTypes:=_ }=>match args.toList.map (opd st.s) with
    | [.int k a, .int k' b]=>bif decide (k=k') then putK C o.dst st (.int k (if b<a then b else a)) K else none
    | _=>none
  | .call { callee:= .builtin .max,args,argTypes:=_ }=>match args.toList.map (opd st.s) with
    | [.int k a, .int k' b]=>bif decide (k=k') then putK C o.dst st (.int k (if b>a then b else a)) K else none
    | _=>none
  | .call { callee:= .value x,args,argTypes:=_ }=>match opd st.s x with
    | .fn f cs=>callK C i o.dst st f (args.toList.map (opd st.s)++cs) K
    | _=>none
  | _=>none
end
end Go.D
namespace Go.D
def Mode.isRo:Mode→Bool
  | .ro=>true
  | _=>false
structure Wx (w0 w:World):Prop where
  os:w.os=w0.os
  tape:w.tape=w0.tape
  output:w.output=w0.output
  size:w0.heap.size≤w.heap.size
theorem Wx.refl (w:World):Wx w w:=⟨rfl,rfl,rfl,Nat.le_refl _⟩
theorem Wx.trans {a b c:World} (h:Wx a b) (k:Wx b c):Wx a c:=⟨k.os.trans h.os,k.tape.trans h.tape,k.output.trans h.output,Nat.le_trans h.size k.size⟩
def RowOk (w:World) (ρ:Nat→Option RI) (bad:Nat→Prop) (ri:RI):RowC→Prop
  | .box cs=>ri.nl=false∧∀ j (h:j<cs.length),w.frozen? (at_ ri.b j)=false∧∃ u,w.cell? (at_ ri.b j)=some u∧VR w ρ bad u cs[j]
  | .arr t l=>ri.n=l.length∧(ri.nl=true∧l=[]∨ri.nl=false∧ri.n≤ri.cap∧ri.cap≤maxLen∧
      (∀ j,j<ri.cap *sz t→w.frozen? (at_ ri.b j)=false∧(w.cell? (at_ ri.b j)).isSome=true)∧
      ∀ i (h:i<l.length) j,j<sz t→∃ u,w.cell? (at_ ri.b (i *sz t+j))=some u∧VR w ρ bad u ((enc t l[i]).getD j .undef))
def Bad (outer:Nat→Prop) (ρ:Nat→Option RI) (h:Nat→Option Row) (b:Nat):Prop:=
  outer b∨∃ r row ri,h r=some row∧row.m.isRo=false∧ρ r=some ri∧ri.nl=false∧ri.b=b
structure HRel (w0:World) (outer own:Nat→Prop) (ρ:Nat→Option RI) (h:Nat→Option Row) (w:World):Prop where
  wx:Wx w0 w
  old:∀ b,b<w0.heap.size→¬ own b→w.heap[b]?=w0.heap[b]?
  outLt:∀ b,outer b→b<w0.heap.size∧¬ own b
  rows:∀ r row,h r=some row→∃ ri,ρ r=some ri∧RowOk w ρ (Bad outer ρ h) ri row.c∧
    (ri.nl=false→(¬ outer ri.b∧(row.m.isRo=false→w0.heap.size≤ri.b∨own ri.b))∧ri.b<w.heap.size)
  inj:∀ r r' row row' ri ri',h r=some row→h r'=some row'→ρ r=some ri→ρ r'=some ri'→ri.nl=false→ri'.nl=false→ri.b=ri'.b→r=r'
structure Rel (C:Cx) (w0:World) (outer own:Nat→Prop) (ρ:Nat→Option RI) (st:St) (a:Act) (w:World):Prop where
  heap:HRel w0 outer own ρ st.h w
  slots:∀ i,VR w ρ (Bad outer ρ st.h) (a.tmps.getD i undef) (st.s i)
  size:a.tmps.size=C.nt
  defers:a.defers=[]
  glob:Glob C.g own w0
section
variable {C:Cx} {w0:World} {outer own:Nat→Prop} {ρ:Nat→Option RI} {st:St} {a:Act} {w:World} {h:Nat→Option Row}
theorem upd_same {α:Type} (f:Nat→α) (i:Nat) (v:α):upd f i v i=v:=by simp [upd]
theorem upd_other {α:Type} (f:Nat→α) (i j:Nat) (v:α) (h:j≠i):upd f i v j=f j:=by
  simp only [upd]
  have:Nat.beq j i=false:=by
    cases hb:Nat.beq j i with
    | false=>rfl
    | true=>exact absurd (Nat.eq_of_beq_eq_true hb) h
  rw [this];rfl
theorem getD_put (a:Act) (d:Nat) (v:Value) (hd:d<a.tmps.size) (i:Nat):
    (a.put (some d) v).tmps.getD i undef=if i=d then v else a.tmps.getD i undef:=by
  simp only [Act.put,Array.getD_eq_getD_getElem?,Array.getElem?_setIfInBounds]
  by_cases h:d=i
  · subst h;simp [hd]
  · simp [h,Ne.symm h]
theorem Rel.put (hr:Rel C w0 outer own ρ st a w) {dst:Option Nat} {v:Value} {d:V} (hv:VR w ρ (Bad outer ρ st.h) v d) {st':St}
    (hk:putK C dst st d some=some st'):Rel C w0 outer own ρ st' (a.put dst v) w∧st'.h=st.h∧st'.nx=st.nx:=by
  cases dst with
  | none=>simp [putK] at hk;subst hk;exact ⟨hr,rfl,rfl⟩
  | some k=>
    simp only [putK] at hk
    cases hb:Nat.blt k C.nt with
    | false=>simp [hb] at hk
    | true=>
      simp [hb] at hk;subst hk
      have hlt:k<a.tmps.size:=by rw [hr.size];simpa [Nat.blt_eq] using hb
      refine ⟨⟨hr.heap,fun i=>?_,by simp [Act.put,hr.size],hr.defers,hr.glob⟩,rfl,rfl⟩
      rw [getD_put a k v hlt i]
      show VR w ρ _ _ (upd st.s k d i)
      by_cases h:i=k
      · subst h;rw [if_pos rfl,upd_same];exact hv
      · rw [if_neg h,upd_other _ _ _ _ h];exact hr.slots i
theorem Bad.mono {h':Nat→Option Row} {b:Nat} (hs:∀ r row',h' r=some row'→row'.m.isRo=false→∃ row,h r=some row∧row.m.isRo=false)
    (hb:Bad outer ρ h' b):Bad outer ρ h b:=by
  rcases hb with hb | ⟨r,row',ri,h1,h2,h3,h4,h5⟩
  · exact .inl hb
  · obtain ⟨row,h6,h7⟩:=hs r row' h1 h2
    exact .inr ⟨r,row,ri,h6,h7,h3,h4,h5⟩
theorem RowOk.keep {w':World} {ρ':Nat→Option RI} {bad bad':Nat→Prop} {ri:RI} {c:RowC} (hr:RowOk w ρ bad ri c)
    (hw:ri.nl=false→w'.heap[ri.b]?=w.heap[ri.b]?)
    (hv:∀ u d,VR w ρ bad u d→VR w' ρ' bad' u d):RowOk w' ρ' bad' ri c:=by
  cases c with
  | box cs=>
    refine ⟨hr.1,fun j hj=>?_⟩
    obtain ⟨h1,u,h2,h3⟩:=hr.2 j hj
    have hb:=hw hr.1
    exact ⟨by rw [← h1];simp [World.frozen?,at_,hb],u,by rw [← h2];exact cell?_same hb,hv _ _ h3⟩
  | arr t l=>
    refine ⟨hr.1,?_⟩
    rcases hr.2 with h | ⟨h0,h1,h2,h3,h4⟩
    · exact .inl h
    · have hb:=hw h0
      refine .inr ⟨h0,h1,h2,fun j hj=>?_,fun i hi j hj=>?_⟩
      · have:=h3 j hj
        exact ⟨by rw [← this.1];simp [World.frozen?,at_,hb],by rw [← this.2];congr 1;exact cell?_same hb⟩
      · obtain ⟨u,h5,h6⟩:=h4 i hi j hj
        exact ⟨u,by rw [← h5];exact cell?_same hb,hv _ _ h6⟩
theorem HRel.alloc (hh:HRel w0 outer own ρ h w) (r:Nat) (hr:ρ r=none) (ri:RI) (hb:ri.nl=false→ri.b=w.heap.size) (w':World) (hwx:Wx w w')
    (hw:∀ b,b<w.heap.size→w'.heap[b]?=w.heap[b]?) (hsz:ri.nl=false→w.heap.size<w'.heap.size) (c:RowC)
    (hc:(∀ u d,VR w ρ (Bad outer ρ h) u d→VR w' (upd ρ r (some ri)) (Bad outer (upd ρ r (some ri)) (upd h r (some ⟨c, .own⟩))) u d)→
      RowOk w' (upd ρ r (some ri)) (Bad outer (upd ρ r (some ri)) (upd h r (some ⟨c, .own⟩))) ri c):
    HRel w0 outer own (upd ρ r (some ri)) (upd h r (some ⟨c, .own⟩)) w'∧
      ∀ u d,VR w ρ (Bad outer ρ h) u d→VR w' (upd ρ r (some ri)) (Bad outer (upd ρ r (some ri)) (upd h r (some ⟨c, .own⟩))) u d:=by
  have hρ:∀ q qi,ρ q=some qi→upd ρ r (some ri) q=some qi:=fun q qi hq=>by
    rw [upd_other];exact hq;rintro rfl;simp [hr] at hq
  have hh':∀ q row,h q=some row→q≠r:=fun q row hq=>by
    rintro rfl;obtain ⟨qi,h1,_⟩:=hh.rows q row hq;simp [hr] at h1
  have hbad:∀ b,Bad outer (upd ρ r (some ri)) (upd h r (some ⟨c, .own⟩)) b→Bad outer ρ h b∨w.heap.size≤b:=by
    rintro b (hb' | ⟨q,row,qi,h1,h2,h3,h4,h5⟩)
    · exact .inl (.inl hb')
    · by_cases hq:q=r
      · subst hq;rw [upd_same] at h3;cases h3
        right;rw [← h5,hb h4];exact Nat.le_refl _
      · rw [upd_other _ _ _ _ hq] at h1 h3
        exact .inl (.inr ⟨q,row,qi,h1,h2,h3,h4,h5⟩)
  have hv:∀ u d,VR w ρ (Bad outer ρ h) u d→VR w' (upd ρ r (some ri)) (Bad outer (upd ρ r (some ri)) (upd h r (some ⟨c, .own⟩))) u d:=fun u d hu=>
    hu.mono hρ (fun b _ hb=>hw b hb) hbad
  refine ⟨⟨hh.wx.trans hwx,fun b hb ho=>(hw b (Nat.lt_of_lt_of_le hb hh.wx.size)).trans (hh.old b hb ho),hh.outLt,?_,?_⟩,hv⟩
  · intro q row hq
    by_cases hqr:q=r
    · subst hqr;rw [upd_same] at hq;cases hq
      refine ⟨ri,upd_same _ _ _,hc hv,fun hn=>?_⟩
      rw [hb hn];exact ⟨⟨fun ho=>by have:=(hh.outLt _ ho).1;have:=hh.wx.size;omega,fun _=> .inl hh.wx.size⟩,hsz hn⟩
    · rw [upd_other _ _ _ _ hqr] at hq
      obtain ⟨qi,h1,h2,h3⟩:=hh.rows q row hq
      refine ⟨qi,hρ q qi h1,h2.keep (fun hn=>hw _ (h3 hn).2) hv,fun hn=>⟨(h3 hn).1,Nat.lt_of_lt_of_le (h3 hn).2 hwx.size⟩⟩
  · intro q q' row row' qi qi' h1 h2 h3 h4 h5 h6 h7
    by_cases hq:q=r <;> by_cases hq':q'=r
    · rw [hq,hq']
    · subst hq;rw [upd_same] at h3;cases h3
      rw [upd_other _ _ _ _ hq'] at h2 h4
      obtain ⟨qi'',h8,_,h9⟩:=hh.rows q' row' h2
      rw [h4] at h8;cases h8
      have:=(h9 h6).2;rw [← h7,hb h5] at this;omega
    · subst hq';rw [upd_same] at h4;cases h4
      rw [upd_other _ _ _ _ hq] at h1 h3
      obtain ⟨qi'',h8,_,h9⟩:=hh.rows q row h1
      rw [h3] at h8;cases h8
      have:=(h9 h5).2;rw [h7,hb h6] at this;omega
    · rw [upd_other _ _ _ _ hq] at h1 h3;rw [upd_other _ _ _ _ hq'] at h2 h4
      exact hh.inj q q' row row' qi qi' h1 h2 h3 h4 h5 h6 h7
theorem HRel.write (hh:HRel w0 outer own ρ h w) {r:Nat} {c:RowC} {ri:RI} (hr:h r=some ⟨c, .own⟩) (hρ:ρ r=some ri) (hn:ri.nl=false) (w':World)
    (hwx:Wx w w') (hsz:w'.heap.size=w.heap.size) (hw:∀ b,b≠ri.b→w'.heap[b]?=w.heap[b]?) (c':RowC)
    (hc:(∀ u d,VR w ρ (Bad outer ρ h) u d→VR w' ρ (Bad outer ρ (upd h r (some ⟨c', .own⟩))) u d)→RowOk w' ρ (Bad outer ρ (upd h r (some ⟨c', .own⟩))) ri c'):
    HRel w0 outer own ρ (upd h r (some ⟨c', .own⟩)) w'∧∀ u d,VR w ρ (Bad outer ρ h) u d→VR w' ρ (Bad outer ρ (upd h r (some ⟨c', .own⟩))) u d:=by
  have hbr:Bad outer ρ h ri.b:= .inr ⟨r,_,ri,hr,rfl,hρ,hn,rfl⟩
  have hbad:∀ b,Bad outer ρ (upd h r (some ⟨c', .own⟩)) b→Bad outer ρ h b:=fun b hb=>hb.mono fun q row' h1 h2=>by
    by_cases hq:q=r
    · subst hq;exact ⟨_,hr,rfl⟩
    · rw [upd_other _ _ _ _ hq] at h1;exact ⟨row',h1,h2⟩
  have hv:∀ u d,VR w ρ (Bad outer ρ h) u d→VR w' ρ (Bad outer ρ (upd h r (some ⟨c', .own⟩))) u d:=fun u d hu=>
    hu.mono (fun _ _ h=>h) (fun b hb _=>hw b fun e=>hb (e ▸ hbr)) fun b hb=> .inl (hbad b hb)
  obtain ⟨ri',h6,_,h7⟩:=hh.rows r _ hr
  rw [hρ] at h6;cases h6
  refine ⟨⟨hh.wx.trans hwx,fun b hb ho=>?_,hh.outLt,?_,?_⟩,hv⟩
  · refine (hw b ?_).trans (hh.old b hb ho)
    rintro rfl
    rcases (h7 hn).1.2 rfl with h8 | h8
    · omega
    · exact ho h8
  · intro q row hq
    by_cases hqr:q=r
    · subst hqr;rw [upd_same] at hq;cases hq
      exact ⟨ri,hρ,hc hv,fun _=>by rw [hsz];exact h7 hn⟩
    · rw [upd_other _ _ _ _ hqr] at hq
      obtain ⟨qi,h1,h2,h3⟩:=hh.rows q row hq
      refine ⟨qi,h1,h2.keep (fun hnq=>hw _ ?_) hv,fun hnq=>by rw [hsz];exact h3 hnq⟩
      intro e;exact hqr (hh.inj q r row _ qi ri hq hr h1 hρ hnq hn e)
  · intro q q' row row' qi qi' h1 h2 h3 h4 h5 h6 h7
    have:∀ x y,upd h r (some ⟨c', .own⟩) x=some y→∃ z,h x=some z:=fun x y hx=>by
      by_cases hq:x=r
      · subst hq;exact ⟨_,hr⟩
      · rw [upd_other _ _ _ _ hq] at hx;exact ⟨_,hx⟩
    obtain ⟨z,hz⟩:=this _ _ h1;obtain ⟨z',hz'⟩:=this _ _ h2
    exact hh.inj q q' z z' qi qi' hz hz' h3 h4 h5 h6 h7
theorem HRel.less (hh:HRel w0 outer own ρ h w) {h':Nat→Option Row} (hs:∀ r row',h' r=some row'→∃ row,h r=some row∧row.c=row'.c∧(row'.m.isRo=false→row.m.isRo=false)):
    HRel w0 outer own ρ h' w∧∀ u d,VR w ρ (Bad outer ρ h) u d→VR w ρ (Bad outer ρ h') u d:=by
  have hbad:∀ b,Bad outer ρ h' b→Bad outer ρ h b:=fun b hb=>hb.mono fun q row' h1 h2=>by
    obtain ⟨row,h3,_,h4⟩:=hs q row' h1;exact ⟨row,h3,h4 h2⟩
  have hv:∀ u d,VR w ρ (Bad outer ρ h) u d→VR w ρ (Bad outer ρ h') u d:=fun u d hu=>hu.mono (fun _ _ h=>h) (fun _ _ _=>rfl) fun b hb=> .inl (hbad b hb)
  refine ⟨⟨hh.wx,hh.old,hh.outLt,fun r row' hr=>?_,fun q q' row row' qi qi' h1 h2 h3 h4 h5 h6 h7=>?_⟩,hv⟩
  · obtain ⟨row,h1,h2,h6⟩:=hs r row' hr
    obtain ⟨ri,h3,h4,h5⟩:=hh.rows r row h1
    exact ⟨ri,h3,by rw [← h2];exact h4.keep (fun _=>rfl) hv,fun hn=>⟨⟨(h5 hn).1.1,fun hm=>(h5 hn).1.2 (h6 hm)⟩,(h5 hn).2⟩⟩
  · obtain ⟨z,hz,_⟩:=hs _ _ h1;obtain ⟨z',hz',_⟩:=hs _ _ h2
    exact hh.inj q q' z z' qi qi' hz hz' h3 h4 h5 h6 h7
theorem HRel.world (hh:HRel w0 outer own ρ h w) {w':World} (hwx:Wx w w') (hheap:w'.heap=w.heap):
    HRel w0 outer own ρ h w'∧∀ u d,VR w ρ (Bad outer ρ h) u d→VR w' ρ (Bad outer ρ h) u d:=by
  have hv:∀ u d,VR w ρ (Bad outer ρ h) u d→VR w' ρ (Bad outer ρ h) u d:=fun u d hu=>hu.mono (fun _ _ h=>h) (fun _ _ _=>by rw [hheap]) fun b hb=> .inl hb
  refine ⟨⟨hh.wx.trans hwx,fun b hb ho=>by rw [hheap];exact hh.old b hb ho,hh.outLt,fun r row hr=>?_,hh.inj⟩,hv⟩
  obtain ⟨ri,h1,h2,h3⟩:=hh.rows r row hr
  exact ⟨ri,h1,h2.keep (fun _=>by rw [hheap]) hv,fun hn=>by rw [hheap];exact h3 hn⟩
end
end Go.D
namespace Go.D
section
variable {C:Cx} {w0:World} {outer own:Nat→Prop} {ρ:Nat→Option RI} {st:St} {a:Act} {w:World} {h:Nat→Option Row}
theorem markRo_get:∀ (ids:List Nat) (h:Nat→Option Row) (r:Nat),
    markRo h ids r=if r ∈ ids then (h r).map (fun row=> { row with m:= .ro }) else h r
  | [],h,r=>by simp [markRo]
  | q :: qs,h,r=>by
    rw [markRo,markRo_get qs]
    by_cases hq:r=q
    · subst hq
      rw [upd_same]
      by_cases hm:r ∈ qs
      · simp only [hm,if_true,List.mem_cons,or_true,if_true];cases h r <;> rfl
      · simp [hm]
    · rw [upd_other _ _ _ _ hq]
      simp [hq]
theorem markRo_less (h:Nat→Option Row) (ids:List Nat):∀ r row',markRo h ids r=some row'→∃ row,h r=some row∧row.c=row'.c∧(row'.m.isRo=false→row.m.isRo=false):=by
  intro r row' hr
  rw [markRo_get] at hr
  by_cases hm:r ∈ ids
  · simp only [hm,if_true,Option.map_eq_some_iff] at hr
    obtain ⟨row,h1,rfl⟩:=hr
    exact ⟨row,h1,rfl,by simp [Mode.isRo]⟩
  · simp only [hm,if_false] at hr;exact ⟨row',hr,rfl,id⟩
theorem HRel.mark (hh:HRel w0 outer own ρ h w) (ids:List Nat):HRel w0 outer own ρ (markRo h ids) w∧
    ∀ u d,VR w ρ (Bad outer ρ h) u d→VR w ρ (Bad outer ρ (markRo h ids)) u d:=hh.less (markRo_less h ids)
theorem bad_mark_mono {i j:List Nat} (hs:∀ r ∈ i,r ∈ j) {b:Nat} (hb:Bad outer ρ (markRo h j) b):Bad outer ρ (markRo h i) b:=
  hb.mono fun r row' h1 h2=>by
    rw [markRo_get] at h1
    by_cases hm:r ∈ j
    · simp only [hm,if_true,Option.map_eq_some_iff] at h1
      obtain ⟨row,_,rfl⟩:=h1
      simp [Mode.isRo] at h2
    · simp only [hm,if_false] at h1
      exact ⟨row',by rw [markRo_get,if_neg (fun h=>hm (hs r h))];exact h1,h2⟩
theorem vr_mark_mono {i j:List Nat} (hs:∀ r ∈ i,r ∈ j) {u:Value} {d:V} (hv:VR w ρ (Bad outer ρ (markRo h i)) u d):VR w ρ (Bad outer ρ (markRo h j)) u d:=
  hv.mono (fun _ _ h=>h) (fun _ _ _=>rfl) fun _ hb=> .inl (bad_mark_mono hs hb)
theorem not_bad_mark (hh:HRel w0 outer own ρ h w) {r:Nat} {row:Row} {ri:RI} (hr:h r=some row) (hρ:ρ r=some ri) (hn:ri.nl=false)
    {ids:List Nat} (hm:r ∈ ids):¬ Bad outer ρ (markRo h ids) ri.b:=by
  obtain ⟨ri',h1,_,h2⟩:=hh.rows r row hr
  rw [hρ] at h1;cases h1
  rintro (hb | ⟨q,row',qi,h3,h4,h5,h6,h7⟩)
  · exact (h2 hn).1.1 hb
  · rw [markRo_get] at h3
    by_cases hq:q ∈ ids
    · simp only [hq,if_true,Option.map_eq_some_iff] at h3
      obtain ⟨_,_,rfl⟩:=h3;simp [Mode.isRo] at h4
    · simp only [hq,if_false] at h3
      exact hq (by rw [hh.inj q r row' row qi ri h3 hr h5 hρ h6 hn h7];exact hm)
def NoRef (d:V):Prop:=∀ S:Nat→Prop,RIn S d
theorem noRef_sl (t:TN) (l:List (El t)):NoRef (.sl t l):=fun S=> .sl t l fun i _ j _=>rin_enc S t _ j
theorem enc_getD_leaf (t:TN) (x:El t) (j:Nat) (hj:j<sz t):((enc t x).getD j .undef).leaf=true:=by
  have h1:=enc_leaf t x
  have h2:j<(enc t x).length:=by rw [enc_length];exact hj
  rw [List.getD_eq_getElem?_getD,List.getElem?_eq_getElem h2,Option.getD_some]
  exact List.all_eq_true.1 h1 _ (List.getElem_mem h2)
theorem arr_sl {bad:Nat→Prop} {ri:RI} {t:TN} {l:List (El t)} (hr:RowOk w ρ bad ri (.arr t l)) (hn:ri.nl=false) (hb:¬ bad ri.b)
    (off len cap:Nat) (hlen:off+len≤l.length) (hcap:len≤cap) (hmax:cap≤maxLen):
    VR w ρ bad (.slice (some (at_ ri.b (off *sz t))) len cap) (.sl t ((l.drop off).take len)):=by
  rcases hr.2 with h | ⟨h0,h1,h2,h3,h4⟩
  · rw [hn] at h;cases h.1
  have hl:((l.drop off).take len).length=len:=by simp;omega
  have:=VR.slC (w:=w) (ρ:=ρ) (bad:=bad) t ((l.drop off).take len) ri.b (off *sz t) cap (fun i j=>(w.cell? (at_ ri.b (off *sz t+i *sz t+j))).getD undef) hb (by omega) hmax
    (fun i hi j hj=>by
      obtain ⟨u,h5,h6⟩:=h4 (off+i) (by omega) j hj
      rw [Nat.add_mul] at h5;rw [h5];rfl)
    (fun i hi j hj=>by
      obtain ⟨u,h5,h6⟩:=h4 (off+i) (by omega) j hj
      rw [Nat.add_mul] at h5;rw [h5,Option.getD_some]
      have:((l.drop off).take len)[i]=l[off+i]'(by omega):=by simp
      rw [this];exact h6)
  rw [hl] at this;exact this
theorem cast_rfl {t:TN} (e:t=t) (l:List (El t)):TN.cast e l=l:=by cases e;rfl
theorem noRefN_ok:∀ (n:Nat) (d:V),noRefN n d=true→NoRef d∧d.leaf=true
  | 0,d,h=>by simp [noRefN] at h
  | n+1,d,h=>by
    cases d <;> simp only [noRefN,List.all_eq_true] at h <;> try (cases h;done)
    · exact ⟨fun _=> .bool _,rfl⟩
    · exact ⟨fun _=> .int _ _,rfl⟩
    · exact ⟨fun _=> .str _,rfl⟩
    · exact ⟨fun _=> .nil,rfl⟩
    · exact ⟨noRef_sl _ _,rfl⟩
    · exact ⟨fun S=> .fp _ _ fun j hj=>(noRefN_ok n _ (h _ (List.getElem_mem hj))).1 S,rfl⟩
    · exact ⟨fun S=> .fn _ _ fun j hj=>(noRefN_ok n _ (h _ (List.getElem_mem hj))).1 S,rfl⟩
    · exact ⟨fun _=> .nili,rfl⟩
    · exact ⟨fun _=> .ifc _,rfl⟩
theorem frzLeaf_ok (hh:HRel w0 outer own ρ h w) {v:Value} {d d':V} {ids:List Nat} (hv:VR w ρ (Bad outer ρ h) v d) (hf:frzLeaf h d=some (d',ids)):
    VR w ρ (Bad outer ρ (markRo h ids)) v d'∧NoRef d'∧d'.leaf=true:=by
  unfold frzLeaf at hf
  split at hf
  · rename_i r
    split at hf
    · rename_i t l m hr
      cases hlk:m.isLock <;> simp [hlk] at hf
      obtain ⟨rfl,rfl⟩:=hf
      refine ⟨?_,noRef_sl _ _,rfl⟩
      obtain ⟨hh',hmv⟩:=hh.mark [r]
      obtain ⟨ri,hρ,hro,hri⟩:=hh.rows r _ hr
      have hro':=hro.keep (fun _=>rfl) hmv
      cases hv with
      | ow _ ri' h1 h2 h3 h4=>
        rw [hρ] at h1;cases h1
        have:=arr_sl hro' h4 (not_bad_mark hh hr hρ h4 (by simp)) 0 ri.n ri.cap (by have:=hro.1;omega) h2 h3
        have hln:l.length=ri.n:=hro.1.symm
        rw [Nat.zero_mul,List.drop_zero, ← hln,List.take_length,hln] at this
        exact this
      | owN _ ri' ao h1 h2 h3=>
        rw [hρ] at h1;cases h1
        rcases hro.2 with h | ⟨h,_⟩
        · rw [h.2];exact .slE _ _ _ (Nat.zero_le _)
        · rw [h3] at h;cases h
    · cases hf
  · rename_i r t off len
    split at hf
    · rename_i t' l m hr
      cases hlk:m.isLock
      case true=>simp [hlk] at hf
      simp only [hlk,cond_false] at hf
      split at hf
      case isFalse=>cases hf
      rename_i e;subst e
      simp only [cast_rfl,Option.some.injEq,Prod.mk.injEq] at hf
      obtain ⟨rfl,rfl⟩:=hf
      refine ⟨?_,noRef_sl _ _,rfl⟩
      obtain ⟨hh',hmv⟩:=hh.mark [r]
      obtain ⟨ri,hρ,hro,hri⟩:=hh.rows r _ hr
      have hro':=hro.keep (fun _=>rfl) hmv
      cases hv with
      | ov _ _ _ _ cap ao ri' h1 hof ha hl hc=>
        rw [hρ] at h1;cases h1
        have hn:=hro.1
        rcases ha with ⟨rfl,_⟩ | ⟨rfl,hnl,_⟩
        · rw [List.take_zero];exact .slE _ _ _ hc
        · exact arr_sl hro' hnl (not_bad_mark hh hr hρ hnl (by simp)) off len cap (by omega) hl hc
    · cases hf
  · cases hb:noRefN 8 d <;> simp [hb] at hf
    obtain ⟨rfl,rfl⟩:=hf
    exact ⟨hv,noRefN_ok 8 _ hb⟩
theorem frzList_ok (hh:HRel w0 outer own ρ h w):∀ {ds ds':List V} {ids:List Nat} {vs:Nat→Value} (_:∀ j (hj:j<ds.length),VR w ρ (Bad outer ρ h) (vs j) ds[j])
    (_:frzList h ds=some (ds',ids)),ds'.length=ds.length∧∀ j (hj:j<ds'.length),VR w ρ (Bad outer ρ (markRo h ids)) (vs j) ds'[j]∧NoRef ds'[j]∧(ds'[j]).leaf=true
  | [],ds',ids,vs,_,hf=>by
    simp [frzList] at hf;obtain ⟨rfl,rfl⟩:=hf;exact ⟨rfl,fun j hj=>by simp at hj⟩
  | d :: ds,ds',ids,vs,hv,hf=>by
    simp only [frzList] at hf
    split at hf
    · cases hf
    · rename_i d' i h1
      split at hf
      · cases hf
      · rename_i ds'' j h2
        simp only [Option.some.injEq,Prod.mk.injEq] at hf
        obtain ⟨rfl,rfl⟩:=hf
        have h3:=frzLeaf_ok hh (hv 0 (by simp)) h1
        have h4:=frzList_ok hh (vs:=fun j=>vs (j+1)) (fun j hj=>hv (j+1) (by simp;omega)) h2
        refine ⟨by simp [h4.1],fun k hk=>?_⟩
        cases k with
        | zero=>exact ⟨vr_mark_mono (fun r hr=>by simp [hr]) h3.1,h3.2⟩
        | succ k=>
          have:=h4.2 k (by simpa using hk)
          exact ⟨vr_mark_mono (fun r hr=>by simp [hr]) this.1,this.2⟩
theorem noRef_agg {cs:List V} (h:∀ j (hj:j<cs.length),NoRef cs[j]):NoRef (.agg cs):=fun S=> .agg _ fun j hj=>h j hj S
theorem frz_ok (hh:HRel w0 outer own ρ h w) {v:Value} {d d':V} {ids:List Nat} (hv:VR w ρ (Bad outer ρ h) v d) (hf:frz h d=some (d',ids)):
    VR w ρ (Bad outer ρ (markRo h ids)) v d'∧NoRef d':=by
  unfold frz at hf
  split at hf
  · rename_i cs
    split at hf
    · rename_i cs' i h1
      simp only [Option.some.injEq,Prod.mk.injEq] at hf
      obtain ⟨rfl,rfl⟩:=hf
      cases hv with
      | agg _ vs hs hv=>
        have:=frzList_ok hh (vs:=fun j=>vs.getD j undef) hv h1
        exact ⟨.agg _ _ (by rw [hs,this.1]) fun j hj=>(this.2 j hj).1,noRef_agg fun j hj=>(this.2 j hj).2.1⟩
    · cases hf
  · rename_i r off
    split at hf
    · rename_i cs m hr
      cases hb:(m.isLock||cs.isEmpty)
      case true=>simp [hb] at hf
      simp only [hb,cond_false] at hf
      split at hf
      · rename_i cs' i h1
        simp only [Option.some.injEq,Prod.mk.injEq] at hf
        obtain ⟨rfl,rfl⟩:=hf
        obtain ⟨ri,hρ,hro,hri⟩:=hh.rows r _ hr
        cases hv with
        | bp _ _ ri' h2 hn=>
          rw [hρ] at h2;cases h2
          have hcell:∀ j,j<cs.length→w.cell? (at_ ri.b (0+j))=some ((w.cell? (at_ ri.b (0+j))).getD undef):=fun j hj=>by
            obtain ⟨_,u,h3,_⟩:=hro.2 j hj
            rw [Nat.zero_add,h3];rfl
          have h4:=frzList_ok hh (vs:=fun j=>(w.cell? (at_ ri.b (0+j))).getD undef) (fun j hj=>by
            obtain ⟨_,u,h3,h5⟩:=hro.2 j hj
            rw [Nat.zero_add,h3];exact h5) h1
          have hpos:0<cs.length:=by
            cases cs with
            | nil=>simp at hb
            | cons=>simp
          have:=VR.fp (w:=w) (ρ:=ρ) (bad:=Bad outer ρ (markRo h (r :: i))) cs' off ri.b 0 (fun j=>(w.cell? (at_ ri.b (0+j))).getD undef) (by omega)
            (not_bad_mark hh hr hρ hn (by simp)) (fun j hj=>hcell j (by omega)) (fun j hj=>vr_mark_mono (fun q hq=>by simp [hq]) (h4.2 j hj).1)
          rw [Nat.zero_add] at this
          exact ⟨this,fun S=> .fp _ _ fun j hj=>(h4.2 j hj).2.1 S⟩
      · cases hf
    · cases hf
  · have:=frzLeaf_ok hh hv hf
    exact ⟨this.1,this.2.1⟩
theorem frzArgs_ok (hh:HRel w0 outer own ρ h w):∀ {ds ds':List V} {ids:List Nat} {vs:Nat→Value} (_:∀ j (hj:j<ds.length),VR w ρ (Bad outer ρ h) (vs j) ds[j])
    (_:frzArgs h ds=some (ds',ids)),ds'.length=ds.length∧∀ j (hj:j<ds'.length),VR w ρ (Bad outer ρ (markRo h ids)) (vs j) ds'[j]∧NoRef ds'[j]
  | [],ds',ids,vs,_,hf=>by
    simp [frzArgs] at hf;obtain ⟨rfl,rfl⟩:=hf;exact ⟨rfl,fun j hj=>by simp at hj⟩
  | d :: ds,ds',ids,vs,hv,hf=>by
    simp only [frzArgs] at hf
    split at hf
    · cases hf
    · rename_i d' i h1
      split at hf
      · cases hf
      · rename_i ds'' j h2
        simp only [Option.some.injEq,Prod.mk.injEq] at hf
        obtain ⟨rfl,rfl⟩:=hf
        have h3:=frz_ok hh (hv 0 (by simp)) h1
        have h4:=frzArgs_ok hh (vs:=fun j=>vs (j+1)) (fun j hj=>hv (j+1) (by simp;omega)) h2
        refine ⟨by simp [h4.1],fun k hk=>?_⟩
        cases k with
        | zero=>exact ⟨vr_mark_mono (fun r hr=>by simp [hr]) h3.1,h3.2⟩
        | succ k=>
          have:=h4.2 k (by simpa using hk)
          exact ⟨vr_mark_mono (fun r hr=>by simp [hr]) this.1,this.2⟩
theorem VR.noRef {bad:Nat→Prop} {u:Value} {d:V} (hv:VR w ρ bad u d) (hd:NoRef d) (ρ':Nat→Option RI):VR w ρ' bad u d:=
  hv.keep (S:=fun _=>False) (hd _) (fun _ _ h=>h.elim) (fun _ _ _=>rfl) fun _ h=> .inl h
end
end Go.D
namespace Go.D
section
variable {C:Cx} {w0:World} {outer own:Nat→Prop} {ρ:Nat→Option RI} {st st':St} {a:Act} {w:World} {h:Nat→Option Row}
theorem litV_ok {bad:Nat→Prop} (v:Value):VR w ρ bad v (litV v):=by
  unfold litV
  split
  · exact .bool _
  · rename_i k n
    cases hb:(decide (k.min≤n)&&decide (n≤k.max))
    · exact .undef _
    · simp at hb;exact .int _ _ hb
  · rename_i s
    cases hb:Nat.ble s.data.toList.length 1000000
    · exact .undef _
    · have:=Nat.le_of_ble_eq_true hb
      have h2:(⟨s.data.toList.toArray⟩:ByteArray)=s:=by cases s;simp
      have h3:=VR.str (w:=w) (ρ:=ρ) (bad:=bad) s.data.toList (by unfold maxLen;omega)
      rw [h2] at h3;exact h3
  · exact .nil
  · exact .nili
  · exact .undef _
theorem Rel.opd (hr:Rel C w0 outer own ρ st a w) (x:Operand):VR w ρ (Bad outer ρ st.h) (a.eval x) (opd st.s x):=by
  cases x with
  | tmp t=>exact hr.slots t
  | const v=>exact litV_ok v
  | global g=>exact .undef _
  | func f=>exact .fn f [] #[] rfl fun j hj=>by simp at hj
def Does (P:Program) (o:Oper) (a:Act) (w:World) (post:Act→World→Prop):Prop:=
  ∀ next Q,(∀ a' w',post a' w'→next a' w')→o.wp P a w next Q
theorem does_value {P:Program} {o:Oper} {v:Value} {w':World} {post:Act→World→Prop} (hrun:(execOp a.eval o).run P w= .ok (.value v) w')
    (hp:post (a.put o.dst v) w'):Does P o a w post:=fun next Q hn=>by
  unfold Oper.wp;rw [hrun,Oper.upon_value];exact hn _ _ hp
theorem does_skip {P:Program} {o:Oper} {w':World} {post:Act→World→Prop} (hrun:(execOp a.eval o).run P w= .ok .skip w')
    (hp:post (a.put o.dst undef) w'):Does P o a w post:=fun next Q hn=>by
  unfold Oper.wp;rw [hrun,Oper.upon_skip];exact hn _ _ hp
def Ext (i:Nat) (ρ ρ':Nat→Option RI):Prop:=∀ r,¬ (i≤r∧r<i+128)→ρ' r=ρ r
def After (C:Cx) (w0:World) (outer own:Nat→Prop) (i:Nat) (ρ:Nat→Option RI) (st':St) (a':Act) (w':World):Prop:=
  ∃ ρ',Rel C w0 outer own ρ' st' a' w'∧Ext i ρ ρ'∧∀ r ri,ρ r=some ri→ρ' r=some ri
theorem Rel.after (hr:Rel C w0 outer own ρ st a w) {i:Nat} {dst:Option Nat} {v:Value} {d:V} (hv:VR w ρ (Bad outer ρ st.h) v d)
    (hk:putK C dst st d some=some st'):After C w0 outer own i ρ st' (a.put dst v) w:=
  ⟨ρ,(hr.put hv hk).1,fun _ _=>rfl,fun _ _ h=>h⟩
theorem Rel.turn (hr:Rel C w0 outer own ρ st a w) {ρ':Nat→Option RI} {h':Nat→Option Row} {w':World} (hh:HRel w0 outer own ρ' h' w')
    (hv:∀ u d,VR w ρ (Bad outer ρ st.h) u d→VR w' ρ' (Bad outer ρ' h') u d):Rel C w0 outer own ρ' { st with h:=h' } a w':=
  ⟨hh,fun i=>hv _ _ (hr.slots i),hr.size,hr.defers,hr.glob⟩
theorem wx_alloc (w:World) (o:Obj):Wx w (w.alloc o):=⟨rfl,rfl,rfl,by simp⟩
theorem wx_drew (w:World):Wx w w.drew:=⟨rfl,rfl,rfl,Nat.le_refl _⟩
theorem heap_alloc_lt (w:World) (o:Obj) (b:Nat) (hb:b<w.heap.size):(w.alloc o).heap[b]?=w.heap[b]?:=by
  show (w.heap.push o)[b]?=_
  rw [Array.getElem?_push,if_neg (by omega)]
theorem Rel.newRow (hr:Rel C w0 outer own ρ st a w) {i:Nat} (hi:ρ i=none) (ri:RI) (hb:ri.nl=false→ri.b=w.heap.size) (w':World) (hwx:Wx w w')
    (hw:∀ b,b<w.heap.size→w'.heap[b]?=w.heap[b]?) (hsz:ri.nl=false→w.heap.size<w'.heap.size) {c:RowC} {dst:Option Nat} {v:Value} {d:V}
    (hc:∀ bad,(∀ u d,VR w ρ (Bad outer ρ st.h) u d→VR w' (upd ρ i (some ri)) bad u d)→RowOk w' (upd ρ i (some ri)) bad ri c)
    (hv:∀ bad,VR w' (upd ρ i (some ri)) bad v d) (hk:newK C dst st i c d some=some st'):After C w0 outer own i ρ st' (a.put dst v) w':=by
  obtain ⟨h1,h2⟩:=hr.heap.alloc i hi ri hb w' hwx hw hsz c (hc _)
  refine ⟨_,((hr.turn h1 h2).put (hv _) hk).1,fun r hn=>upd_other _ _ _ _ ?_,fun r qi hq=>?_⟩
  · rintro rfl;exact hn ⟨Nat.le_refl _,by omega⟩
  · rw [upd_other];exact hq;rintro rfl;simp [hi] at hq
theorem vr_cells {bad:Nat→Prop} {v:Value} {d:V} (hv:VR w ρ bad v d) (hl:leafs (cellsOf d)=true):
    v.cells.size=(cellsOf d).length∧(∀ j (hj:j<(cellsOf d).length),VR w ρ bad (v.cells.getD j undef) (cellsOf d)[j])∧∀ u ∈ v.cells.toList,u.oneCell'=true:=by
  by_cases ha:∃ cs,d= .agg cs
  · obtain ⟨cs,rfl⟩:=ha
    cases hv with
    | agg _ vs hs hv=>
      refine ⟨hs,hv,fun u hu=>?_⟩
      obtain ⟨j,hj,rfl⟩:=List.mem_iff_getElem.1 hu
      have hj':j<vs.size:=by simpa [Value.cells] using hj
      have h1:=hv j (by omega)
      simp only [cellsOf] at hl
      have h2:=List.all_eq_true.1 hl cs[j] (List.getElem_mem (by omega))
      have h3:=h1.one h2
      rw [Array.getD_eq_getD_getElem?,Array.getElem?_eq_getElem hj'] at h3
      simpa [Value.cells] using h3
  · have hc:cellsOf d=[d]:=by cases d <;> first | rfl | exact absurd ⟨_,rfl⟩ ha
    rw [hc] at hl ⊢
    have hd:d.leaf=true:=by simpa [leafs] using hl
    have h1:=hv.one hd
    have hcv:v.cells= #[v]:=by cases v <;> first | rfl | (simp [Value.oneCell'] at h1)
    rw [hcv]
    refine ⟨rfl,fun j hj=>?_,fun u hu=>?_⟩
    · simp at hj;subst hj;exact hv
    · simp at hu;subst hu;exact h1
theorem cell?_new (w:World) (c:Array Value) (e:TypeId) (j:Nat) (hj:j<c.size):(w.alloc (.cells c e)).cell? (at_ w.heap.size j)=some (c.getD j undef):=by
  rw [at_,World.cell?_alloc_new,Array.getD_eq_getD_getElem?,Array.getElem?_eq_getElem hj];rfl
theorem box_new {bad bad':Nat→Prop} {ρ':Nat→Option RI} {c:Array Value} {e:TypeId} {cs:List V} {ri:RI} (hn:ri.nl=false) (hb:ri.b=w.heap.size) (hs:c.size=cs.length)
    (hv:∀ j (hj:j<cs.length),VR w ρ bad (c.getD j undef) cs[j]) (hk:∀ u d,VR w ρ bad u d→VR (w.alloc (.cells c e)) ρ' bad' u d):
    RowOk (w.alloc (.cells c e)) ρ' bad' ri (.box cs):=by
  refine ⟨hn,fun j hj=>?_⟩
  rw [hb]
  exact ⟨World.frozen?_alloc_new _ _ _ _,_,cell?_new w c e j (by omega),hk _ _ (hv j hj)⟩
theorem newBox (hr:Rel C w0 outer own ρ st a w) {i:Nat} (hi:ρ i=none) {v:Value} {e:TypeId} {cs:List V} (hs:v.cells.size=cs.length)
    (hv:∀ j (hj:j<cs.length),VR w ρ (Bad outer ρ st.h) (v.cells.getD j undef) cs[j]) {dst:Option Nat} (hk:newK C dst st i (.box cs) (.bp i 0) some=some st'):
    After C w0 outer own i ρ st' (a.put dst (.pointer (some ⟨w.heap.size,0,none⟩))) (w.alloc (.cells v.cells e)):=
  hr.newRow hi ⟨w.heap.size,0,0,false⟩ (fun _=>rfl) _ (wx_alloc _ _) (fun b hb=>heap_alloc_lt _ _ _ hb) (fun _=>by simp)
    (fun bad hk'=>box_new rfl rfl hs hv hk') (fun bad=> .bp i 0 ⟨w.heap.size,0,0,false⟩ (upd_same _ _ _) rfl) hk
variable {o:Oper} {i:Nat} (hr:Rel C w0 outer own ρ st a w)
include hr
theorem ok_move (x:Operand) (ho:o.op= .move x∨o.op= .assign x) (hk:putK C o.dst st (opd st.s x) some=some st'):
    Does C.P o a w (After C w0 outer own i ρ st'):=
  does_value (v:=a.eval x) (w':=w) (by rcases ho with ho | ho <;> simp [execOp,ho]) (hr.after (hr.opd x) hk)
theorem ok_pick (c x y:Operand) (ho:o.op= .pick c x y) (t p q:Bool) (hc:opd st.s c= .bool t) (hx:opd st.s x= .bool p) (hy:opd st.s y= .bool q)
    (hk:putK C o.dst st (.bool (cond t p q)) some=some st'):Does C.P o a w (After C w0 outer own i ρ st'):=by
  have h1:=hr.opd c;rw [hc] at h1
  have h2:=hr.opd x;rw [hx] at h2
  have h3:=hr.opd y;rw [hy] at h3
  generalize hec:a.eval c=vc at h1
  generalize hex:a.eval x=vx at h2
  generalize hey:a.eval y=vy at h3
  cases h1;cases h2;cases h3
  refine does_value (v:= .bool (cond t p q)) (w':=w) ?_ (hr.after (.bool _) hk)
  simp [execOp,ho,hec,hex,hey,asBool]
theorem ok_alloc (e:TypeId) (ho:o.op= .alloc e) (hi:ρ i=none) (cs:List V) (hz:zeroAny C.P e=some cs) (hk:newK C o.dst st i (.box cs) (.bp i 0) some=some st'):
    Does C.P o a w (After C w0 outer own i ρ st'):=by
  unfold zeroAny at hz
  cases hz':(C.P.info? e).bind (·.zero) with
  | none=>rw [hz'] at hz;cases hz
  | some z=>
    rw [hz'] at hz
    simp only [Option.map_some,Option.some.injEq] at hz
    subst hz
    obtain ⟨info,hi1,hi2⟩:=Option.bind_eq_some_iff.1 hz'
    refine does_value (w':=w.alloc (.cells z.cells e)) ?_ (newBox hr hi (v:=z) (e:=e) (by simp) (fun j hj=>?_) hk)
    · simp [execOp,ho,Instr.alloc,zeroValue,typeInfo,hi1,hi2,newVar,newRow]
    · rw [List.getElem_map]
      have hj':j<z.cells.size:=by simpa using hj
      rw [Array.getD_eq_getD_getElem?,Array.getElem?_eq_getElem hj']
      exact litV_ok _
theorem ok_box (e:TypeId) (x:Operand) (ho:o.op= .box e x) (hi:ρ i=none) (hl:leafs (cellsOf (opd st.s x))=true)
    (hk:newK C o.dst st i (.box (cellsOf (opd st.s x))) (.bp i 0) some=some st'):Does C.P o a w (After C w0 outer own i ρ st'):=by
  obtain ⟨h1,h2,h3⟩:=vr_cells (hr.opd x) hl
  refine does_value (w':=w.alloc (.cells (a.eval x).cells e)) ?_ (newBox hr hi (v:=a.eval x) (e:=e) h1 h2 hk)
  simp [execOp,ho,Instr.box,newVar,newRow]
omit hr
def CellsAt (w:World) (ρ:Nat→Option RI) (bad:Nat→Prop) (b o:Nat) (cs:List V):Prop:=
  ∀ j (hj:j<cs.length),∃ u,w.cell? (at_ b (o+j))=some u∧VR w ρ bad u cs[j]
theorem add_at (b o n:Nat):(at_ b o).add n=at_ b (o+n):=Addr.add_lit b o n
theorem run_underlyingC {P:Program} {t:TypeId} {d:TypeDesc} (h:P.underlying t=some d):(underlying t).run P w= .ok d w:=by
  simp [underlying,h]
theorem isAgg_run {P:Program} {t:TypeId} {ag:Bool} (h:isAggT P t=some ag):(isAgg t).run P w= .ok ag w:=by
  unfold isAggT at h
  unfold isAgg
  split at h
  · rename_i hu;cases h;simp [underlying,hu]
  · rename_i hu;cases h;simp [underlying,hu]
  · rename_i d h1 h2 hu
    cases h
    rw [Sem.run_bind,run_underlyingC hu,Result.andThen_ok]
    cases d <;> first | rfl | (exfalso;exact h1 _ rfl) | (exfalso;exact h2 _ _ rfl)
  · cases h
theorem size_run {P:Program} {t:TypeId} {n:Nat} (h:sizeT P t=some n):(sizeOf t).run P w= .ok n w:=by
  unfold sizeT at h
  obtain ⟨i,h1,h2⟩:=Option.map_eq_some_iff.1 h
  simp [sizeOf,typeInfo,h1,h2]
theorem load_ok {P:Program} {bad:Nat→Prop} {t:TypeId} {ag:Bool} {n b o off:Nat} {cs:List V} {R:Type} {K:V→Option R} {r:R} (h1:isAggT P t=some ag) (h2:sizeT P t=some n)
    (hc:CellsAt w ρ bad b o cs) (hk:loadCells ag n cs off K=some r):
    ∃ d v,K d=some r∧VR w ρ bad v d∧(loadVar t (at_ b (o+off))).run P w= .ok v w:=by
  unfold loadCells at hk
  cases ag with
  | true=>
    simp only [gd_true] at hk
    cases hb:Nat.ble (off+n) cs.length
    case false=>simp [hb] at hk
    simp only [hb,gd_true] at hk
    have hle:=Nat.le_of_ble_eq_true hb
    have hcell:∀ j,j<n→w.cell? ((at_ b (o+off)).add j)=some ((w.cell? (at_ b (o+off+j))).getD undef):=fun j hj=>by
      obtain ⟨u,h3,_⟩:=hc (off+j) (by omega)
      rw [add_at,show o+off+j=o+(off+j) by omega,h3];rfl
    refine ⟨_, .agg ((List.range n).map fun j=>(w.cell? (at_ b (o+off+j))).getD undef).toArray,hk,?_,?_⟩
    · refine .agg _ _ (by simp;omega) fun j hj=>?_
      have hjn:j<n:=by simp at hj;omega
      obtain ⟨u,h3,h4⟩:=hc (off+j) (by omega)
      have he:((cs.drop off).take n)[j]=cs[off+j]'(by omega):=by simp
      rw [he]
      have hg:(((List.range n).map fun j=>(w.cell? (at_ b (o+off+j))).getD undef).toArray.getD j undef)=u:=by
        simp [hjn,show o+off+j=o+(off+j) by omega,h3]
      rw [hg];exact h4
    · simp only [loadVar,Sem.run_bind,isAgg_run h1,Result.andThen_ok,Sem.run_ite,if_true,size_run h2,run_loadCells w _ n _ hcell,Sem.run_pure]
  | false=>
    simp only [gd_false] at hk
    split at hk
    · rename_i c r' hd
      have hlt:off<cs.length:=by
        rcases Nat.lt_or_ge off cs.length with h | h
        · exact h
        · rw [List.drop_eq_nil_of_le h] at hd;cases hd
      have hce:cs[off]=c:=by
        rw [List.drop_eq_getElem_cons hlt] at hd;exact (List.cons.inj hd).1
      obtain ⟨u,h3,h4⟩:=hc off hlt
      refine ⟨c,u,hk,by rw [← hce];exact h4,?_⟩
      simp only [loadVar,Sem.run_bind,isAgg_run h1,Result.andThen_ok,Sem.run_ite,Bool.false_eq_true,if_false,run_load,h3]
    · cases hk
theorem heap_setCell (w:World) (x:Addr) (u:Value) (b:Nat) (h:b≠x.block):(w.setCell x u).heap[b]?=w.heap[b]?:=by
  simp only [World.setCell,Array.getElem?_modify]
  rw [if_neg (by omega)]
theorem heap_setCells:∀ (vs:List Value) (o:Nat) (w:World) (b b':Nat),b'≠b→(w.setCells b o vs).heap[b']?=w.heap[b']?
  | [],_,_,_,_,_=>rfl
  | v :: vs,o,w,b,b',h=>by
    rw [World.setCells,heap_setCells vs _ _ b b' h,heap_setCell _ _ _ _ (by simpa using h)]
theorem size_setCells:∀ (vs:List Value) (o:Nat) (w:World) (b:Nat),(w.setCells b o vs).heap.size=w.heap.size
  | [],_,_,_=>rfl
  | v :: vs,o,w,b=>by rw [World.setCells,size_setCells vs];simp
theorem wx_setCells:∀ (vs:List Value) (o:Nat) (w:World) (b:Nat),Wx w (w.setCells b o vs)
  | [],_,_,_=>Wx.refl _
  | v :: vs,o,w,b=>by
    rw [World.setCells]
    exact Wx.trans (b:=w.setCell ⟨b,o,none⟩ v) ⟨rfl,rfl,rfl,by simp⟩ (wx_setCells vs _ _ _)
theorem splice_get (cs:List V) (off:Nat) (vs:List V) (hle:off+vs.length≤cs.length):(splice cs off vs).length=cs.length∧
    ∀ j (hj:j<cs.length) (hj':j<(splice cs off vs).length),(splice cs off vs)[j]=if h:off≤j∧j<off+vs.length then vs[j - off]'(by omega) else cs[j]:=by
  have hlen:(splice cs off vs).length=cs.length:=by simp [splice];omega
  refine ⟨hlen,fun j hj hj'=>?_⟩
  simp only [splice,List.append_assoc]
  by_cases h1:j<off
  · rw [List.getElem_append_left (by simp;omega),dif_neg (by omega)];simp
  · rw [List.getElem_append_right (by simp;omega)]
    by_cases h2:j<off+vs.length
    · rw [List.getElem_append_left (by simp;omega),dif_pos ⟨by omega,h2⟩]
      congr 1;simp;omega
    · rw [List.getElem_append_right (by simp;omega),dif_neg (by omega)]
      simp;congr 1;omega
theorem store_run {P:Program} {t:TypeId} {n b o:Nat} {v:Value} (h2:sizeT P t=some n) (hs:v.cells.size=n) (h1:∀ u ∈ v.cells.toList,u.oneCell'=true)
    (hc:∀ j,j<n→(w.cell? (at_ b (o+j))).isSome=true) (hf:∀ j,j<n→w.frozen? (at_ b (o+j))=false):
    (storeVar t (at_ b o) v).run P w= .ok () (w.setCells b o v.cells.toList):=by
  have hst:=run_storeCells_cells (P:=P) b o v.cells.toList 0 w (fun j hj=>by rw [Nat.add_zero];exact hc j (by simpa [hs] using hj)) (fun j hj=>by rw [Nat.add_zero];exact hf j (by simpa [hs] using hj)) h1
  simp only [Nat.add_zero] at hst
  simp [storeVar,size_run h2,hs]
  exact hst
end
end Go.D
namespace Go.D
section
variable {C:Cx} {w0:World} {outer own:Nat→Prop} {ρ:Nat→Option RI} {st st':St} {a:Act} {w:World} {h:Nat→Option Row}
theorem bp_cells {bad:Nat→Prop} {r off:Nat} {cs:List V} {ri:RI} {v:Value} (hρ:ρ r=some ri) (hro:RowOk w ρ bad ri (.box cs)) {bad':Nat→Prop} (hv:VR w ρ bad' v (.bp r off)):
    v= .pointer (some (at_ ri.b (0+off)))∧CellsAt w ρ bad ri.b 0 cs:=by
  cases hv with
  | bp _ _ ri' h1 h2=>
    rw [hρ] at h1;cases h1
    refine ⟨by rw [Nat.zero_add],fun j hj=>?_⟩
    obtain ⟨_,u,h3,h4⟩:=hro.2 j hj
    exact ⟨u,by rw [Nat.zero_add];exact h3,h4⟩
theorem getD_lt {α:Type} (l:List α) (j:Nat) (d:α) (hj:j<l.length):l.getD j d=l[j]:=by
  rw [List.getD_eq_getElem?_getD,List.getElem?_eq_getElem hj,Option.getD_some]
theorem ep_cells {bad:Nat→Prop} {r k off:Nat} {t:TN} {l:List (El t)} {ri:RI} {v:Value} (hρ:ρ r=some ri) (hro:RowOk w ρ bad ri (.arr t l)) {x:El t} (hx:l[k]?=some x)
    {bad':Nat→Prop} (hv:VR w ρ bad' v (.ep r t k off)):v= .pointer (some (at_ ri.b (k *sz t+off)))∧CellsAt w ρ bad ri.b (k *sz t) (enc t x)∧ri.nl=false:=by
  cases hv with
  | ep _ _ _ _ ri' h1 h2=>
    rw [hρ] at h1;cases h1
    refine ⟨rfl,fun j hj=>?_,h2⟩
    rcases hro.2 with h | ⟨h0,_,_,_,h4⟩
    · rw [h2] at h;cases h.1
    · obtain ⟨hk,rfl⟩:=List.getElem?_eq_some_iff.1 hx
      have hj':j<sz t:=by rw [← enc_length t l[k]];exact hj
      obtain ⟨u,h5,h6⟩:=h4 k hk j hj'
      rw [getD_lt _ _ _ hj] at h6
      exact ⟨u,h5,h6⟩
theorem fp_cells {bad:Nat→Prop} {cs:List V} {off:Nat} {v:Value} (hv:VR w ρ bad v (.fp cs off)):
    ∃ b o,v= .pointer (some (at_ b (o+off)))∧CellsAt w ρ bad b o cs:=by
  cases hv with
  | fp _ _ b o u h0 hb hu hv=>exact ⟨b,o,rfl,fun j hj=>⟨_,hu j hj,hv j hj⟩⟩
theorem Subs.get {cs ds:List V} (h:Subs cs ds):∀ (j:Nat) (hj:j<cs.length) (hj':j<ds.length),Sub cs[j] ds[j]:=by
  induction h with
  | nil=>intro j hj;simp at hj
  | cons h1 h2 ih=>
    intro j hj hj'
    cases j with
    | zero=>exact h1
    | succ j=>exact ih j (by simpa using hj) (by simpa using hj')
theorem Subs.len {cs ds:List V} (h:Subs cs ds):cs.length=ds.length:=by
  induction h with
  | nil=>rfl
  | cons _ _ ih=>simp [ih]
variable {o:Oper} {i:Nat} (hr:Rel C w0 outer own ρ st a w)
include hr
theorem ok_loadAt (t:TypeId) (x:Operand) (ho:o.op= .load t x) {ag:Bool} {n b p off:Nat} {cs:List V} (h1:isAggT C.P t=some ag) (h2:sizeT C.P t=some n)
    (hx:a.eval x= .pointer (some (at_ b (p+off)))) (hc:CellsAt w ρ (Bad outer ρ st.h) b p cs) (hk:loadCells ag n cs off (fun v=>putK C o.dst st v some)=some st'):
    Does C.P o a w (After C w0 outer own i ρ st'):=by
  obtain ⟨d,v,h3,h4,h5⟩:=load_ok h1 h2 hc hk
  refine does_value (v:=v) (w':=w) ?_ (hr.after h4 h3)
  simp [execOp,ho,hx,Instr.loadAt,Instr.sureAddr,h5]
theorem row_of {r:Nat} {c:RowC} {m:Mode} (h1:st.h r=some ⟨c,m⟩):∃ ri,ρ r=some ri∧RowOk w ρ (Bad outer ρ st.h) ri c:=by
  obtain ⟨ri,h2,h3,_⟩:=hr.heap.rows r _ h1
  exact ⟨ri,h2,h3⟩
theorem ok_load (t:TypeId) (x:Operand) (ho:o.op= .load t x) (hk:stepK C i o st some=some st'):Does C.P o a w (After C w0 outer own i ρ st'):=by
  simp only [stepK,ho] at hk
  split at hk
  case h_2=>cases hk
  rename_i ag n h1 h2
  have hx:=hr.opd x
  split at hk
  · rename_i r off hop
    rw [hop] at hx
    split at hk
    · rename_i cs m hrow
      obtain ⟨ri,hρ,hro⟩:=row_of hr hrow
      obtain ⟨e1,e2⟩:=bp_cells hρ hro hx
      exact ok_loadAt hr t x ho h1 h2 e1 e2 hk
    · cases hk
  · rename_i r t' k off hop
    rw [hop] at hx
    split at hk
    · rename_i t'' l m hrow
      obtain ⟨ri,hρ,hro⟩:=row_of hr hrow
      by_cases ht:t''=t'
      · subst ht
        simp only [decide_true,gd_true,nthK,Option.bind_eq_some_iff] at hk
        obtain ⟨y,hy,hk⟩:=hk
        obtain ⟨e1,e2,_⟩:=ep_cells hρ hro hy hx
        exact ok_loadAt hr t x ho h1 h2 e1 e2 hk
      · simp [ht] at hk
    · cases hk
  · rename_i cs off hop
    rw [hop] at hx
    obtain ⟨b,p,e1,e2⟩:=fp_cells hx
    exact ok_loadAt hr t x ho h1 h2 e1 e2 hk
  · cases hk
theorem ok_store (t:TypeId) (x y:Operand) (ho:o.op= .store t x y) (hk:stepK C i o st some=some st'):Does C.P o a w (After C w0 outer own i ρ st'):=by
  simp only [stepK,ho] at hk
  split at hk
  · cases hk
  rename_i n h2
  cases hb:(Nat.beq n (cellsOf (opd st.s y)).length&&leafs (cellsOf (opd st.s y)))
  case false=>simp [hb] at hk
  simp only [hb,gd_true] at hk
  simp only [Bool.and_eq_true] at hb
  have hn:n=(cellsOf (opd st.s y)).length:=Nat.eq_of_beq_eq_true hb.1
  obtain ⟨hs,hvs,hone⟩:=vr_cells (hr.opd y) hb.2
  have hx:=hr.opd x
  split at hk
  · rename_i r off hop
    rw [hop] at hx
    split at hk
    · rename_i cs hrow
      cases hle:Nat.ble (off+n) cs.length
      case false=>simp [hle] at hk
      simp only [hle,gd_true] at hk
      have hle:=Nat.le_of_ble_eq_true hle
      obtain ⟨ri,hρ,hro⟩:=row_of hr hrow
      obtain ⟨e1,e2⟩:=bp_cells hρ hro hx
      rw [Nat.zero_add] at e1
      have hcell:∀ j,j<n→(w.cell? (at_ ri.b (off+j))).isSome=true:=fun j hj=>by
        obtain ⟨_,u,h3,_⟩:=hro.2 (off+j) (by omega);rw [h3];rfl
      have hfr:∀ j,j<n→w.frozen? (at_ ri.b (off+j))=false:=fun j hj=>(hro.2 (off+j) (by omega)).1
      have hrun:=store_run (P:=C.P) h2 (hs.trans hn.symm) hone hcell hfr
      generalize hW:w.setCells ri.b off (a.eval y).cells.toList=W at hrun
      have hwrite:=hr.heap.write hrow hρ hro.1 W (by rw [← hW];exact wx_setCells _ _ _ _) (by rw [← hW];exact size_setCells _ _ _ _)
        (fun b hb=>by rw [← hW];exact heap_setCells _ _ _ _ _ hb) (.box (splice cs off (cellsOf (opd st.s y)))) (fun hk'=>by
          obtain ⟨hl1,hl2⟩:=splice_get cs off (cellsOf (opd st.s y)) (by omega)
          refine ⟨hro.1,fun j hj=>?_⟩
          have hj':j<cs.length:=by omega
          refine ⟨by rw [← hW,World.frozen?_setCells];exact (hro.2 j hj').1,?_⟩
          rw [hl2 j hj' hj]
          split
          · rename_i hin
            have:=World.cell?_setCells_in ri.b (a.eval y).cells.toList off w (fun j hj=>hcell j (by simpa [hs,hn] using hj)) (j - off) (by simp [hs];omega)
            refine ⟨_,by rw [← hW,show at_ ri.b j=⟨ri.b,off+(j - off),none⟩ by rw [at_];congr 1;omega];exact this,?_⟩
            have h4:=hvs (j - off) (by omega)
            rw [Array.getD_eq_getD_getElem?,Array.getElem?_eq_getElem (by omega),Option.getD_some] at h4
            exact hk' _ _ (by simpa using h4)
          · rename_i hout
            obtain ⟨_,u,h3,h4⟩:=hro.2 j hj'
            refine ⟨u,?_,hk' _ _ h4⟩
            rw [← hW,World.cell?_setCells_out]
            · exact h3
            · intro _ _;simp only [at_,Array.length_toList,hs];omega)
      refine does_skip (w':=W) ?_ ⟨ρ,((hr.turn hwrite.1 hwrite.2).put (.undef _) hk).1,fun _ _=>rfl,fun _ _ h=>h⟩
      simp [execOp,ho,e1,Instr.storeAt,Instr.sureAddr,hrun]
    · cases hk
  · rename_i r t' k off hop
    rw [hop] at hx
    split at hk
    · rename_i t'' l hrow
      obtain ⟨ri,hρ,hro⟩:=row_of hr hrow
      by_cases ht:t''=t'
      case neg=>simp [ht] at hk
      subst ht
      simp only [decide_true,gd_true] at hk
      split at hk
      · cases hk
      rename_i vs' ids hfz
      cases hids:ids.any (Nat.beq r)
      case true=>simp [hids] at hk
      simp only [hids,gd_false,nthK,bnd_eq,Option.bind_eq_some_iff] at hk
      obtain ⟨y0,hy0,hk⟩:=hk
      cases hle:Nat.ble (off+n) (sz t'')
      case false=>simp [hle] at hk
      simp only [hle,gd_true,Option.bind_eq_some_iff] at hk
      have hle:=Nat.le_of_ble_eq_true hle
      obtain ⟨z,hz,hk⟩:=hk
      obtain ⟨e1,e2,hnl⟩:=ep_cells hρ hro hy0 hx
      obtain ⟨hkl,hy0'⟩:=List.getElem?_eq_some_iff.1 hy0
      obtain ⟨hh1,hv1⟩:=hr.heap.mark ids
      have hrow1:markRo st.h ids r=some ⟨.arr t'' l, .own⟩:=by
        rw [markRo_get,if_neg,hrow]
        intro hm
        have:ids.any (Nat.beq r)=true:=List.any_eq_true.2 ⟨r,hm,Nat.beq_refl r⟩
        rw [this] at hids;cases hids
      obtain ⟨_,hρ1,hro1,_⟩:=hh1.rows r _ hrow1
      rw [hρ] at hρ1;cases hρ1
      obtain ⟨hfl,hfv⟩:=frzList_ok hr.heap (vs:=fun j=>(a.eval y).cells.getD j undef) hvs hfz
      rcases hro1.2 with hnil | ⟨_,c1,c2,c3,c4⟩
      · rw [hnl] at hnil;cases hnil.1
      have hn1:=hro1.1
      have hkn:(k+1) *sz t''≤ri.cap *sz t'':=Nat.mul_le_mul_right _ (by omega)
      rw [Nat.add_mul,Nat.one_mul] at hkn
      have hcell:∀ j,j<n→(w.cell? (at_ ri.b (k *sz t''+off+j))).isSome=true:=fun j hj=>(c3 (k *sz t''+off+j) (by omega)).2
      have hfr:∀ j,j<n→w.frozen? (at_ ri.b (k *sz t''+off+j))=false:=fun j hj=>(c3 (k *sz t''+off+j) (by omega)).1
      have hrun:=store_run (P:=C.P) h2 (hs.trans hn.symm) hone hcell hfr
      generalize hW:w.setCells ri.b (k *sz t''+off) (a.eval y).cells.toList=W at hrun
      have hin:∀ j,j<n→W.cell? (at_ ri.b (k *sz t''+off+j))=some ((a.eval y).cells.getD j undef):=fun j hj=>by
        have:=World.cell?_setCells_in ri.b (a.eval y).cells.toList (k *sz t''+off) w (fun j hj=>hcell j (by simpa [hs,hn] using hj)) j (by simp [hs];omega)
        rw [hW] at this
        refine this.trans ?_
        rw [Array.getD_eq_getD_getElem?,Array.getElem?_eq_getElem (by omega)];simp
      have hout:∀ j,(j<k *sz t''+off∨k *sz t''+off+n≤j)→W.cell? (at_ ri.b j)=w.cell? (at_ ri.b j):=fun j hj=>by
        rw [← hW,World.cell?_setCells_out]
        intro _ _;simp only [at_,Array.length_toList,hs];omega
      have hwrite:=hh1.write hrow1 hρ hnl W (by rw [← hW];exact wx_setCells _ _ _ _) (by rw [← hW];exact size_setCells _ _ _ _)
        (fun b hb=>by rw [← hW];exact heap_setCells _ _ _ _ _ hb) (.arr t'' (l.set k z)) (fun hk'=>by
          refine ⟨by simpa using hn1, .inr ⟨hnl,c1,c2,fun j hj=>⟨by rw [← hW,World.frozen?_setCells];exact (c3 j hj).1,?_⟩,fun i' hi' j hj=>?_⟩⟩
          · by_cases hjj:k *sz t''+off≤j∧j<k *sz t''+off+n
            · have:=hin (j - (k *sz t''+off)) (by omega)
              rw [show k *sz t''+off+(j - (k *sz t''+off))=j by omega] at this
              rw [this];rfl
            · rw [hout j (by omega)];exact (c3 j hj).2
          · have hi2:i'<l.length:=by simpa using hi'
            by_cases hik:i'=k
            · subst hik
              have hsub:=dec_sub t'' hz
              obtain ⟨hl1,hl2⟩:=splice_get (enc t'' y0) off vs' (by rw [enc_length];omega)
              have hjl:j<(splice (enc t'' y0) off vs').length:=by rw [hl1,enc_length];exact hj
              have hset:(l.set i' z)[i']=z:=by simp
              rw [hset,getD_lt _ _ _ (by rw [enc_length];exact hj)]
              have hsj:=(hsub.get j hjl (by rw [enc_length];exact hj))
              rw [hl2 j (by rw [enc_length];exact hj) hjl] at hsj
              split at hsj
              · rename_i hjin
                refine ⟨_,by have:=hin (j - off) (by omega);rw [show i' *sz t''+off+(j - off)=i' *sz t''+j by omega] at this;exact this,?_⟩
                exact hk' _ _ (VR.sub hsj (hfv (j - off) (by omega)).1)
              · obtain ⟨u,h5,h6⟩:=c4 i' hi2 j hj
                rw [hy0',getD_lt _ _ _ (by rw [enc_length];exact hj)] at h6
                exact ⟨u,by rw [hout _ (by omega)];exact h5,hk' _ _ (VR.sub hsj h6)⟩
            · obtain ⟨u,h5,h6⟩:=c4 i' hi2 j hj
              have hset:(l.set k z)[i']=l[i']:=by rw [List.getElem_set_ne (Ne.symm hik)]
              rw [hset]
              refine ⟨u,?_,hk' _ _ h6⟩
              rw [hout]
              · exact h5
              · rcases Nat.lt_or_gt_of_ne hik with hlt | hgt
                · left
                  have:(i'+1) *sz t''≤k *sz t'':=Nat.mul_le_mul_right _ hlt
                  rw [Nat.add_mul,Nat.one_mul] at this;omega
                · right
                  have:(k+1) *sz t''≤i' *sz t'':=Nat.mul_le_mul_right _ hgt
                  rw [Nat.add_mul,Nat.one_mul] at this;omega)
      have hturn:Rel C w0 outer own ρ { st with h:=upd (markRo st.h ids) r (some ⟨.arr t'' (l.set k z), .own⟩) } a W:=
        hr.turn hwrite.1 fun u d hu=>hwrite.2 u d (hv1 u d hu)
      refine does_skip (w':=W) ?_ ⟨ρ,(hturn.put (.undef _) hk).1,fun _ _=>rfl,fun _ _ h=>h⟩
      simp [execOp,ho,e1,Instr.storeAt,Instr.sureAddr,hrun]
    · cases hk
  · cases hk
end
end Go.D
namespace Go.D
section
variable {C:Cx} {w0:World} {outer own:Nat→Prop} {ρ:Nat→Option RI} {st st':St} {a:Act} {w:World} {h:Nat→Option Row}
theorem wrap_fits (k:IntKind) (n:Int):Fits k (k.wrap n):=by
  cases k <;> simp only [Fits,IntKind.wrap,IntKind.min,IntKind.max,IntKind.signed,IntKind.bits] <;> simp <;> (try split) <;> omega
variable {o:Oper} {i:Nat} (hr:Rel C w0 outer own ρ st a w)
include hr
theorem ok_nilCheck (x:Operand) (ho:o.op= .nilCheck x) (hk:stepK C i o st some=some st'):Does C.P o a w (After C w0 outer own i ρ st'):=by
  simp only [stepK,ho] at hk
  have hx:=hr.opd x
  have hrun:∀ v,a.eval x=v→(match v with | .pointer (some _)=>True | .func (.func _) _ _=>True | _=>False)→(execOp a.eval o).run C.P w= .ok (.value v) w:=fun v e1 e2=>by
    unfold execOp
    simp only [ho,e1]
    split at e2 <;> first | rfl | cases e2
  split at hk
  · rename_i r off hop
    rw [hop] at hx
    cases hx':a.eval x <;> rw [hx'] at hx <;> cases hx
    exact does_value (hrun _ hx' trivial) (hr.after (.bp _ _ _ (by assumption) (by assumption)) hk)
  · rename_i r t k off hop
    rw [hop] at hx
    cases hx':a.eval x <;> rw [hx'] at hx <;> cases hx
    exact does_value (hrun _ hx' trivial) (hr.after (.ep _ _ _ _ _ (by assumption) (by assumption)) hk)
  · rename_i cs off hop
    rw [hop] at hx
    cases hx':a.eval x <;> rw [hx'] at hx <;> cases hx
    exact does_value (hrun _ hx' trivial) (hr.after (.fp _ _ _ _ _ (by assumption) (by assumption) (by assumption) (by assumption)) hk)
  · rename_i f cs hop
    rw [hop] at hx
    cases hx':a.eval x <;> rw [hx'] at hx <;> cases hx
    exact does_value (hrun _ hx' trivial) (hr.after (.fn _ _ _ (by assumption) (by assumption)) hk)
  · cases hk
theorem ok_fieldAddr (t:TypeId) (x:Operand) (f:Nat) (ho:o.op= .fieldAddr t x f) (hk:stepK C i o st some=some st'):Does C.P o a w (After C w0 outer own i ρ st'):=by
  simp only [stepK,ho] at hk
  split at hk
  · cases hk
  rename_i off ft hf
  unfold fieldOf at hf
  split at hf
  case h_2=>cases hf
  rename_i fs hu
  split at hf
  case h_2=>cases hf
  rename_i fld hfld
  cases hf
  split at hk
  case h_2=>cases hk
  rename_i n hsz
  have hx:=hr.opd x
  have hrun:∀ b p,a.eval x= .pointer (some (at_ b p))→(execOp a.eval o).run C.P w= .ok (.value (.pointer (some (at_ b (p+fld.offset))))) w:=fun b p e1=>by
    simp [execOp,ho,e1,Instr.fieldAt,run_underlyingC hu,hfld,Instr.sureAddr,fieldPlace,size_run hsz,add_at]
  split at hk
  · rename_i r o1 hop
    rw [hop] at hx
    cases hx':a.eval x <;> rw [hx'] at hx <;> cases hx
    rename_i ri h1 h2
    exact does_value (hrun _ _ hx') (hr.after (.bp _ _ _ (by assumption) (by assumption)) hk)
  · rename_i r t' k o1 hop
    rw [hop] at hx
    cases hx':a.eval x <;> rw [hx'] at hx <;> cases hx
    rename_i ri h1 h2
    refine does_value (hrun _ _ hx') (hr.after ?_ hk)
    rw [Nat.add_assoc];exact .ep _ _ _ _ _ (by assumption) (by assumption)
  · rename_i cs o1 hop
    rw [hop] at hx
    cases hx':a.eval x <;> rw [hx'] at hx <;> cases hx
    rename_i b p u h0 hb hu' hv'
    refine does_value (hrun _ _ hx') (hr.after ?_ hk)
    rw [Nat.add_assoc];exact .fp _ _ _ _ _ (by assumption) (by assumption) (by assumption) (by assumption)
  · cases hk
omit hr in
theorem part_ok {ag:Bool} {n off:Nat} {t:TypeId} {cs:List V} {vs:Array Value} {bad:Nat→Prop} {R:Type} {K:V→Option R} {r:R} (h1:isAggT C.P t=some ag) (h2:sizeT C.P t=some n)
    (hs:vs.size=cs.length) (hv:∀ j (hj:j<cs.length),VR w ρ bad (vs.getD j undef) cs[j]) (hk:loadCells ag n cs off K=some r):
    ∃ d v,K d=some r∧VR w ρ bad v d∧(part t vs off).run C.P w= .ok v w:=by
  unfold loadCells at hk
  cases ag with
  | true=>
    simp only [gd_true] at hk
    cases hb:Nat.ble (off+n) cs.length
    case false=>simp [hb] at hk
    simp only [hb,gd_true] at hk
    have hle:=Nat.le_of_ble_eq_true hb
    refine ⟨_, .agg (vs.extract off (off+n)),hk,?_,?_⟩
    · refine .agg _ _ (by simp;omega) fun j hj=>?_
      have hjn:j<n:=by simp at hj;omega
      have he:((cs.drop off).take n)[j]=cs[off+j]'(by omega):=by simp
      rw [he]
      have:=hv (off+j) (by omega)
      rw [Array.getD_eq_getD_getElem?,Array.getElem?_eq_getElem (by omega)] at this
      rw [Array.getD_eq_getD_getElem?,Array.getElem?_eq_getElem (by simp;omega)]
      simpa using this
    · simp [part,isAgg_run h1,size_run h2]
  | false=>
    simp only [gd_false] at hk
    split at hk
    · rename_i c r' hd
      have hlt:off<cs.length:=by
        rcases Nat.lt_or_ge off cs.length with h | h
        · exact h
        · rw [List.drop_eq_nil_of_le h] at hd;cases hd
      have hce:cs[off]=c:=by
        rw [List.drop_eq_getElem_cons hlt] at hd;exact (List.cons.inj hd).1
      have h3:=hv off hlt
      refine ⟨c,vs.getD off undef,hk,by rw [← hce];exact h3,?_⟩
      rw [Array.getD_eq_getD_getElem?,Array.getElem?_eq_getElem (by omega)]
      simp [part,isAgg_run h1,Array.getElem?_eq_getElem (show off<vs.size by omega)]
    · cases hk
theorem ok_field (t:TypeId) (x:Operand) (f:Nat) (ho:o.op= .field t x f) (hk:stepK C i o st some=some st'):Does C.P o a w (After C w0 outer own i ρ st'):=by
  simp only [stepK,ho] at hk
  have hx:=hr.opd x
  split at hk
  case h_2=>cases hk
  rename_i off ft cs hf hop
  rw [hop] at hx
  unfold fieldOf at hf
  split at hf
  case h_2=>cases hf
  rename_i fs hu
  split at hf
  case h_2=>cases hf
  rename_i fld hfld
  cases hf
  split at hk
  case h_2=>cases hk
  rename_i ag n h1 h2
  cases hx':a.eval x <;> rw [hx'] at hx <;> cases hx
  rename_i vs hs hv
  obtain ⟨d,v,h3,h4,h5⟩:=part_ok (C:=C) (w:=w) h1 h2 hs hv hk
  refine does_value (v:=v) (w':=w) ?_ (hr.after h4 h3)
  simp [execOp,ho,hx',Instr.field,run_underlyingC hu,hfld,asAgg,h5]
theorem ok_extract (x:Operand) (ix:Nat) (ho:o.op= .extract x ix) (hk:stepK C i o st some=some st'):Does C.P o a w (After C w0 outer own i ρ st'):=by
  simp only [stepK,ho] at hk
  have hx:=hr.opd x
  split at hk
  case h_2=>cases hk
  rename_i cs hop
  rw [hop] at hx
  split at hk
  case h_2=>cases hk
  rename_i c r' hd
  have hlt:ix<cs.length:=by
    rcases Nat.lt_or_ge ix cs.length with h | h
    · exact h
    · rw [List.drop_eq_nil_of_le h] at hd;cases hd
  have hce:cs[ix]=c:=by
    rw [List.drop_eq_getElem_cons hlt] at hd;exact (List.cons.inj hd).1
  cases hx':a.eval x <;> rw [hx'] at hx <;> cases hx
  rename_i vs hs hv
  have h3:=hv ix hlt
  rw [hce] at h3
  refine does_value (v:=vs.getD ix undef) (w':=w) ?_ (hr.after h3 hk)
  rw [Array.getD_eq_getD_getElem?,Array.getElem?_eq_getElem (by omega)]
  simp [execOp,ho,hx',Instr.extract,Array.getElem?_eq_getElem (show ix<vs.size by omega)]
theorem ok_unOp (op:UnOp) (t:TypeId) (x:Operand) (ho:o.op= .unOp op t x) (hk:stepK C i o st some=some st'):Does C.P o a w (After C w0 outer own i ρ st'):=by
  simp only [stepK,ho] at hk
  have hx:=hr.opd x
  split at hk
  case h_2=>cases hk
  rename_i d hd
  unfold unV at hd
  split at hd
  · rename_i k n hop
    rw [hop] at hx
    cases op <;> cases hd
    cases hx':a.eval x <;> rw [hx'] at hx <;> cases hx
    refine does_value (v:= .int k (k.wrap (0 - n))) (w':=w) ?_ (hr.after (.int _ _ (wrap_fits _ _)) hk)
    simp [execOp,ho,hx',Op.unary,Op.intArith]
  · rename_i b hop
    rw [hop] at hx
    cases op <;> cases hd
    cases hx':a.eval x <;> rw [hx'] at hx <;> cases hx
    refine does_value (v:= .bool (!b)) (w':=w) ?_ (hr.after (.bool _) hk)
    simp [execOp,ho,hx',Op.unary]
  · cases hd
end
end Go.D

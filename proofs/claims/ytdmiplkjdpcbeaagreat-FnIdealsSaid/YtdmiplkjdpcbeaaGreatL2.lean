/-
 A plain semantics of the code: values without memory, what the call itself makes kept in rows. It is a function, so that the kernel can run it.
-/
import Derived.Test.YtdmiplkjdpcbeaaGreatL1
import Derived.Calls
import Derived.Deep.AppendSrc
namespace Go.D
open Option renaming bind → ob
def hgt (b:Bool):Bool:=b
def gd {α:Type _} (c:Bool) (a b:α):α:=match hgt c with
 | true=>a
 | false=>b
def IG {α β:Type _} (x:Option α) (f:α→Option β):Option β:=gd true (match x with
 | some a=>f a
 | none=>none) none
@[simp] theorem XB {α:Type _} (a b:α):gd true a b=a:=rfl
@[simp] theorem CK {α:Type _} (a b:α):gd false a b=b:=rfl
@[simp] theorem kK {α β:Type _} (x:Option α) (f:α→Option β):IG x f=ob x f:=by cases x <;> rfl
def uA {α:Type} (f:Nat→α) (i:Nat) (v:α):Nat→α:=fun j=>bif Nat.beq j i then v else f j
inductive HE where
 | own | ro | lock
inductive nD where
 | box (cs:List V)
 | arr (t:TN) (l:List (El t))
structure nA where
 c:nD
 m:HE
structure St where
 s:Nat→V
 h:Nat→Option nA
 nx:Nat
inductive ZA where
 | plain
 | ptr (own:List Nat)
 | mv (own:List Nat)
structure NB where
 ks:List ZA
 A:Type
 R:Type
 dA:List V→Option A
 F:A→Option R
 eR:R→List V
 shape:List (Bool × Nat)
 own:List Nat
 pb:Bool
structure Gl where
 K:Nat
 p:World→Prop
 stay:∀ w w':World,(∀ b,b<K→w'.heap[b]?=w.heap[b]?)→p w→p w'
 lt:∀ w,p w→K≤w.heap.size
def JH:Gl:=⟨0,fun _=>True,fun _ _ _ h=>h,fun _ _=>Nat.zero_le _⟩
structure zcm [fA] (g:Gl) (ow:Nat→Prop) (w:World):Prop where
 p:g.p w
 own:∀ b,b<g.K→¬ ow b
 base:fA.base≤w.heap.size
 low:∀ b,b<fA.base→¬ ow b
structure Cx where
 P:Program
 tn:TypeId→Option TN
 Φ:Nat→Option NB
 nt:Nat
 g:Gl
structure yD [fA] (C:Cx):Prop where
 mixed:C.P.follows .mixedOrders=true
 ok:∀ e t,C.tn e=some t→∃ i z,C.P.info? e=some i∧i.size=sz t∧i.bytes≤1024∧i.zero=some z∧z.cells.size=sz t
 tys:∀ e t,C.tn e=some t→fA.tn e=some t
def bA:Nat:=2^36
def xJ:Value→V
 | .bool b=> .bool b
 | .int k n=>bif decide (k.min≤n)&&decide (n≤k.max) then .int k n else .undef
 | .string s=>bif Nat.ble s.data.toList.length 1000000 then .str s.data.toList else .undef
 | .slice none 0 0=> .nil
 | .nilIface=> .nili
 | _=> .undef
def opd (s:Nat→V):Operand→V
 | .tmp t=>s t
 | .const v=>xJ v
 | .func f=> .fn f []
 | .global _=> .undef
section
variable (C:Cx) {R:Type}
def MA (dst:Option Nat) (st:St) (v:V) (K:St→Option R):Option R:=
 match dst with
 | none=>K st
 | some d=>gd (Nat.blt d C.nt) (K { st with s:=uA st.s d v }) none
def rD (dst:Option Nat) (st:St) (r:Nat) (c:nD) (v:V) (K:St→Option R):Option R:=
 MA C dst { st with h:=uA st.h r (some ⟨c, .own⟩) } v K
def cellsOf:V→List V
 | .agg cs=>cs
 | v=>[v]
def SE (cs:List V):Bool:=cs.all V.leaf
def uG (cs:List V) (off:Nat) (vs:List V):List V:=cs.take off++vs++cs.drop (off+vs.length)
def IB (h:Nat→Option nA) (ids:List Nat):Nat→Option nA:=
 match ids with
 | []=>h
 | r :: rs=>IB (uA h r ((h r).map fun row=> { row with m:= .ro })) rs
def HE.isLock:HE→Bool
 | .lock=>true
 | _=>false
def HE.isOwn:HE→Bool
 | .own=>true
 | _=>false
def TN.beq (s t:TN):Bool:=Nat.beq s.ctorIdx t.ctorIdx
def iE:Nat→V→Bool
 | 0,_=>false
 | n+1, .fn _ cs=>cs.all (iE n)
 | n+1, .fp cs _=>cs.all (iE n)
 | _+1, .bool _ | _+1, .int _ _ | _+1, .str _ | _+1, .nil | _+1, .sl _ _ | _+1, .nili | _+1, .ifc _=>true
 | _+1,_=>false
def tE (h:Nat→Option nA):V→Option (V × List Nat)
 | .ow r=>match h r with
  | some ⟨.arr t l,m⟩=>bif m.isLock then none else some (.sl t l,[r])
  | _=>none
 | .ov r t off len=>match h r with
  | some ⟨.arr t' l,m⟩=>bif m.isLock then none else if e:t'=t then some (.sl t (((TN.cast e l).drop off).take len),[r]) else none
  | _=>none
 | v=>bif iE 8 v then some (v,[]) else none
def TD (h:Nat→Option nA):List V→Option (List V × List Nat)
 | []=>some ([],[])
 | v :: vs=>match tE h v with
  | none=>none
  | some (v',i)=>match TD h vs with
   | none=>none
   | some (vs',j)=>some (v' :: vs',i++j)
def OE (h:Nat→Option nA):V→Option (V × List Nat)
 | .agg cs=>match TD h cs with
  | some (cs',i)=>some (.agg cs',i)
  | none=>none
 | .bp r off=>match h r with
  | some ⟨.box cs,m⟩=>bif m.isLock||cs.isEmpty then none else match TD h cs with
   | some (cs',i)=>some (.fp cs' off,r :: i)
   | none=>none
  | _=>none
 | v=>tE h v
def AH (h:Nat→Option nA):List V→Option (List V × List Nat)
 | []=>some ([],[])
 | v :: vs=>match OE h v with
  | none=>none
  | some (v',i)=>match AH h vs with
   | none=>none
   | some (vs',j)=>some (v' :: vs',i++j)
def kD (P:Program) (t:TypeId):Option Bool:=
 match P.underlying t with
 | some (.struct _) | some (.array _ _)=>some true
 | some _=>some false
 | none=>none
def vD (P:Program) (t:TypeId):Option Nat:=(P.info? t).map (·.size)
def gE (agg:Bool) (n:Nat) (cs:List V) (off:Nat) (K:V→Option R):Option R:=
 gd agg (gd (Nat.ble (off+n) cs.length) (K (.agg ((cs.drop off).take n))) none) (match cs.drop off with
  | c :: _=>K c
  | []=>none)
def pA {α:Type} (l:List α) (i:Int):Option α:=if 0≤i then l[i.toNat]? else none
def lS {α:Type} (l:List α) (i:Nat) (K:α→Option R):Option R:=ob l[i]? K
def aR (P:Program) (t:TypeId) (f:Nat):Option (Nat × TypeId):=
 match P.underlying t with
 | some (.struct fs)=>match fs[f]? with
  | some x=>some (x.offset,x.type)
  | none=>none
 | _=>none
def mJ (P:Program) (t:TypeId):Option TypeId:=
 match P.underlying t with
 | some (.slice e)=>some e
 | _=>none
def eS:TypeDesc→V→Bool
 | .string, .str _=>true
 | .slice _, .sl _ _ | .slice _, .nil | .slice _, .ow _ | .slice _, .ov _ _ _ _=>true
 | _,_=>false
def vI (h:Nat→Option nA):V→Option Nat
 | .sl _ l=>some l.length
 | .nil=>some 0
 | .str s=>some s.length
 | .ow r=>match h r with
  | some ⟨.arr _ l,_⟩=>some l.length
  | _=>none
 | .ov _ _ _ len=>some len
 | _=>none
def eN (h:Nat→Option nA) (t:TN):V→Option (List (El t))
 | .sl t' l=>if e:t'=t then some (TN.cast e l) else none
 | .nil=>some []
 | .ow r=>match h r with
  | some ⟨.arr t' l,_⟩=>if e:t'=t then some (TN.cast e l) else none
  | _=>none
 | .ov r t0 off len=>match h r with
  | some ⟨.arr t' l,_⟩=>bif decide (t0=t) then if e:t'=t then some (((TN.cast e l).drop off).take len) else none else none
  | _=>none
 | _=>none
def FM (h:Nat→Option nA) (t:TN):V→Option (List (El t) × Option Nat)
 | .nil=>some ([],none)
 | .ow r=>match h r with
  | some ⟨.arr t' l, .own⟩=>if e:t'=t then some (TN.cast e l,some r) else none
  | _=>none
 | .ov r _ 0 len=>match h r with
  | some ⟨.arr t' l, .own⟩=>if e:t'=t then some ((TN.cast e l).take len,some r) else none
  | _=>none
 | _=>none
def wJ (h:Nat→Option nA):Option Nat→Nat→Option nA
 | none=>h
 | some r=>uA h r none
def JC:List Bool→List V→List V→Option Bool
 | [],[],[]=>some true
 | false :: ks, .int j a :: xs, .int k b :: ys=>bif decide (j=k) then (JC ks xs ys).map (fun r=>bif a==b then r else false) else none
 | true :: ks, .bool a :: xs, .bool b :: ys=>(JC ks xs ys).map (fun r=>bif a==b then r else false)
 | _,_,_=>none
def wV (op:BinOp):V→V→Option V
 | .int k a, .int k' b=>
  match op with
  | .shl=>if b<0 then none else some (.int k (k.wrap (a *2^(min b.toNat k.bits))))
  | .shr=>if b<0 then none else some (.int k (a.fdiv (2^(min b.toNat k.bits))))
  | .add=>bif decide (k=k') then some (.int k (k.wrap (a+b))) else none
  | .sub=>bif decide (k=k') then some (.int k (k.wrap (a - b))) else none
  | .mul=>bif decide (k=k') then some (.int k (k.wrap (a *b))) else none
  | .and=>bif decide (k=k') then some (.int k (k.wrap (BitVec.ofInt k.bits a&&&BitVec.ofInt k.bits b).toNat)) else none
  | .or=>bif decide (k=k') then some (.int k (k.wrap (BitVec.ofInt k.bits a|||BitVec.ofInt k.bits b).toNat)) else none
  | .xor=>bif decide (k=k') then some (.int k (k.wrap (BitVec.ofInt k.bits a^^^BitVec.ofInt k.bits b).toNat)) else none
  | .andNot=>bif decide (k=k') then some (.int k (k.wrap (BitVec.ofInt k.bits a&&& ~~~ BitVec.ofInt k.bits b).toNat)) else none
  | .eql=>bif decide (k=k') then some (.bool (a==b)) else none
  | .neq=>bif decide (k=k') then some (.bool (a !=b)) else none
  | .lss=>bif decide (k=k') then some (.bool (decide (a<b))) else none
  | .leq=>bif decide (k=k') then some (.bool (decide (a≤b))) else none
  | .gtr=>bif decide (k=k') then some (.bool (decide (a>b))) else none
  | .geq=>bif decide (k=k') then some (.bool (decide (a≥b))) else none
  | _=>none
 | .str a, .str b=>
  match op with
  | .eql=>some (.bool (a==b))
  | .neq=>some (.bool (!(a==b)))
  | _=>none
 | _,_=>none
def SG (P:Program):Nat→List Field→Option (List Bool)
 | _,[]=>some []
 | k, f :: fs => bif f.name != "_" && Nat.beq f.offset k then
   match P.underlying f.type,SG P (k+1) fs with
   | some .bool,some ks=>some (true :: ks)
   | some (.int _),some ks=>some (false :: ks)
   | _,_=>none
  else none
def lI (P:Program):Nat→List Field→Option (List Bool)
 | _,[]=>some []
 | k, f :: fs => bif f.name != "_" && Nat.beq f.offset k then
   match P.underlying f.type with
   | some .bool=>match lI P (k+1) fs with
    | some ks=>some (true :: ks)
    | none=>none
   | some (.int _)=>match lI P (k+1) fs with
    | some ks=>some (false :: ks)
    | none=>none
   | some (.struct gs)=>match SG P 0 gs.toList with
    | some k1=>bif !(P.stoodInHeld f.type)&&decide (vD P f.type=some k1.length) then match lI P (k+k1.length) fs with
      | some ks=>some (k1++ks)
      | none=>none
     else none
    | none=>none
   | _=>none
  else none
def zeU (P:Program) (t:TypeId):Option (List Bool):=
 match P.underlying t with
 | some (.struct fs)=>bif !(P.stoodInHeld t)&&!(P.eqGuardType P.depth t) then lI P 0 fs.toList else none
 | _=>none
def bI (op:BinOp) (x y:V) (K:V→Option R):Option R:=
 match op,x,y with
 | .quo, .int k a, .int k' b=>bif decide (k=k') then (bif b==0 then none else K (.int k (k.wrap (a.tdiv b)))) else none
 | .rem, .int k a, .int k' b=>bif decide (k=k') then (bif b==0 then none else K (.int k (a.tmod b))) else none
 | .shl, .int k a, .int _ b=>bif decide (b<0) then none else K (.int k (k.wrap (a *2^(min b.toNat k.bits))))
 | .shr, .int k a, .int _ b=>bif decide (b<0) then none else K (.int k (a.fdiv (2^(min b.toNat k.bits))))
 | .add, .str a, .str b=>bif decide (a.length+b.length≤bA) then K (.str (a++b)) else none
 | op,x,y=>match wV op x y with
  | some v=>K v
  | none=>none
def unV (op:UnOp):V→Option V
 | .int k n=>match op with
  | .neg=>some (.int k (k.wrap (0 - n)))
  | _=>none
 | .bool b=>match op with
  | .not=>some (.bool (!b))
  | _=>none
 | _=>none
def dN (t:TN):List (List V)→Option (List (El t))
 | []=>some []
 | cs :: r=>match iD t cs with
  | none=>none
  | some a=>match dN t r with
   | none=>none
   | some l=>some (a :: l)
def AC (own:List Nat):Nat→List V→(Nat→Option nA)→Option (List V × (Nat→Option nA))
 | _,[],h=>some ([],h)
 | p,c :: cs,h=>
  bif own.any (Nat.beq p) then
   match c with
   | .ow r=>match h r with
    | some ⟨.arr t l, .own⟩=>match AC own (p+1) cs (uA h r none) with
     | some (cs',h')=>some (.sl t l :: cs',h')
     | none=>none
    | _=>none
   | .nil=>match AC own (p+1) cs h with
    | some (cs',h')=>some (.nil :: cs',h')
    | none=>none
   | .ov r t 0 len=>match h r with
    | some ⟨.arr t' l, .own⟩=>match decide (t'=t),AC own (p+1) cs (uA h r none) with
     | true,some (cs',h')=>some (.sl t' (l.take len) :: cs',h')
     | _,_=>none
    | _=>none
   | _=>none
  else match tE h c with
   | some (c',ids)=>match AC own (p+1) cs (IB h ids) with
    | some (cs',h')=>some (c' :: cs',h')
    | none=>none
   | none=>none
def JA (own:List Nat) (base:Nat):Nat→List V→List V
 | _,[]=>[]
 | p, .sl t l :: vs=>(bif own.any (Nat.beq p) then .ow (base+p) else .sl t l) :: JA own base (p+1) vs
 | p,v :: vs=>v :: JA own base (p+1) vs
def UA (own:List Nat) (base:Nat) (h:Nat→Option nA):Nat→List V→Nat→Option nA
 | _,[]=>h
 | p, .sl t l :: vs=>bif own.any (Nat.beq p) then uA (UA own base h (p+1) vs) (base+p) (some ⟨.arr t l, .own⟩) else UA own base h (p+1) vs
 | p,_ :: vs=>UA own base h (p+1) vs
def ZC:List (Bool × Nat)→List V→List V
 | [],_=>[]
 | (agg,n) :: sh,vs=>(bif agg then .agg (vs.take n) else match vs with | v :: _=>v | []=> .undef) :: ZC sh (vs.drop n)
def RF (sh:List (Bool × Nat)) (vs:List V):V:=
 match ZC sh vs with
 | [v]=>v
 | l=> .tup l
def dO (s:Nat→V):Nat→List (Nat × Operand)→Option (List V)
 | _,[]=>some []
 | i,(j,x) :: r=>bif Nat.beq i j then match dO s (i+1) r with
   | none=>none
   | some vs=>some (opd s x :: vs)
  else none
def zfK (P:Program) (t:TypeId):Option (List (Nat × Nat)):=
 match P.underlying t with
 | some (.struct fs)=>fs.toList.mapM fun f=>(P.info? f.type).map fun i=>(f.offset,i.size)
 | some (.array n e)=>match P.info? e with
  | some i=>bif Nat.ble n 128 then some ((List.range n).map fun k=>(k *i.size,i.size)) else none
  | none=>none
 | _=>none
def kN (pl:List (Nat × Nat)) (s:Nat→V) (cs:List V):List (Nat × Operand)→Option (List V)
 | []=>some cs
 | (f,x) :: r=>match pl[f]? with
  | none=>none
  | some (off,n)=>
   let vs:=cellsOf (opd s x)
   bif Nat.beq n vs.length&&SE vs&&Nat.ble (off+n) cs.length then kN pl s (uG cs off vs) r else none
def zeroCells (P:Program) (t:TypeId):Option (List V):=
 match (P.info? t).bind (·.zero) with
 | some z=>let cs:=z.cells.toList.map xJ;bif SE cs then some cs else none
 | none=>none
def zcl (P:Program) (t:TypeId):Option (List V):=((P.info? t).bind (·.zero)).map fun z=>z.cells.toList.map xJ
def aG (f:Nat→Option R) (i:Int):Nat→Nat→Option R
 | _,0=>none
 | k,n+1=>bif i==(k:Int) then f k else aG f i (k+1) n
def lK (d:Int):Option V→Option Int
 | none=>some d
 | some (.int _ n)=>some n
 | _=>none
def kJ (d:TypeDesc) (tnok:TypeId→TN→Bool) (h:Nat→Option nA) (x:V) (lo hi:Option V) (K:V→Option R):Option R:=
 match vI h x with
 | none=>none
 | some len=>
  match lK 0 lo,lK (len:Int) hi with
  | some a,some b=>
   bif decide (0≤a)&&decide (a≤b)&&decide (b≤(len:Int)) then
    match d,x with
    | .slice e, .sl t l=>gd (tnok e t) (K (.sl t ((l.drop a.toNat).take (b - a).toNat))) none
    | .string, .str s=>K (.str ((s.drop a.toNat).take (b - a).toNat))
    | .slice e, .ow r=>match h r with
     | some ⟨.arr t _,_⟩=>gd (tnok e t) (K (.ov r t a.toNat (b - a).toNat)) none
     | _=>none
    | .slice e, .ov r t off _=>gd (tnok e t) (K (.ov r t (off+a.toNat) (b - a).toNat)) none
    | _,_=>none
   else none
  | _,_=>none
def yF (e:TypeId) (t:TN):Bool:=match C.tn e with
 | some t'=>decide (t'=t)
 | none=>false
def GB:List ZA→List V→(Nat→Option nA)→Option (List V × (Nat→Option nA) × List Nat)
 | [],[],h=>some ([],h,[])
 | .plain :: ks,v :: vs,h=>match OE h v with
  | none=>none
  | some (v',ids)=>match GB ks vs (IB h ids) with
   | none=>none
   | some (as,h',bs)=>some (v' :: as,h',bs)
 | .ptr own :: ks, .bp r 0 :: vs,h=>match h r with
  | some ⟨.box cs, .own⟩=>bif Nat.ble cs.length 127 then match AC own 0 cs (uA h r none) with
   | none=>none
   | some (cs',h')=>match GB ks vs h' with
    | none=>none
    | some (as,h'',bs)=>some (.agg cs' :: as,h'',r :: bs)
   else none
  | _=>none
 | .mv own :: ks, .agg cs :: vs,h=>bif Nat.ble cs.length 127 then match AC own 0 cs h with
   | none=>none
   | some (cs',h')=>match GB ks vs h' with
    | none=>none
    | some (as,h'',bs)=>some (.agg cs' :: as,h'',bs)
  else none
 | _,_,_=>none
def pJ (h:Nat→Option nA):Nat→Option nA:=fun r=>match h r with
 | some ⟨c, .lock⟩=>some ⟨c, .own⟩
 | x=>x
def uB:List ZA→List V→List Nat→List V→(Nat→Option nA)→Nat→Option nA
 | .plain :: ks,_ :: as,bs,vs,h=>uB ks as bs vs h
 | .mv _ :: ks,_ :: as,bs,vs,h=>uB ks as bs vs h
 | .ptr _ :: ks, .agg cs :: as,b :: bs,vs,h=>uA (uB ks as bs (vs.drop cs.length) h) b (some ⟨.box (vs.take cs.length), .own⟩)
 | _,_,_,_,h=>h
def PH (sh:List (Bool × Nat)):Nat:=(sh.map (·.2)).sum
def zbh (f:Nat) (as:List V):Nat:=match as with
 | [_, .fn g _]=>f+(g+1) *1048576
 | _=>f
theorem zqL (f:Nat) (as:List V) (h:f<1048576):zbh f as % 1048576=f:=by
 unfold zbh
 split
 ·rw [Nat.add_mul_mod_self_right];exact Nat.mod_eq_of_lt h
 ·exact Nat.mod_eq_of_lt h
def QE (ci:NB) (as:List V) (bs:List Nat) (i:Nat) (rs:List V) (h:Nat→Option nA):Nat→Option nA:=
 bif ci.pb then uA h i (some ⟨.box rs, .own⟩) else uB ci.ks as bs ((JA ci.own i 0 rs).drop (PH ci.shape)) (UA ci.own i h 0 rs)
def pG (ci:NB) (i:Nat) (rs:List V):V:=bif ci.pb then .bp i 0 else RF ci.shape (JA ci.own i 0 rs)
def EI:V→Bool
 | .int _ _ | .bool _ | .str _=>true
 | _=>false
def ZA.isPlain:ZA→Bool
 | .plain=>true
 | _=>false
def TN.flat:TN→Bool
 | .byte | .int | .bool | .str | .Addr | .Credit | .Timer | .Form=>true
 | _=>false
def gO (own:List Nat):Nat→List V→Bool
 | _,[]=>true
 | p, .sl t _ :: vs=>own.any (Nat.beq p)&&t.flat&&gO own (p+1) vs
 | p,v :: vs=>EI v&&gO own (p+1) vs
def AI (ci:NB) (rs:List V):Bool:=!ci.pb&&ci.ks.all ZA.isPlain&&gO ci.own 0 rs
def TN.rank:TN→Nat
 | .byte | .int | .bool | .str=>0
 | .Cand | .Op=>1
 | .Tab | .Server | .World=>4
 | _=>3
def aD (own:List Nat):Nat→List V→Option Nat
 | _,[]=>some 0
 | p, .sl t _ :: vs=>match aD own (p+1) vs with
  | some m=>some (Nat.max (bif own.any (Nat.beq p) then t.rank else t.rank+1) m)
  | none=>none
 | p, .nil :: vs=>aD own (p+1) vs
 | p,v :: vs=>bif EI v then aD own (p+1) vs else none
def sH (m:Nat) (h h':Nat→Option nA):Nat→Option nA:=fun r=>match h r,h' r with
 | some ⟨.arr t l, .own⟩,some ⟨c, .ro⟩=>bif Nat.ble m t.rank then some ⟨.arr t l, .own⟩ else some ⟨c, .ro⟩
 | _,x=>x
def rH (ci:NB) (rs:List V) (h h':Nat→Option nA):Nat→Option nA:=
 bif AI ci rs then h else bif ci.pb then h' else match aD ci.own 0 rs with
  | some m=>sH m h h'
  | none=>h'
def KG (i:Nat) (dst:Option Nat) (st:St) (f:Nat) (as:List V) (K:St→Option R):Option R:=
 match bif Nat.blt f 1048576 then C.Φ (zbh f as) else none with
 | none=>none
 | some ci=>match GB ci.ks as st.h with
  | none=>match GB ci.ks as (pJ st.h) with
   | none=>none
   | some (as',_,bs)=>
    IG (ci.dA as') fun a=>ob (ci.F a) fun r=>
     gd (Nat.ble (ci.eR r).length 128&&AI ci (ci.eR r)) (
      MA C dst { st with h:=QE ci as' bs i (ci.eR r) st.h } (pG ci i (ci.eR r)) K) none
  | some (as',h',bs)=>
   IG (ci.dA as') fun a=>ob (ci.F a) fun r=>
    gd (Nat.ble (ci.eR r).length 128) (
     MA C dst { st with h:=QE ci as' bs i (ci.eR r) (rH ci (ci.eR r) st.h h') } (pG ci i (ci.eR r)) K) none
def bB (i:Nat) (o:Oper) (st:St) (K:St→Option R):Option R:=
 match o.op with
 | .move x | .assign x=>MA C o.dst st (opd st.s x) K
 | .pick c a b=>match opd st.s c with
  | .bool t=>match opd st.s a,opd st.s b with
   | .bool x, .bool y=>MA C o.dst st (.bool (cond t x y)) K
   | x,y=>MA C o.dst st (cond t x y) K
  | _=>none
 | .alloc e=>match zcl C.P e with
  | some cs=>rD C o.dst st i (.box cs) (.bp i 0) K
  | none=>none
 | .box e x=>
  let cs:=cellsOf (opd st.s x)
  gd (SE cs) (rD C o.dst st i (.box cs) (.bp i 0) K) none
 | .build t parts=>match zeroCells C.P t,zfK C.P t with
  | some cs,some pl=>IG (kN pl st.s cs parts.toList) fun cs'=>MA C o.dst st (.agg cs') K
  | _,_=>none
 | .buildSlice t len parts=>match (mJ C.P t).bind C.tn with
  | none=>none
  | some tn=>match dO st.s 0 parts.toList with
   | none=>none
   | some vs=>gd (Nat.beq vs.length len&&Nat.ble len 1000) (
     match AH st.h vs with
     | none=>none
     | some (vs',ids)=>IG (dN tn (vs'.map cellsOf)) fun l=>
       rD C o.dst { st with h:=IB st.h ids } i (.arr tn l) (.ow i) K) none
 | .load t a=>match kD C.P t,vD C.P t with
  | some ag,some n=>match opd st.s a with
   | .bp r off=>match st.h r with
    | some ⟨.box cs,_⟩=>gE ag n cs off fun v=>MA C o.dst st v K
    | _=>none
   | .ep r t' k off=>match st.h r with
    | some ⟨.arr t'' l,_⟩=>gd (decide (t''=t')) (lS l k fun x=>gE ag n (enc t'' x) off fun v=>MA C o.dst st v K) none
    | _=>none
   | .fp cs off=>gE ag n cs off fun v=>MA C o.dst st v K
   | _=>none
  | _,_=>none
 | .store t a x=>match vD C.P t with
  | none=>none
  | some n=>
   let vs:=cellsOf (opd st.s x)
   gd (Nat.beq n vs.length&&SE vs) (
    match opd st.s a with
    | .bp r off=>match st.h r with
     | some ⟨.box cs, .own⟩=>gd (Nat.ble (off+n) cs.length) (MA C o.dst { st with h:=uA st.h r (some ⟨.box (uG cs off vs), .own⟩) } .undef K) none
     | _=>none
    | .ep r t' k off=>match st.h r with
     | some ⟨.arr t'' l, .own⟩=>gd (decide (t''=t')) (
       match TD st.h vs with
       | none=>none
       | some (vs',ids)=>gd (ids.any (Nat.beq r)) none (
        lS l k fun x=>gd (Nat.ble (off+n) (sz t'')) (
         IG (iD t'' (uG (enc t'' x) off vs')) fun y=>
          MA C o.dst { st with h:=uA (IB st.h ids) r (some ⟨.arr t'' (l.set k y), .own⟩) } .undef K) none)) none
     | _=>none
    | _=>none) none
 | .nilCheck x=>match opd st.s x with
  | .bp r off=>MA C o.dst st (.bp r off) K
  | .ep r t k off=>MA C o.dst st (.ep r t k off) K
  | .fp cs off=>MA C o.dst st (.fp cs off) K
  | .fn f cs=>MA C o.dst st (.fn f cs) K
  | _=>none
 | .binOp op t x y _=>match opd st.s x,opd st.s y with
  | .agg xs, .agg ys=>match zeU C.P t with
   | some ks=>match JC ks xs ys with
    | some b=>match op with
     | .eql=>MA C o.dst st (.bool b) K
     | .neq=>MA C o.dst st (.bool (!b)) K
     | _=>none
    | none=>none
   | none=>none
  | .bool p, .bool q=>match C.P.underlying t with
   | some .bool=>match op with
    | .eql=>MA C o.dst st (.bool (p==q)) K
    | .neq=>MA C o.dst st (.bool (!(p==q))) K
    | _=>none
   | _=>none
  | .ifc b, .nili=>match y,C.P.underlying t with
   | .const _,some (.interface _)=>match op with
    | .eql=>MA C o.dst st (.bool b) K
    | .neq=>MA C o.dst st (.bool (!b)) K
    | _=>none
   | _,_=>none
  | vx,vy=>bI op vx vy fun v=>MA C o.dst st v K
 | .unOp op _ x=>match unV op (opd st.s x) with
  | some v=>MA C o.dst st v K
  | none=>none
 | .convert src d x=>match C.P.underlying src,C.P.underlying d,opd st.s x with
  | some (.int _),some (.int k), .int _ n=>MA C o.dst st (.int k (k.wrap n)) K
  | some .string,some (.slice e), .str s=>match C.tn e,C.P.underlying e with
   | some .byte,some (.int .u8)=>bif Nat.ble s.length bA then rD C o.dst st i (.arr .byte s) (.ow i) K else none
   | _,_=>none
  | some (.slice e),some .string,v=>match C.P.underlying e,eN st.h .byte v with
   | some (.int .u8),some l=>bif Nat.ble l.length bA then MA C o.dst st (.str l) K else none
   | _,_=>none
  | some (.slice _),some (.slice e), .ow r=>match Nat.beq src d,C.P.underlying e,st.h r with
   | true,some (.int .u8),some ⟨.arr .byte (b :: l), .own⟩=>MA C o.dst { st with h:=uA st.h r none } (.sl .byte (b :: l)) K
   | _,_,_=>none
  | _,_,_=>none
 | .makeFunc (.func f) first captured=>gd (first.isEmpty) ( match AH st.h (captured.toList.map (opd st.s)) with
   | some (cs,ids)=>MA C o.dst { st with h:=IB st.h ids } (.fn f cs) K
   | none=>none) none
 | .makeSlice t n c=>match (mJ C.P t).bind C.tn,(mJ C.P t).bind (zeroCells C.P) with
  | some tn,some z=>match opd st.s n,opd st.s c with
   | .int .i64 n, .int .i64 c=>bif decide (0≤n)&&decide (n≤(bA:Int))&&(n==c) then
     IG (iD tn z) fun x=>rD C o.dst st i (.arr tn (List.replicate n.toNat x)) (.ow i) K
    else none
   | _,_=>none
  | _,_=>none
 | .slice t x lo hi mx=>match mx,C.P.underlying t with
  | some _,_ | _,none=>none
  | none,some d=>kJ d (yF C) st.h (opd st.s x) (lo.map (opd st.s)) (hi.map (opd st.s)) fun v=>MA C o.dst st v K
 | .fieldAddr t x f=>match aR C.P t f with
  | none=>none
  | some (off,ft)=>match vD C.P ft with
   | some (_+1)=>match opd st.s x with
    | .bp r o1=>MA C o.dst st (.bp r (o1+off)) K
    | .ep r t' k o1=>MA C o.dst st (.ep r t' k (o1+off)) K
    | .fp cs o1=>MA C o.dst st (.fp cs (o1+off)) K
    | _=>none
   | _=>none
 | .field t x f=>match aR C.P t f,opd st.s x with
  | some (off,ft), .agg cs=>match kD C.P ft,vD C.P ft with
   | some ag,some n=>gE ag n cs off fun v=>MA C o.dst st v K
   | _,_=>none
  | _,_=>none
 | .indexAddr t x ix=>match opd st.s ix with
  | .int _ n=>match C.P.underlying t,opd st.s x with
   | some (.slice e), .sl t' l=>gd (yF C e t') (ob (pA l n) fun a=>MA C o.dst st (.fp (enc t' a) 0) K) none
   | some (.slice e), .ow r=>match st.h r with
    | some ⟨.arr t' l,_⟩=>gd (yF C e t') (bif decide (0≤n)&&decide (n<(l.length:Int)) then MA C o.dst st (.ep r t' n.toNat 0) K else none) none
    | _=>none
   | some (.slice e), .ov r t' off len=>gd (yF C e t') (bif decide (0≤n)&&decide (n<(len:Int)) then MA C o.dst st (.ep r t' (off+n.toNat) 0) K else none) none
   | some (.array m e), .bp r o1=>match vD C.P e with
    | some 1=>aG (fun k=>MA C o.dst st (.bp r (o1+k)) K) n 0 m
    | _=>none
   | _,_=>none
  | _=>none
 | .index t x ix=>match opd st.s ix,C.P.underlying t,opd st.s x with
  | .int _ n,some .string, .str s=>ob (pA s n) fun b=>MA C o.dst st (.int .u8 (b.toNat:Int)) K
  | .int _ n,some (.array m e), .agg cs=>match vD C.P e,kD C.P e with
   | some 1,some false=>aG (fun k=>match cs.drop k with | c :: _=>MA C o.dst st c K | []=>none) n 0 m
   | _,_=>none
  | _,_,_=>none
 | .extract x ix=>match opd st.s x with
  | .tup vs=>match vs.drop ix with
   | v :: _=>MA C o.dst st v K
   | []=>none
  | _=>none
 | .call { callee:= .builtin .len,args,argTypes }=>match args.toList,argTypes.toList with
  | [x],[t]=>match C.P.underlying t,vI st.h (opd st.s x) with
   | some d,some n=>gd (eS d (opd st.s x)) (MA C o.dst st (.int .i64 (n:Int)) K) none
   | _,_=>none
  | _,_=>none
 | .call { callee:= .builtin .append,args,argTypes }=>match args.toList,argTypes.toList with
  | [x,y],[t,t']=>gd (Nat.beq t t') ( match (mJ C.P t).bind C.tn with
   | none=>none
   | some tn=>match FM st.h tn (opd st.s x),eN st.h tn (opd st.s y) with
    | some (l,r),some m=>bif decide (l.length+m.length≤bA) then
      rD C o.dst { st with h:=wJ st.h r } i (.arr tn (l++m)) (.ow i) K
     else none
    | _,_=>none) none
  | _,_=>none
 | .call { callee:= .builtin .min,args,argTypes:=_ }=>match args.toList.map (opd st.s) with
  | [.int k a, .int k' b]=>bif decide (k=k') then MA C o.dst st (.int k (if b<a then b else a)) K else none
  | _=>none
 | .call { callee:= .builtin .max,args,argTypes:=_ }=>match args.toList.map (opd st.s) with
  | [.int k a, .int k' b]=>bif decide (k=k') then MA C o.dst st (.int k (if b>a then b else a)) K else none
  | _=>none
 | .call { callee:= .value x,args,argTypes:=_ }=>match opd st.s x with
  | .fn f cs=>KG C i o.dst st f (args.toList.map (opd st.s)++cs) K
  | _=>none
 | _=>none
end
end Go.D
namespace Go.D
variable [fA]
def HE.isRo:HE→Bool
 | .ro=>true
 | _=>false
structure Wx (w0 w:World):Prop where
 os:w.os=w0.os
 tape:w.tape=w0.tape
 output:w.output=w0.output
 size:w0.heap.size≤w.heap.size
omit [fA] in
theorem Wx.refl (w:World):Wx w w:=⟨rfl,rfl,rfl,Nat.le_refl _⟩
omit [fA] in
theorem Wx.trans {a b c:World} (h:Wx a b) (k:Wx b c):Wx a c:=⟨k.os.trans h.os,k.tape.trans h.tape,k.output.trans h.output,Nat.le_trans h.size k.size⟩
def xC (w:World) (ρ:Nat→Option RI) (bad:Nat→Prop) (ri:RI):nD→Prop
 | .box cs=>ri.nl=false∧∀ j (h:j<cs.length),w.frozen? (xA ri.b j)=false∧∃ u,w.cell? (xA ri.b j)=some u∧VR w ρ bad u cs[j]
 | .arr t l=>ri.n=l.length∧(ri.nl=true∧l=[]∨ri.nl=false∧DD w ri.b t∧ri.n≤ri.cap∧ri.cap≤maxLen∧
   (∀ j,j<ri.cap *sz t→w.frozen? (xA ri.b j)=false∧(w.cell? (xA ri.b j)).isSome=true)∧
   ∀ i (h:i<l.length) j,j<sz t→∃ u,w.cell? (xA ri.b (i *sz t+j))=some u∧VR w ρ bad u ((enc t l[i]).getD j .undef))
def mA (outer:Nat→Prop) (ρ:Nat→Option RI) (h:Nat→Option nA) (b:Nat):Prop:=
 outer b∨∃ r row ri,h r=some row∧row.m.isRo=false∧ρ r=some ri∧ri.nl=false∧ri.b=b
structure aB (w0:World) (outer own:Nat→Prop) (ρ:Nat→Option RI) (h:Nat→Option nA) (w:World):Prop where
 wx:Wx w0 w
 old:∀ b,b<w0.heap.size→¬ own b→w.heap[b]?=w0.heap[b]?
 outLt:∀ b,outer b→b<w0.heap.size∧¬ own b
 rows:∀ r row,h r=some row→∃ ri,ρ r=some ri∧xC w ρ (mA outer ρ h) ri row.c∧
  (ri.nl=false→(¬ outer ri.b∧(row.m.isRo=false→w0.heap.size≤ri.b∨own ri.b))∧ri.b<w.heap.size)
 inj:∀ r r' row row' ri ri',h r=some row→h r'=some row'→ρ r=some ri→ρ r'=some ri'→ri.nl=false→ri'.nl=false→ri.b=ri'.b→r=r'
structure RA (C:Cx) (w0:World) (outer own:Nat→Prop) (ρ:Nat→Option RI) (st:St) (a:Act) (w:World):Prop where
 heap:aB w0 outer own ρ st.h w
 slots:∀ i,VR w ρ (mA outer ρ st.h) (a.tmps.getD i undef) (st.s i)
 size:a.tmps.size=C.nt
 defers:a.defers=[]
 glob:zcm C.g own w0
section
variable {C:Cx} {w0:World} {outer own:Nat→Prop} {ρ:Nat→Option RI} {st:St} {a:Act} {w:World} {h:Nat→Option nA}
omit [fA] in
theorem IA {α:Type} (f:Nat→α) (i:Nat) (v:α):uA f i v i=v:=by simp [uA]
omit [fA] in
theorem vA {α:Type} (f:Nat→α) (i j:Nat) (v:α) (h:j≠i):uA f i v j=f j:=by
 simp only [uA]
 have:Nat.beq j i=false:=by
  cases hb:Nat.beq j i with
  | false=>rfl
  | true=>exact absurd (Nat.eq_of_beq_eq_true hb) h
 rw [this];rfl
omit [fA] in
theorem zqd (a:Act) (d:Nat) (v:Value) (hd:d<a.tmps.size) (i:Nat):
  (a.put (some d) v).tmps.getD i undef=if i=d then v else a.tmps.getD i undef:=by
 simp only [Act.put,Array.getD_eq_getD_getElem?,Array.getElem?_setIfInBounds]
 by_cases h:d=i
 ·subst h;simp [hd]
 ·simp [h,Ne.symm h]
theorem RA.put (hr:RA C w0 outer own ρ st a w) {dst:Option Nat} {v:Value} {d:V} (hv:VR w ρ (mA outer ρ st.h) v d) {st':St}
  (hk:MA C dst st d some=some st'):RA C w0 outer own ρ st' (a.put dst v) w∧st'.h=st.h∧st'.nx=st.nx:=by
 cases dst with
 | none=>simp [MA] at hk;subst hk;exact ⟨hr,rfl,rfl⟩
 | some k=>
  simp only [MA] at hk
  cases hb:Nat.blt k C.nt with
  | false=>simp [hb] at hk
  | true=>
   simp [hb] at hk;subst hk
   have RV:k<a.tmps.size:=by rw [hr.size];simpa [Nat.blt_eq] using hb
   refine ⟨⟨hr.heap,fun i=>?_,by simp [Act.put,hr.size],hr.defers,hr.glob⟩,rfl,rfl⟩
   rw [zqd a k v RV i]
   show VR w ρ _ _ (uA st.s k d i)
   by_cases h:i=k
   ·subst h;rw [if_pos rfl,IA];exact hv
   ·rw [if_neg h,vA _ _ _ _ h];exact hr.slots i
omit [fA] in
theorem mA.mono {h':Nat→Option nA} {b:Nat} (hs:∀ r row',h' r=some row'→row'.m.isRo=false→∃ row,h r=some row∧row.m.isRo=false)
  (hb:mA outer ρ h' b):mA outer ρ h b:=by
 rcases hb with hb | ⟨r,row',ri,h1,h2,h3,h4,h5⟩
 ·exact .inl hb
 ·obtain ⟨row,h6,h7⟩:=hs r row' h1 h2
  exact .inr ⟨r,row,ri,h6,h7,h3,h4,h5⟩
theorem zaB {w:World} {c:Array Value} {e:TypeId} {t:TN} (h:fA.tn e=some t):DD (w.alloc (.cells c e)) w.heap.size t:=
 ⟨c,e,_,by show (w.heap.push _)[w.heap.size]?=_;rw [Array.getElem?_push_size],h⟩
theorem xC.keep {w':World} {ρ':Nat→Option RI} {bad bad':Nat→Prop} {ri:RI} {c:nD} (hr:xC w ρ bad ri c)
  (hw:ri.nl=false→w'.heap[ri.b]?=w.heap[ri.b]?)
  (hv:∀ u d,VR w ρ bad u d→VR w' ρ' bad' u d):xC w' ρ' bad' ri c:=by
 cases c with
 | box cs=>
  refine ⟨hr.1,fun j hj=>?_⟩
  obtain ⟨h1,u,h2,h3⟩:=hr.2 j hj
  have hb:=hw hr.1
  exact ⟨by rw [← h1];simp [World.frozen?,xA,hb],u,by rw [← h2];exact LG hb,hv _ _ h3⟩
 | arr t l=>
  refine ⟨hr.1,?_⟩
  rcases hr.2 with h | ⟨h0,he,h1,h2,h3,h4⟩
  ·exact .inl h
  ·have hb:=hw h0
   refine .inr ⟨h0,he.same hb,h1,h2,fun j hj=>?_,fun i hi j hj=>?_⟩
   ·have:=h3 j hj
    exact ⟨by rw [← this.1];simp [World.frozen?,xA,hb],by rw [← this.2];congr 1;exact LG hb⟩
   ·obtain ⟨u,h5,h6⟩:=h4 i hi j hj
    exact ⟨u,by rw [← h5];exact LG hb,hv _ _ h6⟩
theorem aB.alloc (hh:aB w0 outer own ρ h w) (r:Nat) (hr:ρ r=none) (ri:RI) (hb:ri.nl=false→ri.b=w.heap.size) (w':World) (O0:Wx w w')
  (hw:∀ b,b<w.heap.size→w'.heap[b]?=w.heap[b]?) (eW:ri.nl=false→w.heap.size<w'.heap.size) (c:nD)
  (hc:(∀ u d,VR w ρ (mA outer ρ h) u d→VR w' (uA ρ r (some ri)) (mA outer (uA ρ r (some ri)) (uA h r (some ⟨c, .own⟩))) u d)→
   xC w' (uA ρ r (some ri)) (mA outer (uA ρ r (some ri)) (uA h r (some ⟨c, .own⟩))) ri c):
  aB w0 outer own (uA ρ r (some ri)) (uA h r (some ⟨c, .own⟩)) w'∧
   ∀ u d,VR w ρ (mA outer ρ h) u d→VR w' (uA ρ r (some ri)) (mA outer (uA ρ r (some ri)) (uA h r (some ⟨c, .own⟩))) u d:=by
 have hρ:∀ q qi,ρ q=some qi→uA ρ r (some ri) q=some qi:=fun q qi hq=>by
  rw [vA];exact hq;rintro rfl;simp [hr] at hq
 have hh':∀ q row,h q=some row→q≠r:=fun q row hq=>by
  rintro rfl;obtain ⟨qi,h1,_⟩:=hh.rows q row hq;simp [hr] at h1
 have rW:∀ b,mA outer (uA ρ r (some ri)) (uA h r (some ⟨c, .own⟩)) b→mA outer ρ h b∨w.heap.size≤b:=by
  rintro b (bY | ⟨q,row,qi,h1,h2,h3,h4,h5⟩)
  ·exact .inl (.inl bY)
  ·by_cases hq:q=r
   ·subst hq;rw [IA] at h3;cases h3
    right;rw [← h5,hb h4];exact Nat.le_refl _
   ·rw [vA _ _ _ _ hq] at h1 h3
    exact .inl (.inr ⟨q,row,qi,h1,h2,h3,h4,h5⟩)
 have hv:∀ u d,VR w ρ (mA outer ρ h) u d→VR w' (uA ρ r (some ri)) (mA outer (uA ρ r (some ri)) (uA h r (some ⟨c, .own⟩))) u d:=fun u d hu=>
  hu.mono hρ (fun b _ hb=>hw b hb) rW
 refine ⟨⟨hh.wx.trans O0,fun b hb ho=>(hw b (Nat.lt_of_lt_of_le hb hh.wx.size)).trans (hh.old b hb ho),hh.outLt,?_,?_⟩,hv⟩
 ·intro q row hq
  by_cases qW:q=r
  ·subst qW;rw [IA] at hq;cases hq
   refine ⟨ri,IA _ _ _,hc hv,fun hn=>?_⟩
   rw [hb hn];exact ⟨⟨fun ho=>by have:=(hh.outLt _ ho).1;have:=hh.wx.size;omega,fun _=> .inl hh.wx.size⟩,eW hn⟩
  ·rw [vA _ _ _ _ qW] at hq
   obtain ⟨qi,h1,h2,h3⟩:=hh.rows q row hq
   refine ⟨qi,hρ q qi h1,h2.keep (fun hn=>hw _ (h3 hn).2) hv,fun hn=>⟨(h3 hn).1,Nat.lt_of_lt_of_le (h3 hn).2 O0.size⟩⟩
 ·intro q q' row row' qi qi' h1 h2 h3 h4 h5 h6 h7
  by_cases hq:q=r <;> by_cases MY:q'=r
  ·rw [hq,MY]
  ·subst hq;rw [IA] at h3;cases h3
   rw [vA _ _ _ _ MY] at h2 h4
   obtain ⟨qi'',h8,_,h9⟩:=hh.rows q' row' h2
   rw [h4] at h8;cases h8
   have:=(h9 h6).2;rw [← h7,hb h5] at this;omega
  ·subst MY;rw [IA] at h4;cases h4
   rw [vA _ _ _ _ hq] at h1 h3
   obtain ⟨qi'',h8,_,h9⟩:=hh.rows q row h1
   rw [h3] at h8;cases h8
   have:=(h9 h5).2;rw [h7,hb h6] at this;omega
  ·rw [vA _ _ _ _ hq] at h1 h3;rw [vA _ _ _ _ MY] at h2 h4
   exact hh.inj q q' row row' qi qi' h1 h2 h3 h4 h5 h6 h7
theorem aB.write (hh:aB w0 outer own ρ h w) {r:Nat} {c:nD} {ri:RI} (hr:h r=some ⟨c, .own⟩) (hρ:ρ r=some ri) (hn:ri.nl=false) (w':World)
  (O0:Wx w w') (eW:w'.heap.size=w.heap.size) (hw:∀ b,b≠ri.b→w'.heap[b]?=w.heap[b]?) (c':nD)
  (hc:(∀ u d,VR w ρ (mA outer ρ h) u d→VR w' ρ (mA outer ρ (uA h r (some ⟨c', .own⟩))) u d)→xC w' ρ (mA outer ρ (uA h r (some ⟨c', .own⟩))) ri c'):
  aB w0 outer own ρ (uA h r (some ⟨c', .own⟩)) w'∧∀ u d,VR w ρ (mA outer ρ h) u d→VR w' ρ (mA outer ρ (uA h r (some ⟨c', .own⟩))) u d:=by
 have D4:mA outer ρ h ri.b:= .inr ⟨r,_,ri,hr,rfl,hρ,hn,rfl⟩
 have rW:∀ b,mA outer ρ (uA h r (some ⟨c', .own⟩)) b→mA outer ρ h b:=fun b hb=>hb.mono fun q row' h1 h2=>by
  by_cases hq:q=r
  ·subst hq;exact ⟨_,hr,rfl⟩
  ·rw [vA _ _ _ _ hq] at h1;exact ⟨row',h1,h2⟩
 have hv:∀ u d,VR w ρ (mA outer ρ h) u d→VR w' ρ (mA outer ρ (uA h r (some ⟨c', .own⟩))) u d:=fun u d hu=>
  hu.mono (fun _ _ h=>h) (fun b hb _=>hw b fun e=>hb (e ▸ D4)) fun b hb=> .inl (rW b hb)
 obtain ⟨ri',h6,_,h7⟩:=hh.rows r _ hr
 rw [hρ] at h6;cases h6
 refine ⟨⟨hh.wx.trans O0,fun b hb ho=>?_,hh.outLt,?_,?_⟩,hv⟩
 ·refine (hw b ?_).trans (hh.old b hb ho)
  rintro rfl
  rcases (h7 hn).1.2 rfl with h8 | h8
  ·omega
  ·exact ho h8
 ·intro q row hq
  by_cases qW:q=r
  ·subst qW;rw [IA] at hq;cases hq
   exact ⟨ri,hρ,hc hv,fun _=>by rw [eW];exact h7 hn⟩
  ·rw [vA _ _ _ _ qW] at hq
   obtain ⟨qi,h1,h2,h3⟩:=hh.rows q row hq
   refine ⟨qi,h1,h2.keep (fun J6=>hw _ ?_) hv,fun J6=>by rw [eW];exact h3 J6⟩
   intro e;exact qW (hh.inj q r row _ qi ri hq hr h1 hρ J6 hn e)
 ·intro q q' row row' qi qi' h1 h2 h3 h4 h5 h6 h7
  have:∀ x y,uA h r (some ⟨c', .own⟩) x=some y→∃ z,h x=some z:=fun x y hx=>by
   by_cases hq:x=r
   ·subst hq;exact ⟨_,hr⟩
   ·rw [vA _ _ _ _ hq] at hx;exact ⟨_,hx⟩
  obtain ⟨z,hz⟩:=this _ _ h1;obtain ⟨z',C0⟩:=this _ _ h2
  exact hh.inj q q' z z' qi qi' hz C0 h3 h4 h5 h6 h7
theorem aB.less (hh:aB w0 outer own ρ h w) {h':Nat→Option nA} (hs:∀ r row',h' r=some row'→∃ row,h r=some row∧row.c=row'.c∧(row'.m.isRo=false→row.m.isRo=false)):
  aB w0 outer own ρ h' w∧∀ u d,VR w ρ (mA outer ρ h) u d→VR w ρ (mA outer ρ h') u d:=by
 have rW:∀ b,mA outer ρ h' b→mA outer ρ h b:=fun b hb=>hb.mono fun q row' h1 h2=>by
  obtain ⟨row,h3,_,h4⟩:=hs q row' h1;exact ⟨row,h3,h4 h2⟩
 have hv:∀ u d,VR w ρ (mA outer ρ h) u d→VR w ρ (mA outer ρ h') u d:=fun u d hu=>hu.mono (fun _ _ h=>h) (fun _ _ _=>rfl) fun b hb=> .inl (rW b hb)
 refine ⟨⟨hh.wx,hh.old,hh.outLt,fun r row' hr=>?_,fun q q' row row' qi qi' h1 h2 h3 h4 h5 h6 h7=>?_⟩,hv⟩
 ·obtain ⟨row,h1,h2,h6⟩:=hs r row' hr
  obtain ⟨ri,h3,h4,h5⟩:=hh.rows r row h1
  exact ⟨ri,h3,by rw [← h2];exact h4.keep (fun _=>rfl) hv,fun hn=>⟨⟨(h5 hn).1.1,fun hm=>(h5 hn).1.2 (h6 hm)⟩,(h5 hn).2⟩⟩
 ·obtain ⟨z,hz,_⟩:=hs _ _ h1;obtain ⟨z',C0,_⟩:=hs _ _ h2
  exact hh.inj q q' z z' qi qi' hz C0 h3 h4 h5 h6 h7
theorem aB.world (hh:aB w0 outer own ρ h w) {w':World} (O0:Wx w w') (zX:w'.heap=w.heap):
  aB w0 outer own ρ h w'∧∀ u d,VR w ρ (mA outer ρ h) u d→VR w' ρ (mA outer ρ h) u d:=by
 have hv:∀ u d,VR w ρ (mA outer ρ h) u d→VR w' ρ (mA outer ρ h) u d:=fun u d hu=>hu.mono (fun _ _ h=>h) (fun _ _ _=>by rw [zX]) fun b hb=> .inl hb
 refine ⟨⟨hh.wx.trans O0,fun b hb ho=>by rw [zX];exact hh.old b hb ho,hh.outLt,fun r row hr=>?_,hh.inj⟩,hv⟩
 obtain ⟨ri,h1,h2,h3⟩:=hh.rows r row hr
 exact ⟨ri,h1,h2.keep (fun _=>by rw [zX]) hv,fun hn=>by rw [zX];exact h3 hn⟩
end
end Go.D
namespace Go.D
variable [fA]
section
variable {C:Cx} {w0:World} {outer own:Nat→Prop} {ρ:Nat→Option RI} {st:St} {a:Act} {w:World} {h:Nat→Option nA}
omit [fA] in
theorem ID:∀ (ids:List Nat) (h:Nat→Option nA) (r:Nat),
  IB h ids r=if r ∈ ids then (h r).map (fun row=> { row with m:= .ro }) else h r
 | [],h,r=>by simp [IB]
 | q :: qs,h,r=>by
  rw [IB,ID qs]
  by_cases hq:r=q
  ·subst hq
   rw [IA]
   by_cases hm:r ∈ qs
   ·simp only [hm,if_true,List.mem_cons,or_true,if_true];cases h r <;> rfl
   ·simp [hm]
  ·rw [vA _ _ _ _ hq]
   simp [hq]
omit [fA] in
theorem VN (h:Nat→Option nA) (ids:List Nat):∀ r row',IB h ids r=some row'→∃ row,h r=some row∧row.c=row'.c∧(row'.m.isRo=false→row.m.isRo=false):=by
 intro r row' hr
 rw [ID] at hr
 by_cases hm:r ∈ ids
 ·simp only [hm,if_true,Option.map_eq_some_iff] at hr
  obtain ⟨row,h1,rfl⟩:=hr
  exact ⟨row,h1,rfl,by simp [HE.isRo]⟩
 ·simp only [hm,if_false] at hr;exact ⟨row',hr,rfl,id⟩
theorem aB.mark (hh:aB w0 outer own ρ h w) (ids:List Nat):aB w0 outer own ρ (IB h ids) w∧
  ∀ u d,VR w ρ (mA outer ρ h) u d→VR w ρ (mA outer ρ (IB h ids)) u d:=hh.less (VN h ids)
omit [fA] in
theorem zhw {i j:List Nat} (hs:∀ r ∈ i,r ∈ j) {b:Nat} (hb:mA outer ρ (IB h j) b):mA outer ρ (IB h i) b:=
 hb.mono fun r row' h1 h2=>by
  rw [ID] at h1
  by_cases hm:r ∈ j
  ·simp only [hm,if_true,Option.map_eq_some_iff] at h1
   obtain ⟨row,_,rfl⟩:=h1
   simp [HE.isRo] at h2
  ·simp only [hm,if_false] at h1
   exact ⟨row',by rw [ID,if_neg (fun h=>hm (hs r h))];exact h1,h2⟩
theorem DP {i j:List Nat} (hs:∀ r ∈ i,r ∈ j) {u:Value} {d:V} (hv:VR w ρ (mA outer ρ (IB h i)) u d):VR w ρ (mA outer ρ (IB h j)) u d:=
 hv.mono (fun _ _ h=>h) (fun _ _ _=>rfl) fun _ hb=> .inl (zhw hs hb)
theorem zby (hh:aB w0 outer own ρ h w) {r:Nat} {row:nA} {ri:RI} (hr:h r=some row) (hρ:ρ r=some ri) (hn:ri.nl=false)
  {ids:List Nat} (hm:r ∈ ids):¬ mA outer ρ (IB h ids) ri.b:=by
 obtain ⟨ri',h1,_,h2⟩:=hh.rows r row hr
 rw [hρ] at h1;cases h1
 rintro (hb | ⟨q,row',qi,h3,h4,h5,h6,h7⟩)
 ·exact (h2 hn).1.1 hb
 ·rw [ID] at h3
  by_cases hq:q ∈ ids
  ·simp only [hq,if_true,Option.map_eq_some_iff] at h3
   obtain ⟨_,_,rfl⟩:=h3;simp [HE.isRo] at h4
  ·simp only [hq,if_false] at h3
   exact hq (by rw [hh.inj q r row' row qi ri h3 hr h5 hρ h6 hn h7];exact hm)
def ZB (d:V):Prop:=∀ S:Nat→Prop,lB S d
omit [fA] in
theorem yI (t:TN) (l:List (El t)):ZB (.sl t l):=fun S=> .sl t l fun i _ j _=>CI S t _ j
omit [fA] in
theorem zeu (t:TN) (x:El t) (j:Nat) (hj:j<sz t):((enc t x).getD j .undef).leaf=true:=by
 have h1:=zev t x
 have h2:j<(enc t x).length:=by rw [aC];exact hj
 rw [List.getD_eq_getElem?_getD,List.getElem?_eq_getElem h2,Option.getD_some]
 exact List.all_eq_true.1 h1 _ (List.getElem_mem h2)
theorem zcB {bad:Nat→Prop} {ri:RI} {t:TN} {l:List (El t)} (hr:xC w ρ bad ri (.arr t l)) (hn:ri.nl=false) (hb:¬ bad ri.b)
  (off len cap:Nat) (QV:off+len≤l.length) (Q1:len≤cap) (W0:cap≤maxLen):
  VR w ρ bad (.slice (some (xA ri.b (off *sz t))) len cap) (.sl t ((l.drop off).take len)):=by
 rcases hr.2 with h | ⟨h0,he,h1,h2,h3,h4⟩
 ·rw [hn] at h;cases h.1
 have hl:((l.drop off).take len).length=len:=by simp;omega
 have:=VR.slC (w:=w) (ρ:=ρ) (bad:=bad) t ((l.drop off).take len) ri.b (off *sz t) cap (fun i j=>(w.cell? (xA ri.b (off *sz t+i *sz t+j))).getD undef) hb (by omega) W0 (fun _=> .inr he)
  (fun i hi j hj=>by
   obtain ⟨u,h5,h6⟩:=h4 (off+i) (by omega) j hj
   rw [Nat.add_mul] at h5;rw [h5];rfl)
  (fun i hi j hj=>by
   obtain ⟨u,h5,h6⟩:=h4 (off+i) (by omega) j hj
   rw [Nat.add_mul] at h5;rw [h5,Option.getD_some]
   have:((l.drop off).take len)[i]=l[off+i]'(by omega):=by simp
   rw [this];exact h6)
 rw [hl] at this;exact this
omit [fA] in
theorem hI {t:TN} (e:t=t) (l:List (El t)):TN.cast e l=l:=by cases e;rfl
omit [fA] in
theorem jS:∀ (n:Nat) (d:V),iE n d=true→ZB d∧d.leaf=true
 | 0,d,h=>by simp [iE] at h
 | n+1,d,h=>by
  cases d <;> simp only [iE,List.all_eq_true] at h <;> try (cases h;done)
  ·exact ⟨fun _=> .bool _,rfl⟩
  ·exact ⟨fun _=> .int _ _,rfl⟩
  ·exact ⟨fun _=> .str _,rfl⟩
  ·exact ⟨fun _=> .nil,rfl⟩
  ·exact ⟨yI _ _,rfl⟩
  ·exact ⟨fun S=> .fp _ _ fun j hj=>(jS n _ (h _ (List.getElem_mem hj))).1 S,rfl⟩
  ·exact ⟨fun S=> .fn _ _ fun j hj=>(jS n _ (h _ (List.getElem_mem hj))).1 S,rfl⟩
  ·exact ⟨fun _=> .nili,rfl⟩
  ·exact ⟨fun _=> .ifc _,rfl⟩
theorem za7 (hh:aB w0 outer own ρ h w) {v:Value} {d d':V} {ids:List Nat} (hv:VR w ρ (mA outer ρ h) v d) (hf:tE h d=some (d',ids)):
  VR w ρ (mA outer ρ (IB h ids)) v d'∧ZB d'∧d'.leaf=true:=by
 unfold tE at hf
 split at hf
 ·rename_i r
  split at hf
  ·rename_i t l m hr
   cases hlk:m.isLock <;> simp [hlk] at hf
   obtain ⟨rfl,rfl⟩:=hf
   refine ⟨?_,yI _ _,rfl⟩
   obtain ⟨hh',P9⟩:=hh.mark [r]
   obtain ⟨ri,hρ,dW,g7⟩:=hh.rows r _ hr
   have m7:=dW.keep (fun _=>rfl) P9
   cases hv with
   | ow _ ri' h1 h2 h3 h4=>
    rw [hρ] at h1;cases h1
    have:=zcB m7 h4 (zby hh hr hρ h4 (by simp)) 0 ri.n ri.cap (by have:=dW.1;omega) h2 h3
    have hln:l.length=ri.n:=dW.1.symm
    rw [Nat.zero_mul,List.drop_zero, ← hln,List.take_length,hln] at this
    exact this
   | owN _ ri' ao h1 h2 h3=>
    rw [hρ] at h1;cases h1
    rcases dW.2 with h | ⟨h,_⟩
    ·rw [h.2];exact .slE _ _ _ (Nat.zero_le _)
    ·rw [h3] at h;cases h
  ·cases hf
 ·rename_i r t off len
  split at hf
  ·rename_i t' l m hr
   cases hlk:m.isLock
   case true=>simp [hlk] at hf
   simp only [hlk,cond_false] at hf
   split at hf
   case isFalse=>cases hf
   rename_i e;subst e
   simp only [hI,Option.some.injEq,Prod.mk.injEq] at hf
   obtain ⟨rfl,rfl⟩:=hf
   refine ⟨?_,yI _ _,rfl⟩
   obtain ⟨hh',P9⟩:=hh.mark [r]
   obtain ⟨ri,hρ,dW,g7⟩:=hh.rows r _ hr
   have m7:=dW.keep (fun _=>rfl) P9
   cases hv with
   | ov _ _ _ _ cap ao ri' h1 T9 ha hl hc=>
    rw [hρ] at h1;cases h1
    have hn:=dW.1
    rcases ha with ⟨rfl,_⟩ | ⟨rfl,mW,_⟩
    ·rw [List.take_zero];exact .slE _ _ _ hc
    ·exact zcB m7 mW (zby hh hr hρ mW (by simp)) off len cap (by omega) hl hc
  ·cases hf
 ·cases hb:iE 8 d <;> simp [hb] at hf
  obtain ⟨rfl,rfl⟩:=hf
  exact ⟨hv,jS 8 _ hb⟩
theorem kR (hh:aB w0 outer own ρ h w):∀ {ds ds':List V} {ids:List Nat} {vs:Nat→Value} (_:∀ j (hj:j<ds.length),VR w ρ (mA outer ρ h) (vs j) ds[j])
  (_:TD h ds=some (ds',ids)),ds'.length=ds.length∧∀ j (hj:j<ds'.length),VR w ρ (mA outer ρ (IB h ids)) (vs j) ds'[j]∧ZB ds'[j]∧(ds'[j]).leaf=true
 | [],ds',ids,vs,_,hf=>by
  simp [TD] at hf;obtain ⟨rfl,rfl⟩:=hf;exact ⟨rfl,fun j hj=>by simp at hj⟩
 | d :: ds,ds',ids,vs,hv,hf=>by
  simp only [TD] at hf
  split at hf
  ·cases hf
  ·rename_i d' i h1
   split at hf
   ·cases hf
   ·rename_i ds'' j h2
    simp only [Option.some.injEq,Prod.mk.injEq] at hf
    obtain ⟨rfl,rfl⟩:=hf
    have h3:=za7 hh (hv 0 (by simp)) h1
    have h4:=kR hh (vs:=fun j=>vs (j+1)) (fun j hj=>hv (j+1) (by simp;omega)) h2
    refine ⟨by simp [h4.1],fun k hk=>?_⟩
    cases k with
    | zero=>exact ⟨DP (fun r hr=>by simp [hr]) h3.1,h3.2⟩
    | succ k=>
     have:=h4.2 k (by simpa using hk)
     exact ⟨DP (fun r hr=>by simp [hr]) this.1,this.2⟩
omit [fA] in
theorem zrs {cs:List V} (h:∀ j (hj:j<cs.length),ZB cs[j]):ZB (.agg cs):=fun S=> .agg _ fun j hj=>h j hj S
theorem za9 (hh:aB w0 outer own ρ h w) {v:Value} {d d':V} {ids:List Nat} (hv:VR w ρ (mA outer ρ h) v d) (hf:OE h d=some (d',ids)):
  VR w ρ (mA outer ρ (IB h ids)) v d'∧ZB d':=by
 unfold OE at hf
 split at hf
 ·rename_i cs
  split at hf
  ·rename_i cs' i h1
   simp only [Option.some.injEq,Prod.mk.injEq] at hf
   obtain ⟨rfl,rfl⟩:=hf
   cases hv with
   | agg _ vs hs hv=>
    have:=kR hh (vs:=fun j=>vs.getD j undef) hv h1
    exact ⟨.agg _ _ (by rw [hs,this.1]) fun j hj=>(this.2 j hj).1,zrs fun j hj=>(this.2 j hj).2.1⟩
  ·cases hf
 ·rename_i r off
  split at hf
  ·rename_i cs m hr
   cases hb:(m.isLock||cs.isEmpty)
   case true=>simp [hb] at hf
   simp only [hb,cond_false] at hf
   split at hf
   ·rename_i cs' i h1
    simp only [Option.some.injEq,Prod.mk.injEq] at hf
    obtain ⟨rfl,rfl⟩:=hf
    obtain ⟨ri,hρ,dW,g7⟩:=hh.rows r _ hr
    cases hv with
    | bp _ _ ri' h2 hn=>
     rw [hρ] at h2;cases h2
     have iW:∀ j,j<cs.length→w.cell? (xA ri.b (0+j))=some ((w.cell? (xA ri.b (0+j))).getD undef):=fun j hj=>by
      obtain ⟨_,u,h3,_⟩:=dW.2 j hj
      rw [Nat.zero_add,h3];rfl
     have h4:=kR hh (vs:=fun j=>(w.cell? (xA ri.b (0+j))).getD undef) (fun j hj=>by
      obtain ⟨_,u,h3,h5⟩:=dW.2 j hj
      rw [Nat.zero_add,h3];exact h5) h1
     have Y0:0<cs.length:=by
      cases cs with
      | nil=>simp at hb
      | cons=>simp
     have:=VR.fp (w:=w) (ρ:=ρ) (bad:=mA outer ρ (IB h (r :: i))) cs' off ri.b 0 (fun j=>(w.cell? (xA ri.b (0+j))).getD undef) (by omega)
      (zby hh hr hρ hn (by simp)) (fun j hj=>iW j (by omega)) (fun j hj=>DP (fun q hq=>by simp [hq]) (h4.2 j hj).1)
     rw [Nat.zero_add] at this
     exact ⟨this,fun S=> .fp _ _ fun j hj=>(h4.2 j hj).2.1 S⟩
   ·cases hf
  ·cases hf
 ·have:=za7 hh hv hf
  exact ⟨this.1,this.2.1⟩
theorem za4 (hh:aB w0 outer own ρ h w):∀ {ds ds':List V} {ids:List Nat} {vs:Nat→Value} (_:∀ j (hj:j<ds.length),VR w ρ (mA outer ρ h) (vs j) ds[j])
  (_:AH h ds=some (ds',ids)),ds'.length=ds.length∧∀ j (hj:j<ds'.length),VR w ρ (mA outer ρ (IB h ids)) (vs j) ds'[j]∧ZB ds'[j]
 | [],ds',ids,vs,_,hf=>by
  simp [AH] at hf;obtain ⟨rfl,rfl⟩:=hf;exact ⟨rfl,fun j hj=>by simp at hj⟩
 | d :: ds,ds',ids,vs,hv,hf=>by
  simp only [AH] at hf
  split at hf
  ·cases hf
  ·rename_i d' i h1
   split at hf
   ·cases hf
   ·rename_i ds'' j h2
    simp only [Option.some.injEq,Prod.mk.injEq] at hf
    obtain ⟨rfl,rfl⟩:=hf
    have h3:=za9 hh (hv 0 (by simp)) h1
    have h4:=za4 hh (vs:=fun j=>vs (j+1)) (fun j hj=>hv (j+1) (by simp;omega)) h2
    refine ⟨by simp [h4.1],fun k hk=>?_⟩
    cases k with
    | zero=>exact ⟨DP (fun r hr=>by simp [hr]) h3.1,h3.2⟩
    | succ k=>
     have:=h4.2 k (by simpa using hk)
     exact ⟨DP (fun r hr=>by simp [hr]) this.1,this.2⟩
theorem VR.noRef {bad:Nat→Prop} {u:Value} {d:V} (hv:VR w ρ bad u d) (hd:ZB d) (ρ':Nat→Option RI):VR w ρ' bad u d:=
 hv.keep (S:=fun _=>False) (hd _) (fun _ _ h=>h.elim) (fun _ _ _=>rfl) fun _ h=> .inl h
end
end Go.D
namespace Go.D
variable [fA]
section
variable {C:Cx} {w0:World} {outer own:Nat→Prop} {ρ:Nat→Option RI} {st st':St} {a:Act} {w:World} {h:Nat→Option nA}
theorem fS {bad:Nat→Prop} (v:Value):VR w ρ bad v (xJ v):=by
 unfold xJ
 split
 ·exact .bool _
 ·rename_i k n
  cases hb:(decide (k.min≤n)&&decide (n≤k.max))
  ·exact .undef _
  ·simp at hb;exact .int _ _ hb
 ·rename_i s
  cases hb:Nat.ble s.data.toList.length 1000000
  ·exact .undef _
  ·have:=Nat.le_of_ble_eq_true hb
   have h2:(⟨s.data.toList.toArray⟩:ByteArray)=s:=by cases s;simp
   have h3:=VR.str (w:=w) (ρ:=ρ) (bad:=bad) s.data.toList (by unfold maxLen;omega)
   rw [h2] at h3;exact h3
 ·exact .nil
 ·exact .nili
 ·exact .undef _
theorem RA.opd (hr:RA C w0 outer own ρ st a w) (x:Operand):VR w ρ (mA outer ρ st.h) (a.eval x) (opd st.s x):=by
 cases x with
 | tmp t=>exact hr.slots t
 | const v=>exact fS v
 | global g=>exact .undef _
 | func f=>exact .fn f [] #[] rfl fun j hj=>by simp at hj
def OB (P:Program) (o:Oper) (a:Act) (w:World) (post:Act→World→Prop):Prop:=
 ∀ next Q,(∀ a' w',post a' w'→next a' w')→o.wp P a w next Q
omit [fA] in
theorem yB {P:Program} {o:Oper} {v:Value} {w':World} {post:Act→World→Prop} (KV:(execOp a.eval o).run P w= .ok (.value v) w')
  (hp:post (a.put o.dst v) w'):OB P o a w post:=fun next Q hn=>by
 unfold Oper.wp;rw [KV,Oper.upon_value];exact hn _ _ hp
omit [fA] in
theorem zep {P:Program} {o:Oper} {w':World} {post:Act→World→Prop} (KV:(execOp a.eval o).run P w= .ok .skip w')
  (hp:post (a.put o.dst undef) w'):OB P o a w post:=fun next Q hn=>by
 unfold Oper.wp;rw [KV,Oper.upon_skip];exact hn _ _ hp
def Ext (i:Nat) (ρ ρ':Nat→Option RI):Prop:=∀ r,¬ (i≤r∧r<i+128)→ρ' r=ρ r
def KB (C:Cx) (w0:World) (outer own:Nat→Prop) (i:Nat) (ρ:Nat→Option RI) (st':St) (a':Act) (w':World):Prop:=
 ∃ ρ',RA C w0 outer own ρ' st' a' w'∧Ext i ρ ρ'∧∀ r ri,ρ r=some ri→ρ' r=some ri
theorem RA.after (hr:RA C w0 outer own ρ st a w) {i:Nat} {dst:Option Nat} {v:Value} {d:V} (hv:VR w ρ (mA outer ρ st.h) v d)
  (hk:MA C dst st d some=some st'):KB C w0 outer own i ρ st' (a.put dst v) w:=
 ⟨ρ,(hr.put hv hk).1,fun _ _=>rfl,fun _ _ h=>h⟩
theorem RA.turn (hr:RA C w0 outer own ρ st a w) {ρ':Nat→Option RI} {h':Nat→Option nA} {w':World} (hh:aB w0 outer own ρ' h' w')
  (hv:∀ u d,VR w ρ (mA outer ρ st.h) u d→VR w' ρ' (mA outer ρ' h') u d):RA C w0 outer own ρ' { st with h:=h' } a w':=
 ⟨hh,fun i=>hv _ _ (hr.slots i),hr.size,hr.defers,hr.glob⟩
omit [fA] in
theorem JP (w:World) (o:Obj):Wx w (w.alloc o):=⟨rfl,rfl,rfl,by simp⟩
omit [fA] in
theorem zhc (w:World):Wx w w.drew:=⟨rfl,rfl,rfl,Nat.le_refl _⟩
omit [fA] in
theorem oN (w:World) (o:Obj) (b:Nat) (hb:b<w.heap.size):(w.alloc o).heap[b]?=w.heap[b]?:=by
 show (w.heap.push o)[b]?=_
 rw [Array.getElem?_push,if_neg (by omega)]
theorem RA.newRow (hr:RA C w0 outer own ρ st a w) {i:Nat} (hi:ρ i=none) (ri:RI) (hb:ri.nl=false→ri.b=w.heap.size) (w':World) (O0:Wx w w')
  (hw:∀ b,b<w.heap.size→w'.heap[b]?=w.heap[b]?) (eW:ri.nl=false→w.heap.size<w'.heap.size) {c:nD} {dst:Option Nat} {v:Value} {d:V}
  (hc:∀ bad,(∀ u d,VR w ρ (mA outer ρ st.h) u d→VR w' (uA ρ i (some ri)) bad u d)→xC w' (uA ρ i (some ri)) bad ri c)
  (hv:∀ bad,VR w' (uA ρ i (some ri)) bad v d) (hk:rD C dst st i c d some=some st'):KB C w0 outer own i ρ st' (a.put dst v) w':=by
 obtain ⟨h1,h2⟩:=hr.heap.alloc i hi ri hb w' O0 hw eW c (hc _)
 refine ⟨_,((hr.turn h1 h2).put (hv _) hk).1,fun r hn=>vA _ _ _ _ ?_,fun r qi hq=>?_⟩
 ·rintro rfl;exact hn ⟨Nat.le_refl _,by omega⟩
 ·rw [vA];exact hq;rintro rfl;simp [hi] at hq
theorem bV {bad:Nat→Prop} {v:Value} {d:V} (hv:VR w ρ bad v d) (hl:SE (cellsOf d)=true):
  v.cells.size=(cellsOf d).length∧(∀ j (hj:j<(cellsOf d).length),VR w ρ bad (v.cells.getD j undef) (cellsOf d)[j])∧∀ u ∈ v.cells.toList,u.oneCell'=true:=by
 by_cases ha:∃ cs,d= .agg cs
 ·obtain ⟨cs,rfl⟩:=ha
  cases hv with
  | agg _ vs hs hv=>
   refine ⟨hs,hv,fun u hu=>?_⟩
   obtain ⟨j,hj,rfl⟩:=List.mem_iff_getElem.1 hu
   have DX:j<vs.size:=by simpa [Value.cells] using hj
   have h1:=hv j (by omega)
   simp only [cellsOf] at hl
   have h2:=List.all_eq_true.1 hl cs[j] (List.getElem_mem (by omega))
   have h3:=h1.one h2
   rw [Array.getD_eq_getD_getElem?,Array.getElem?_eq_getElem DX] at h3
   simpa [Value.cells] using h3
 ·have hc:cellsOf d=[d]:=by cases d <;> first | rfl | exact absurd ⟨_,rfl⟩ ha
  rw [hc] at hl ⊢
  have hd:d.leaf=true:=by simpa [SE] using hl
  have h1:=hv.one hd
  have hcv:v.cells= #[v]:=by cases v <;> first | rfl | (simp [Value.oneCell'] at h1)
  rw [hcv]
  refine ⟨rfl,fun j hj=>?_,fun u hu=>?_⟩
  ·simp at hj;subst hj;exact hv
  ·simp at hu;subst hu;exact h1
omit [fA] in
theorem eJ (w:World) (c:Array Value) (e:TypeId) (j:Nat) (hj:j<c.size):(w.alloc (.cells c e)).cell? (xA w.heap.size j)=some (c.getD j undef):=by
 rw [xA,World.cell?_alloc_new,Array.getD_eq_getD_getElem?,Array.getElem?_eq_getElem hj];rfl
theorem zhF {bad bad':Nat→Prop} {ρ':Nat→Option RI} {c:Array Value} {e:TypeId} {cs:List V} {ri:RI} (hn:ri.nl=false) (hb:ri.b=w.heap.size) (hs:c.size=cs.length)
  (hv:∀ j (hj:j<cs.length),VR w ρ bad (c.getD j undef) cs[j]) (hk:∀ u d,VR w ρ bad u d→VR (w.alloc (.cells c e)) ρ' bad' u d):
  xC (w.alloc (.cells c e)) ρ' bad' ri (.box cs):=by
 refine ⟨hn,fun j hj=>?_⟩
 rw [hb]
 exact ⟨World.frozen?_alloc_new _ _ _ _,_,eJ w c e j (by omega),hk _ _ (hv j hj)⟩
theorem zfx (hr:RA C w0 outer own ρ st a w) {i:Nat} (hi:ρ i=none) {v:Value} {e:TypeId} {cs:List V} (hs:v.cells.size=cs.length)
  (hv:∀ j (hj:j<cs.length),VR w ρ (mA outer ρ st.h) (v.cells.getD j undef) cs[j]) {dst:Option Nat} (hk:rD C dst st i (.box cs) (.bp i 0) some=some st'):
  KB C w0 outer own i ρ st' (a.put dst (.pointer (some ⟨w.heap.size,0,none⟩))) (w.alloc (.cells v.cells e)):=
 hr.newRow hi ⟨w.heap.size,0,0,false⟩ (fun _=>rfl) _ (JP _ _) (fun b hb=>oN _ _ _ hb) (fun _=>by simp)
  (fun bad JY=>zhF rfl rfl hs hv JY) (fun bad=> .bp i 0 ⟨w.heap.size,0,0,false⟩ (IA _ _ _) rfl) hk
variable {o:Oper} {i:Nat} (hr:RA C w0 outer own ρ st a w)
include hr
theorem zfE (x:Operand) (ho:o.op= .move x∨o.op= .assign x) (hk:MA C o.dst st (opd st.s x) some=some st'):
  OB C.P o a w (KB C w0 outer own i ρ st'):=
 yB (v:=a.eval x) (w':=w) (by rcases ho with ho | ho <;> simp [execOp,ho]) (hr.after (hr.opd x) hk)
theorem zrV (c x y:Operand) (ho:o.op= .pick c x y) (t p q:Bool) (hc:opd st.s c= .bool t) (hx:opd st.s x= .bool p) (hy:opd st.s y= .bool q)
  (hk:MA C o.dst st (.bool (cond t p q)) some=some st'):OB C.P o a w (KB C w0 outer own i ρ st'):=by
 have h1:=hr.opd c;rw [hc] at h1
 have h2:=hr.opd x;rw [hx] at h2
 have h3:=hr.opd y;rw [hy] at h3
 generalize hec:a.eval c=vc at h1
 generalize hex:a.eval x=vx at h2
 generalize hey:a.eval y=vy at h3
 cases h1;cases h2;cases h3
 refine yB (v:= .bool (cond t p q)) (w':=w) ?_ (hr.after (.bool _) hk)
 simp [execOp,ho,hec,hex,hey,asBool]
theorem zrA (e:TypeId) (ho:o.op= .alloc e) (hi:ρ i=none) (cs:List V) (hz:zcl C.P e=some cs) (hk:rD C o.dst st i (.box cs) (.bp i 0) some=some st'):
  OB C.P o a w (KB C w0 outer own i ρ st'):=by
 unfold zcl at hz
 cases C0:(C.P.info? e).bind (·.zero) with
 | none=>rw [C0] at hz;cases hz
 | some z=>
  rw [C0] at hz
  simp only [Option.map_some,Option.some.injEq] at hz
  subst hz
  obtain ⟨info,cZ,lX⟩:=Option.bind_eq_some_iff.1 C0
  refine yB (w':=w.alloc (.cells z.cells e)) ?_ (zfx hr hi (v:=z) (e:=e) (by simp) (fun j hj=>?_) hk)
  ·simp [execOp,ho,Instr.alloc,zeroValue,typeInfo,cZ,lX,newVar,newRow]
  ·rw [List.getElem_map]
   have DX:j<z.cells.size:=by simpa using hj
   rw [Array.getD_eq_getD_getElem?,Array.getElem?_eq_getElem DX]
   exact fS _
theorem zrD (e:TypeId) (x:Operand) (ho:o.op= .box e x) (hi:ρ i=none) (hl:SE (cellsOf (opd st.s x))=true)
  (hk:rD C o.dst st i (.box (cellsOf (opd st.s x))) (.bp i 0) some=some st'):OB C.P o a w (KB C w0 outer own i ρ st'):=by
 obtain ⟨h1,h2,h3⟩:=bV (hr.opd x) hl
 refine yB (w':=w.alloc (.cells (a.eval x).cells e)) ?_ (zfx hr hi (v:=a.eval x) (e:=e) h1 h2 hk)
 simp [execOp,ho,Instr.box,newVar,newRow]
omit hr
def NM (w:World) (ρ:Nat→Option RI) (bad:Nat→Prop) (b o:Nat) (cs:List V):Prop:=
 ∀ j (hj:j<cs.length),∃ u,w.cell? (xA b (o+j))=some u∧VR w ρ bad u cs[j]
omit [fA] in
theorem aE (b o n:Nat):(xA b o).add n=xA b (o+n):=Addr.add_lit b o n
omit [fA] in
theorem LD {P:Program} {t:TypeId} {d:TypeDesc} (h:P.underlying t=some d):(underlying t).run P w= .ok d w:=by
 simp [underlying,h]
omit [fA] in
theorem eL {P:Program} {t:TypeId} {ag:Bool} (h:kD P t=some ag):(isAgg t).run P w= .ok ag w:=by
 unfold kD at h
 unfold isAgg
 split at h
 ·rename_i hu;cases h;simp [underlying,hu]
 ·rename_i hu;cases h;simp [underlying,hu]
 ·rename_i d h1 h2 hu
  cases h
  rw [Sem.run_bind,LD hu,Result.andThen_ok]
  cases d <;> first | rfl | (exfalso;exact h1 _ rfl) | (exfalso;exact h2 _ _ rfl)
 ·cases h
omit [fA] in
theorem QH {P:Program} {t:TypeId} {n:Nat} (h:vD P t=some n):(sizeOf t).run P w= .ok n w:=by
 unfold vD at h
 obtain ⟨i,h1,h2⟩:=Option.map_eq_some_iff.1 h
 simp [sizeOf,typeInfo,h1,h2]
theorem zfk {P:Program} {bad:Nat→Prop} {t:TypeId} {ag:Bool} {n b o off:Nat} {cs:List V} {R:Type} {K:V→Option R} {r:R} (h1:kD P t=some ag) (h2:vD P t=some n)
  (hc:NM w ρ bad b o cs) (hk:gE ag n cs off K=some r):
  ∃ d v,K d=some r∧VR w ρ bad v d∧(loadVar t (xA b (o+off))).run P w= .ok v w:=by
 unfold gE at hk
 cases ag with
 | true=>
  simp only [XB] at hk
  cases hb:Nat.ble (off+n) cs.length
  case false=>simp [hb] at hk
  simp only [hb,XB] at hk
  have AW:=Nat.le_of_ble_eq_true hb
  have iW:∀ j,j<n→w.cell? ((xA b (o+off)).add j)=some ((w.cell? (xA b (o+off+j))).getD undef):=fun j hj=>by
   obtain ⟨u,h3,_⟩:=hc (off+j) (by omega)
   rw [aE,show o+off+j=o+(off+j) by omega,h3];rfl
  refine ⟨_, .agg ((List.range n).map fun j=>(w.cell? (xA b (o+off+j))).getD undef).toArray,hk,?_,?_⟩
  ·refine .agg _ _ (by simp;omega) fun j hj=>?_
   have hjn:j<n:=by simp at hj;omega
   obtain ⟨u,h3,h4⟩:=hc (off+j) (by omega)
   have he:((cs.drop off).take n)[j]=cs[off+j]'(by omega):=by simp
   rw [he]
   have hg:(((List.range n).map fun j=>(w.cell? (xA b (o+off+j))).getD undef).toArray.getD j undef)=u:=by
    simp [hjn,show o+off+j=o+(off+j) by omega,h3]
   rw [hg];exact h4
  ·simp only [loadVar,Sem.run_bind,eL h1,Result.andThen_ok,Sem.run_ite,if_true,QH h2,run_loadCells w _ n _ iW,Sem.run_pure]
 | false=>
  simp only [CK] at hk
  split at hk
  ·rename_i c r' hd
   have RV:off<cs.length:=by
    rcases Nat.lt_or_ge off cs.length with h | h
    ·exact h
    ·rw [List.drop_eq_nil_of_le h] at hd;cases hd
   have L5:cs[off]=c:=by
    rw [List.drop_eq_getElem_cons RV] at hd;exact (List.cons.inj hd).1
   obtain ⟨u,h3,h4⟩:=hc off RV
   refine ⟨c,u,hk,by rw [← L5];exact h4,?_⟩
   simp only [loadVar,Sem.run_bind,eL h1,Result.andThen_ok,Sem.run_ite,Bool.false_eq_true,if_false,run_load,h3]
  ·cases hk
omit [fA] in
theorem zeZ (w:World) (x:Addr) (u:Value) (b:Nat) (h:b≠x.block):(w.setCell x u).heap[b]?=w.heap[b]?:=by
 simp only [World.setCell,Array.getElem?_modify]
 rw [if_neg (by omega)]
omit [fA] in
theorem qR:∀ (vs:List Value) (o:Nat) (w:World) (b b':Nat),b'≠b→(w.setCells b o vs).heap[b']?=w.heap[b']?
 | [],_,_,_,_,_=>rfl
 | v :: vs,o,w,b,b',h=>by
  rw [World.setCells,qR vs _ _ b b' h,zeZ _ _ _ _ (by simpa using h)]
theorem zpB {w:World} {x:Addr} {u:Value} {b:Nat} {t:TN} (h:DD w b t):DD (w.setCell x u) b t:=by
 obtain ⟨c,e,z,h1,h2⟩:=h
 by_cases hb:x.block=b
 ·refine ⟨if x.spot.isSome then c else c.setIfInBounds x.off u,e,z,?_,h2⟩
  simp only [World.setCell,Array.getElem?_modify,hb,if_true,h1,Option.map_some]
 ·exact ⟨c,e,z,(zeZ w x u b (Ne.symm hb)).trans h1,h2⟩
theorem zaC:∀ (vs:List Value) (o:Nat) {w:World} {b b':Nat} {t:TN},DD w b' t→DD (w.setCells b o vs) b' t
 | [],_,_,_,_,_,h=>h
 | v :: vs,o,w,b,b',t,h=>by
  rw [World.setCells];exact zaC vs _ (zpB h)
omit [fA] in
theorem JS:∀ (vs:List Value) (o:Nat) (w:World) (b:Nat),(w.setCells b o vs).heap.size=w.heap.size
 | [],_,_,_=>rfl
 | v :: vs,o,w,b=>by rw [World.setCells,JS vs];simp
omit [fA] in
theorem mV:∀ (vs:List Value) (o:Nat) (w:World) (b:Nat),Wx w (w.setCells b o vs)
 | [],_,_,_=>Wx.refl _
 | v :: vs,o,w,b=>by
  rw [World.setCells]
  exact Wx.trans (b:=w.setCell ⟨b,o,none⟩ v) ⟨rfl,rfl,rfl,by simp⟩ (mV vs _ _ _)
omit [fA] in
theorem zb4 (cs:List V) (off:Nat) (vs:List V) (AW:off+vs.length≤cs.length):(uG cs off vs).length=cs.length∧
  ∀ j (hj:j<cs.length) (DX:j<(uG cs off vs).length),(uG cs off vs)[j]=if h:off≤j∧j<off+vs.length then vs[j - off]'(by omega) else cs[j]:=by
 have QV:(uG cs off vs).length=cs.length:=by simp [uG];omega
 refine ⟨QV,fun j hj DX=>?_⟩
 simp only [uG,List.append_assoc]
 by_cases h1:j<off
 ·rw [List.getElem_append_left (by simp;omega),dif_neg (by omega)];simp
 ·rw [List.getElem_append_right (by simp;omega)]
  by_cases h2:j<off+vs.length
  ·rw [List.getElem_append_left (by simp;omega),dif_pos ⟨by omega,h2⟩]
   congr 1;simp;omega
  ·rw [List.getElem_append_right (by simp;omega),dif_neg (by omega)]
   simp;congr 1;omega
omit [fA] in
theorem zgS {P:Program} {t:TypeId} {n b o:Nat} {v:Value} (h2:vD P t=some n) (hs:v.cells.size=n) (h1:∀ u ∈ v.cells.toList,u.oneCell'=true)
  (hc:∀ j,j<n→(w.cell? (xA b (o+j))).isSome=true) (hf:∀ j,j<n→w.frozen? (xA b (o+j))=false):
  (storeVar t (xA b o) v).run P w= .ok () (w.setCells b o v.cells.toList):=by
 have O4:=run_storeCells_cells (P:=P) b o v.cells.toList 0 w (fun j hj=>by rw [Nat.add_zero];exact hc j (by simpa [hs] using hj)) (fun j hj=>by rw [Nat.add_zero];exact hf j (by simpa [hs] using hj)) h1
 simp only [Nat.add_zero] at O4
 simp [storeVar,QH h2,hs]
 exact O4
end
end Go.D
namespace Go.D
variable [fA]
section
variable {C:Cx} {w0:World} {outer own:Nat→Prop} {ρ:Nat→Option RI} {st st':St} {a:Act} {w:World} {h:Nat→Option nA}
theorem AV {bad:Nat→Prop} {r off:Nat} {cs:List V} {ri:RI} {v:Value} (hρ:ρ r=some ri) (dW:xC w ρ bad ri (.box cs)) {bad':Nat→Prop} (hv:VR w ρ bad' v (.bp r off)):
  v= .pointer (some (xA ri.b (0+off)))∧NM w ρ bad ri.b 0 cs:=by
 cases hv with
 | bp _ _ ri' h1 h2=>
  rw [hρ] at h1;cases h1
  refine ⟨by rw [Nat.zero_add],fun j hj=>?_⟩
  obtain ⟨_,u,h3,h4⟩:=dW.2 j hj
  exact ⟨u,by rw [Nat.zero_add];exact h3,h4⟩
omit [fA] in
theorem qJ {α:Type} (l:List α) (j:Nat) (d:α) (hj:j<l.length):l.getD j d=l[j]:=by
 rw [List.getD_eq_getElem?_getD,List.getElem?_eq_getElem hj,Option.getD_some]
theorem zeD {bad:Nat→Prop} {r k off:Nat} {t:TN} {l:List (El t)} {ri:RI} {v:Value} (hρ:ρ r=some ri) (dW:xC w ρ bad ri (.arr t l)) {x:El t} (hx:l[k]?=some x)
  {bad':Nat→Prop} (hv:VR w ρ bad' v (.ep r t k off)):v= .pointer (some (xA ri.b (k *sz t+off)))∧NM w ρ bad ri.b (k *sz t) (enc t x)∧ri.nl=false:=by
 cases hv with
 | ep _ _ _ _ ri' h1 h2=>
  rw [hρ] at h1;cases h1
  refine ⟨rfl,fun j hj=>?_,h2⟩
  rcases dW.2 with h | ⟨h0,_,_,_,_,h4⟩
  ·rw [h2] at h;cases h.1
  ·obtain ⟨hk,rfl⟩:=List.getElem?_eq_some_iff.1 hx
   have DX:j<sz t:=by rw [← aC t l[k]];exact hj
   obtain ⟨u,h5,h6⟩:=h4 k hk j DX
   rw [qJ _ _ _ hj] at h6
   exact ⟨u,h5,h6⟩
theorem zp9 {bad:Nat→Prop} {cs:List V} {off:Nat} {v:Value} (hv:VR w ρ bad v (.fp cs off)):
  ∃ b o,v= .pointer (some (xA b (o+off)))∧NM w ρ bad b o cs:=by
 cases hv with
 | fp _ _ b o u h0 hb hu hv=>exact ⟨b,o,rfl,fun j hj=>⟨_,hu j hj,hv j hj⟩⟩
omit [fA] in
theorem vB.get {cs ds:List V} (h:vB cs ds):∀ (j:Nat) (hj:j<cs.length) (DX:j<ds.length),dF cs[j] ds[j]:=by
 induction h with
 | nil=>intro j hj;simp at hj
 | cons h1 h2 ih=>
  intro j hj DX
  cases j with
  | zero=>exact h1
  | succ j=>exact ih j (by simpa using hj) (by simpa using DX)
omit [fA] in
theorem vB.len {cs ds:List V} (h:vB cs ds):cs.length=ds.length:=by
 induction h with
 | nil=>rfl
 | cons _ _ ih=>simp [ih]
variable {o:Oper} {i:Nat} (hr:RA C w0 outer own ρ st a w)
include hr
theorem zbz (t:TypeId) (x:Operand) (ho:o.op= .load t x) {ag:Bool} {n b p off:Nat} {cs:List V} (h1:kD C.P t=some ag) (h2:vD C.P t=some n)
  (hx:a.eval x= .pointer (some (xA b (p+off)))) (hc:NM w ρ (mA outer ρ st.h) b p cs) (hk:gE ag n cs off (fun v=>MA C o.dst st v some)=some st'):
  OB C.P o a w (KB C w0 outer own i ρ st'):=by
 obtain ⟨d,v,h3,h4,h5⟩:=zfk h1 h2 hc hk
 refine yB (v:=v) (w':=w) ?_ (hr.after h4 h3)
 simp [execOp,ho,hx,Instr.loadAt,Instr.sureAddr,h5]
theorem qG {r:Nat} {c:nD} {m:HE} (h1:st.h r=some ⟨c,m⟩):∃ ri,ρ r=some ri∧xC w ρ (mA outer ρ st.h) ri c:=by
 obtain ⟨ri,h2,h3,_⟩:=hr.heap.rows r _ h1
 exact ⟨ri,h2,h3⟩
theorem zrP (t:TypeId) (x:Operand) (ho:o.op= .load t x) (hk:bB C i o st some=some st'):OB C.P o a w (KB C w0 outer own i ρ st'):=by
 simp only [bB,ho] at hk
 split at hk
 case h_2=>cases hk
 rename_i ag n h1 h2
 have hx:=hr.opd x
 split at hk
 ·rename_i r off nW
  rw [nW] at hx
  split at hk
  ·rename_i cs m LV
   obtain ⟨ri,hρ,dW⟩:=qG hr LV
   obtain ⟨e1,e2⟩:=AV hρ dW hx
   exact zbz hr t x ho h1 h2 e1 e2 hk
  ·cases hk
 ·rename_i r t' k off nW
  rw [nW] at hx
  split at hk
  ·rename_i t'' l m LV
   obtain ⟨ri,hρ,dW⟩:=qG hr LV
   by_cases ht:t''=t'
   ·subst ht
    simp only [decide_true,XB,lS,Option.bind_eq_some_iff] at hk
    obtain ⟨y,hy,hk⟩:=hk
    obtain ⟨e1,e2,_⟩:=zeD hρ dW hy hx
    exact zbz hr t x ho h1 h2 e1 e2 hk
   ·simp [ht] at hk
  ·cases hk
 ·rename_i cs off nW
  rw [nW] at hx
  obtain ⟨b,p,e1,e2⟩:=zp9 hx
  exact zbz hr t x ho h1 h2 e1 e2 hk
 ·cases hk
theorem zrY (t:TypeId) (x y:Operand) (ho:o.op= .store t x y) (hk:bB C i o st some=some st'):OB C.P o a w (KB C w0 outer own i ρ st'):=by
 simp only [bB,ho] at hk
 split at hk
 ·cases hk
 rename_i n h2
 cases hb:(Nat.beq n (cellsOf (opd st.s y)).length&&SE (cellsOf (opd st.s y)))
 case false=>simp [hb] at hk
 simp only [hb,XB] at hk
 simp only [Bool.and_eq_true] at hb
 have hn:n=(cellsOf (opd st.s y)).length:=Nat.eq_of_beq_eq_true hb.1
 obtain ⟨hs,cY,G3⟩:=bV (hr.opd y) hb.2
 have hx:=hr.opd x
 split at hk
 ·rename_i r off nW
  rw [nW] at hx
  split at hk
  ·rename_i cs LV
   cases AW:Nat.ble (off+n) cs.length
   case false=>simp [AW] at hk
   simp only [AW,XB] at hk
   have AW:=Nat.le_of_ble_eq_true AW
   obtain ⟨ri,hρ,dW⟩:=qG hr LV
   obtain ⟨e1,e2⟩:=AV hρ dW hx
   rw [Nat.zero_add] at e1
   have iW:∀ j,j<n→(w.cell? (xA ri.b (off+j))).isSome=true:=fun j hj=>by
    obtain ⟨_,u,h3,_⟩:=dW.2 (off+j) (by omega);rw [h3];rfl
   have dX:∀ j,j<n→w.frozen? (xA ri.b (off+j))=false:=fun j hj=>(dW.2 (off+j) (by omega)).1
   have KV:=zgS (P:=C.P) h2 (hs.trans hn.symm) G3 iW dX
   generalize hW:w.setCells ri.b off (a.eval y).cells.toList=W at KV
   have uX:=hr.heap.write LV hρ dW.1 W (by rw [← hW];exact mV _ _ _ _) (by rw [← hW];exact JS _ _ _ _)
    (fun b hb=>by rw [← hW];exact qR _ _ _ _ _ hb) (.box (uG cs off (cellsOf (opd st.s y)))) (fun JY=>by
     obtain ⟨d5,D3⟩:=zb4 cs off (cellsOf (opd st.s y)) (by omega)
     refine ⟨dW.1,fun j hj=>?_⟩
     have DX:j<cs.length:=by omega
     refine ⟨by rw [← hW,World.frozen?_setCells];exact (dW.2 j DX).1,?_⟩
     rw [D3 j DX hj]
     split
     ·rename_i VW
      have:=World.cell?_setCells_in ri.b (a.eval y).cells.toList off w (fun j hj=>iW j (by simpa [hs,hn] using hj)) (j - off) (by simp [hs];omega)
      refine ⟨_,by rw [← hW,show xA ri.b j=⟨ri.b,off+(j - off),none⟩ by rw [xA];congr 1;omega];exact this,?_⟩
      have h4:=cY (j - off) (by omega)
      rw [Array.getD_eq_getD_getElem?,Array.getElem?_eq_getElem (by omega),Option.getD_some] at h4
      exact JY _ _ (by simpa using h4)
     ·rename_i VX
      obtain ⟨_,u,h3,h4⟩:=dW.2 j DX
      refine ⟨u,?_,JY _ _ h4⟩
      rw [← hW,World.cell?_setCells_out]
      ·exact h3
      ·intro _ _;simp only [xA,Array.length_toList,hs];omega)
   refine zep (w':=W) ?_ ⟨ρ,((hr.turn uX.1 uX.2).put (.undef _) hk).1,fun _ _=>rfl,fun _ _ h=>h⟩
   simp [execOp,ho,e1,Instr.storeAt,Instr.sureAddr,KV]
  ·cases hk
 ·rename_i r t' k off nW
  rw [nW] at hx
  split at hk
  ·rename_i t'' l LV
   obtain ⟨ri,hρ,dW⟩:=qG hr LV
   by_cases ht:t''=t'
   case neg=>simp [ht] at hk
   subst ht
   simp only [decide_true,XB] at hk
   split at hk
   ·cases hk
   rename_i vs' ids I0
   cases NZ:ids.any (Nat.beq r)
   case true=>simp [NZ] at hk
   simp only [NZ,CK,lS,kK,Option.bind_eq_some_iff] at hk
   obtain ⟨y0,eZ,hk⟩:=hk
   cases AW:Nat.ble (off+n) (sz t'')
   case false=>simp [AW] at hk
   simp only [AW,XB,Option.bind_eq_some_iff] at hk
   have AW:=Nat.le_of_ble_eq_true AW
   obtain ⟨z,hz,hk⟩:=hk
   obtain ⟨e1,e2,mW⟩:=zeD hρ dW eZ hx
   obtain ⟨b5,hy0'⟩:=List.getElem?_eq_some_iff.1 eZ
   obtain ⟨Y4,Q4⟩:=hr.heap.mark ids
   have v5:IB st.h ids r=some ⟨.arr t'' l, .own⟩:=by
    rw [ID,if_neg,LV]
    intro hm
    have:ids.any (Nat.beq r)=true:=List.any_eq_true.2 ⟨r,hm,Nat.beq_refl r⟩
    rw [this] at NZ;cases NZ
   obtain ⟨_,hρ1,W9,_⟩:=Y4.rows r _ v5
   rw [hρ] at hρ1;cases hρ1
   obtain ⟨hfl,hfv⟩:=kR hr.heap (vs:=fun j=>(a.eval y).cells.getD j undef) cY I0
   rcases W9.2 with M4 | ⟨_,ce,c1,c2,c3,c4⟩
   ·rw [mW] at M4;cases M4.1
   have dZ:=W9.1
   have hkn:(k+1) *sz t''≤ri.cap *sz t'':=Nat.mul_le_mul_right _ (by omega)
   rw [Nat.add_mul,Nat.one_mul] at hkn
   have iW:∀ j,j<n→(w.cell? (xA ri.b (k *sz t''+off+j))).isSome=true:=fun j hj=>(c3 (k *sz t''+off+j) (by omega)).2
   have dX:∀ j,j<n→w.frozen? (xA ri.b (k *sz t''+off+j))=false:=fun j hj=>(c3 (k *sz t''+off+j) (by omega)).1
   have KV:=zgS (P:=C.P) h2 (hs.trans hn.symm) G3 iW dX
   generalize hW:w.setCells ri.b (k *sz t''+off) (a.eval y).cells.toList=W at KV
   have VW:∀ j,j<n→W.cell? (xA ri.b (k *sz t''+off+j))=some ((a.eval y).cells.getD j undef):=fun j hj=>by
    have:=World.cell?_setCells_in ri.b (a.eval y).cells.toList (k *sz t''+off) w (fun j hj=>iW j (by simpa [hs,hn] using hj)) j (by simp [hs];omega)
    rw [hW] at this
    refine this.trans ?_
    rw [Array.getD_eq_getD_getElem?,Array.getElem?_eq_getElem (by omega)];simp
   have VX:∀ j,(j<k *sz t''+off∨k *sz t''+off+n≤j)→W.cell? (xA ri.b j)=w.cell? (xA ri.b j):=fun j hj=>by
    rw [← hW,World.cell?_setCells_out]
    intro _ _;simp only [xA,Array.length_toList,hs];omega
   have uX:=Y4.write v5 hρ mW W (by rw [← hW];exact mV _ _ _ _) (by rw [← hW];exact JS _ _ _ _)
    (fun b hb=>by rw [← hW];exact qR _ _ _ _ _ hb) (.arr t'' (l.set k z)) (fun JY=>by
     refine ⟨by simpa using dZ, .inr ⟨mW,by rw [← hW];exact zaC _ _ ce,c1,c2,fun j hj=>⟨by rw [← hW,World.frozen?_setCells];exact (c3 j hj).1,?_⟩,fun i' CW j hj=>?_⟩⟩
     ·by_cases hjj:k *sz t''+off≤j∧j<k *sz t''+off+n
      ·have:=VW (j - (k *sz t''+off)) (by omega)
       rw [show k *sz t''+off+(j - (k *sz t''+off))=j by omega] at this
       rw [this];rfl
      ·rw [VX j (by omega)];exact (c3 j hj).2
     ·have lX:i'<l.length:=by simpa using CW
      by_cases hik:i'=k
      ·subst hik
       have JW:=CD t'' hz
       obtain ⟨d5,D3⟩:=zb4 (enc t'' y0) off vs' (by rw [aC];omega)
       have PY:j<(uG (enc t'' y0) off vs').length:=by rw [d5,aC];exact hj
       have n7:(l.set i' z)[i']=z:=by simp
       rw [n7,qJ _ _ _ (by rw [aC];exact hj)]
       have hsj:=(JW.get j PY (by rw [aC];exact hj))
       rw [D3 j (by rw [aC];exact hj) PY] at hsj
       split at hsj
       ·rename_i hjin
        refine ⟨_,by have:=VW (j - off) (by omega);rw [show i' *sz t''+off+(j - off)=i' *sz t''+j by omega] at this;exact this,?_⟩
        exact JY _ _ (VR.sub hsj (hfv (j - off) (by omega)).1)
       ·obtain ⟨u,h5,h6⟩:=c4 i' lX j hj
        rw [hy0',qJ _ _ _ (by rw [aC];exact hj)] at h6
        exact ⟨u,by rw [VX _ (by omega)];exact h5,JY _ _ (VR.sub hsj h6)⟩
      ·obtain ⟨u,h5,h6⟩:=c4 i' lX j hj
       have n7:(l.set k z)[i']=l[i']:=by rw [List.getElem_set_ne (Ne.symm hik)]
       rw [n7]
       refine ⟨u,?_,JY _ _ h6⟩
       rw [VX]
       ·exact h5
       ·rcases Nat.lt_or_gt_of_ne hik with RV | hgt
        ·left
         have:(i'+1) *sz t''≤k *sz t'':=Nat.mul_le_mul_right _ RV
         rw [Nat.add_mul,Nat.one_mul] at this;omega
        ·right
         have:(k+1) *sz t''≤i' *sz t'':=Nat.mul_le_mul_right _ hgt
         rw [Nat.add_mul,Nat.one_mul] at this;omega)
   have hturn:RA C w0 outer own ρ { st with h:=uA (IB st.h ids) r (some ⟨.arr t'' (l.set k z), .own⟩) } a W:=
    hr.turn uX.1 fun u d hu=>uX.2 u d (Q4 u d hu)
   refine zep (w':=W) ?_ ⟨ρ,(hturn.put (.undef _) hk).1,fun _ _=>rfl,fun _ _ h=>h⟩
   simp [execOp,ho,e1,Instr.storeAt,Instr.sureAddr,KV]
  ·cases hk
 ·cases hk
end
end Go.D
namespace Go.D
variable [fA]
section
variable {C:Cx} {w0:World} {outer own:Nat→Prop} {ρ:Nat→Option RI} {st st':St} {a:Act} {w:World} {h:Nat→Option nA}
omit [fA] in
theorem IM (k:IntKind) (n:Int):VC k (k.wrap n):=by
 cases k <;> simp only [VC,IntKind.wrap,IntKind.min,IntKind.max,IntKind.signed,IntKind.bits] <;> simp <;> (try split) <;> omega
variable {o:Oper} {i:Nat} (hr:RA C w0 outer own ρ st a w)
include hr
theorem zrU (x:Operand) (ho:o.op= .nilCheck x) (hk:bB C i o st some=some st'):OB C.P o a w (KB C w0 outer own i ρ st'):=by
 simp only [bB,ho] at hk
 have hx:=hr.opd x
 have KV:∀ v,a.eval x=v→(match v with | .pointer (some _)=>True | .func (.func _) _ _=>True | _=>False)→(execOp a.eval o).run C.P w= .ok (.value v) w:=fun v e1 e2=>by
  unfold execOp
  simp only [ho,e1]
  split at e2 <;> first | rfl | cases e2
 split at hk
 ·rename_i r off nW
  rw [nW] at hx
  cases yW:a.eval x <;> rw [yW] at hx <;> cases hx
  exact yB (KV _ yW trivial) (hr.after (.bp _ _ _ (by assumption) (by assumption)) hk)
 ·rename_i r t k off nW
  rw [nW] at hx
  cases yW:a.eval x <;> rw [yW] at hx <;> cases hx
  exact yB (KV _ yW trivial) (hr.after (.ep _ _ _ _ _ (by assumption) (by assumption)) hk)
 ·rename_i cs off nW
  rw [nW] at hx
  cases yW:a.eval x <;> rw [yW] at hx <;> cases hx
  exact yB (KV _ yW trivial) (hr.after (.fp _ _ _ _ _ (by assumption) (by assumption) (by assumption) (by assumption)) hk)
 ·rename_i f cs nW
  rw [nW] at hx
  cases yW:a.eval x <;> rw [yW] at hx <;> cases hx
  exact yB (KV _ yW trivial) (hr.after (.fn _ _ _ (by assumption) (by assumption)) hk)
 ·cases hk
theorem zrL (t:TypeId) (x:Operand) (f:Nat) (ho:o.op= .fieldAddr t x f) (hk:bB C i o st some=some st'):OB C.P o a w (KB C w0 outer own i ρ st'):=by
 simp only [bB,ho] at hk
 split at hk
 ·cases hk
 rename_i off ft hf
 unfold aR at hf
 split at hf
 case h_2=>cases hf
 rename_i fs hu
 split at hf
 case h_2=>cases hf
 rename_i fld A6
 cases hf
 split at hk
 case h_2=>cases hk
 rename_i n eW
 have hx:=hr.opd x
 have KV:∀ b p,a.eval x= .pointer (some (xA b p))→(execOp a.eval o).run C.P w= .ok (.value (.pointer (some (xA b (p+fld.offset))))) w:=fun b p e1=>by
  simp [execOp,ho,e1,Instr.fieldAt,LD hu,A6,Instr.sureAddr,fieldPlace,QH eW,aE]
 split at hk
 ·rename_i r o1 nW
  rw [nW] at hx
  cases yW:a.eval x <;> rw [yW] at hx <;> cases hx
  rename_i ri h1 h2
  exact yB (KV _ _ yW) (hr.after (.bp _ _ _ (by assumption) (by assumption)) hk)
 ·rename_i r t' k o1 nW
  rw [nW] at hx
  cases yW:a.eval x <;> rw [yW] at hx <;> cases hx
  rename_i ri h1 h2
  refine yB (KV _ _ yW) (hr.after ?_ hk)
  rw [Nat.add_assoc];exact .ep _ _ _ _ _ (by assumption) (by assumption)
 ·rename_i cs o1 nW
  rw [nW] at hx
  cases yW:a.eval x <;> rw [yW] at hx <;> cases hx
  rename_i b p u h0 hb hu' D5
  refine yB (KV _ _ yW) (hr.after ?_ hk)
  rw [Nat.add_assoc];exact .fp _ _ _ _ _ (by assumption) (by assumption) (by assumption) (by assumption)
 ·cases hk
omit hr in
theorem zsa {ag:Bool} {n off:Nat} {t:TypeId} {cs:List V} {vs:Array Value} {bad:Nat→Prop} {R:Type} {K:V→Option R} {r:R} (h1:kD C.P t=some ag) (h2:vD C.P t=some n)
  (hs:vs.size=cs.length) (hv:∀ j (hj:j<cs.length),VR w ρ bad (vs.getD j undef) cs[j]) (hk:gE ag n cs off K=some r):
  ∃ d v,K d=some r∧VR w ρ bad v d∧(part t vs off).run C.P w= .ok v w:=by
 unfold gE at hk
 cases ag with
 | true=>
  simp only [XB] at hk
  cases hb:Nat.ble (off+n) cs.length
  case false=>simp [hb] at hk
  simp only [hb,XB] at hk
  have AW:=Nat.le_of_ble_eq_true hb
  refine ⟨_, .agg (vs.extract off (off+n)),hk,?_,?_⟩
  ·refine .agg _ _ (by simp;omega) fun j hj=>?_
   have hjn:j<n:=by simp at hj;omega
   have he:((cs.drop off).take n)[j]=cs[off+j]'(by omega):=by simp
   rw [he]
   have:=hv (off+j) (by omega)
   rw [Array.getD_eq_getD_getElem?,Array.getElem?_eq_getElem (by omega)] at this
   rw [Array.getD_eq_getD_getElem?,Array.getElem?_eq_getElem (by simp;omega)]
   simpa using this
  ·simp [part,eL h1,QH h2]
 | false=>
  simp only [CK] at hk
  split at hk
  ·rename_i c r' hd
   have RV:off<cs.length:=by
    rcases Nat.lt_or_ge off cs.length with h | h
    ·exact h
    ·rw [List.drop_eq_nil_of_le h] at hd;cases hd
   have L5:cs[off]=c:=by
    rw [List.drop_eq_getElem_cons RV] at hd;exact (List.cons.inj hd).1
   have h3:=hv off RV
   refine ⟨c,vs.getD off undef,hk,by rw [← L5];exact h3,?_⟩
   rw [Array.getD_eq_getD_getElem?,Array.getElem?_eq_getElem (by omega)]
   simp [part,eL h1,Array.getElem?_eq_getElem (show off<vs.size by omega)]
  ·cases hk
theorem zrK (t:TypeId) (x:Operand) (f:Nat) (ho:o.op= .field t x f) (hk:bB C i o st some=some st'):OB C.P o a w (KB C w0 outer own i ρ st'):=by
 simp only [bB,ho] at hk
 have hx:=hr.opd x
 split at hk
 case h_2=>cases hk
 rename_i off ft cs hf nW
 rw [nW] at hx
 unfold aR at hf
 split at hf
 case h_2=>cases hf
 rename_i fs hu
 split at hf
 case h_2=>cases hf
 rename_i fld A6
 cases hf
 split at hk
 case h_2=>cases hk
 rename_i ag n h1 h2
 cases yW:a.eval x <;> rw [yW] at hx <;> cases hx
 rename_i vs hs hv
 obtain ⟨d,v,h3,h4,h5⟩:=zsa (C:=C) (w:=w) h1 h2 hs hv hk
 refine yB (v:=v) (w':=w) ?_ (hr.after h4 h3)
 simp [execOp,ho,yW,Instr.field,LD hu,A6,asAgg,h5]
theorem zrJ (x:Operand) (ix:Nat) (ho:o.op= .extract x ix) (hk:bB C i o st some=some st'):OB C.P o a w (KB C w0 outer own i ρ st'):=by
 simp only [bB,ho] at hk
 have hx:=hr.opd x
 split at hk
 case h_2=>cases hk
 rename_i cs nW
 rw [nW] at hx
 split at hk
 case h_2=>cases hk
 rename_i c r' hd
 have RV:ix<cs.length:=by
  rcases Nat.lt_or_ge ix cs.length with h | h
  ·exact h
  ·rw [List.drop_eq_nil_of_le h] at hd;cases hd
 have L5:cs[ix]=c:=by
  rw [List.drop_eq_getElem_cons RV] at hd;exact (List.cons.inj hd).1
 cases yW:a.eval x <;> rw [yW] at hx <;> cases hx
 rename_i vs hs hv
 have h3:=hv ix RV
 rw [L5] at h3
 refine yB (v:=vs.getD ix undef) (w':=w) ?_ (hr.after h3 hk)
 rw [Array.getD_eq_getD_getElem?,Array.getElem?_eq_getElem (by omega)]
 simp [execOp,ho,yW,Instr.extract,Array.getElem?_eq_getElem (show ix<vs.size by omega)]
theorem zrZ (op:UnOp) (t:TypeId) (x:Operand) (ho:o.op= .unOp op t x) (hk:bB C i o st some=some st'):OB C.P o a w (KB C w0 outer own i ρ st'):=by
 simp only [bB,ho] at hk
 have hx:=hr.opd x
 split at hk
 case h_2=>cases hk
 rename_i d hd
 unfold unV at hd
 split at hd
 ·rename_i k n nW
  rw [nW] at hx
  cases op <;> cases hd
  cases yW:a.eval x <;> rw [yW] at hx <;> cases hx
  refine yB (v:= .int k (k.wrap (0 - n))) (w':=w) ?_ (hr.after (.int _ _ (IM _ _)) hk)
  simp [execOp,ho,yW,Op.unary,Op.intArith]
 ·rename_i b nW
  rw [nW] at hx
  cases op <;> cases hd
  cases yW:a.eval x <;> rw [yW] at hx <;> cases hx
  refine yB (v:= .bool (!b)) (w':=w) ?_ (hr.after (.bool _) hk)
  simp [execOp,ho,yW,Op.unary]
 ·cases hd
end
end Go.D

/-
 A plain semantics of the code: values without memory, what the call itself makes kept in rows. It is a function, so that the kernel can run it.
-/
import Derived.Test.YtfipojlaeaeedaaGreatL1
import Derived.Calls
import Derived.Deep.AppendSrc
set_option linter.all false
namespace Go.D
open Option renaming bind→ob
def hgt(b:Bool):Bool:=b
def gd{α:Type _}(c:Bool)(a b:α):α:=match hgt c with
 | true=>a
 | false=>b
def BH{α β:Type _}(x:Option α)(f:α→Option β):Option β:=gd true (match x with
 | some a=>f a
 | none=>none) none
@[simp] theorem XB{α:Type _}(a b:α):gd true a b=a:=rfl
@[simp] theorem jN{α:Type _}(a b:α):gd false a b=b:=rfl
@[simp] theorem vN{α β:Type _}(x:Option α)(f:α→Option β):BH x f=ob x f:=by cases x<;>rfl
def sA{α:Type}(f:Nat→α)(i:Nat)(v:α):Nat→α:=λj=>bif Nat.beq j i then v else f j
inductive wF where
 | own | ro | lock
inductive ND where
 | box (cs:List V)
 | arr (t:TN) (l:List (El t))
structure kA where
 c:ND
 m:wF
structure St where
 s:Nat→V
 h:Nat→Option kA
 nx:Nat
inductive WA where
 | plain
 | ptr (own:List Nat)
 | mv (own:List Nat)
structure OA where
 ks:List WA
 A:Type
 R:Type
 dA:List V→Option A
 F:A→Option R
 eR:R→List V
 shape:List (Bool×Nat)
 own:List Nat
 pb:Bool
structure Gl where
 K:Nat
 p:World→Prop
 stay:∀w w':World,(∀b,b<K→w'.heap[b]?=w.heap[b]?)→p w→p w'
 lt:∀w,p w→K≤w.heap.size
def pI:Gl:=⟨0,λ_=>True,λ_ _ _ h=>h,λ_ _=>Nat.zero_le _⟩
structure zgg[fA](g:Gl)(ow:Nat→Prop)(w:World):Prop where
 p:g.p w
 own:∀b,b<g.K→¬ow b
 base:fA.base≤w.heap.size
 low:∀b,b<fA.base→¬ow b
structure Cx where
 P:Program
 tn:TypeId→Option TN
 Φ:Nat→Option OA
 nt:Nat
 g:Gl
structure iE[fA](C:Cx):Prop where
 mixed:C.P.follows .mixedOrders=true
 ok:∀e t,C.tn e=some t→∃i z,C.P.info? e=some i∧i.size=sz t∧i.bytes≤1024∧i.zero=some z∧z.cells.size=sz t
 tys:∀e t,C.tn e=some t→fA.tn e=some t
def bA:Nat:=2^36
def uK:Value→V
 | .bool b=> .bool b
 | .int k n=>bif decide (k.min≤n)&&decide (n≤k.max)then .int k n else .undef
 | .string s=>bif Nat.ble s.data.toList.length 1000000 then .str s.data.toList else .undef
 | .slice none 0 0=> .nil
 | .nilIface=> .nili
 | _=> .undef
def opd(s:Nat→V):Operand→V
 | .tmp t=>s t
 | .const v=>uK v
 | .func f=> .fn f []
 | .global _=> .undef
section
variable (C:Cx) {R:Type}
def IA(dst:Option Nat)(st:St)(v:V)(K:St→Option R):Option R:=
 match dst with
 | none=>K st
 | some d=>gd (Nat.blt d C.nt) (K {st with s:=sA st.s d v}) none
def OD(dst:Option Nat)(st:St)(r:Nat)(c:ND)(v:V)(K:St→Option R):Option R:=
 IA C dst {st with h:=sA st.h r (some ⟨c, .own⟩)} v K
def cellsOf:V→List V
 | .agg cs=>cs
 | v=>[v]
def rF(cs:List V):Bool:=cs.all V.leaf
def GG(cs:List V)(off:Nat)(vs:List V):List V:=cs.take off++vs++cs.drop (off+vs.length)
def FB(h:Nat→Option kA)(ids:List Nat):Nat→Option kA:=
 match ids with
 | []=>h
 | r :: rs=>FB (sA h r ((h r).map λrow=>{row with m:= .ro})) rs
def wF.isLock:wF→Bool
 | .lock=>true
 | _=>false
def wF.isOwn:wF→Bool
 | .own=>true
 | _=>false
def TN.beq(s t:TN):Bool:=Nat.beq s.ctorIdx t.ctorIdx
def CE:Nat→V→Bool
 | 0,_=>false
 | n+1, .fn _ cs=>cs.all (CE n)
 | n+1, .fp cs _=>cs.all (CE n)
 | _+1, .bool _ | _+1, .int _ _ | _+1, .str _ | _+1, .nil | _+1, .sl _ _ | _+1, .nili | _+1, .ifc _=>true
 | _+1,_=>false
def ME(h:Nat→Option kA):V→Option (V×List Nat)
 | .ow r=>match h r with
  | some ⟨.arr t l,m⟩=>bif m.isLock then none else some (.sl t l,[r])
  | _=>none
 | .ov r t off len=>match h r with
  | some ⟨.arr t' l,m⟩=>bif m.isLock then none else if e:t'=t then some (.sl t (((TN.cast e l).drop off).take len),[r])else none
  | _=>none
 | v=>bif CE 8 v then some (v,[])else none
def pE(h:Nat→Option kA):List V→Option (List V×List Nat)
 | []=>some ([],[])
 | v :: vs=>match ME h v with
  | none=>none
  | some (v',i)=>match pE h vs with
   | none=>none
   | some (vs',j)=>some (v' :: vs',i++j)
def zF(h:Nat→Option kA):V→Option (V×List Nat)
 | .agg cs=>match pE h cs with
  | some (cs',i)=>some (.agg cs',i)
  | none=>none
 | .bp r off=>match h r with
  | some ⟨.box cs,m⟩=>bif m.isLock||cs.isEmpty then none else match pE h cs with
   | some (cs',i)=>some (.fp cs' off,r :: i)
   | none=>none
  | _=>none
 | v=>ME h v
def WH(h:Nat→Option kA):List V→Option (List V×List Nat)
 | []=>some ([],[])
 | v :: vs=>match zF h v with
  | none=>none
  | some (v',i)=>match WH h vs with
   | none=>none
   | some (vs',j)=>some (v' :: vs',i++j)
def xD(P:Program)(t:TypeId):Option Bool:=
 match P.underlying t with
 | some (.struct _) | some (.array _ _)=>some true
 | some _=>some false
 | none=>none
def LD(P:Program)(t:TypeId):Option Nat:=(P.info? t).map (·.size)
def yE(agg:Bool)(n:Nat)(cs:List V)(off:Nat)(K:V→Option R):Option R:=
 gd agg (gd (Nat.ble (off+n) cs.length) (K (.agg ((cs.drop off).take n))) none) (match cs.drop off with
  | c :: _=>K c
  | []=>none)
def lA{α:Type}(l:List α)(i:Int):Option α:=if 0≤i then l[i.toNat]? else none
def aV{α:Type}(l:List α)(i:Nat)(K:α→Option R):Option R:=ob l[i]? K
def gU(P:Program)(t:TypeId)(f:Nat):Option (Nat×TypeId):=
 match P.underlying t with
 | some (.struct fs)=>match fs[f]? with
  | some x=>some (x.offset,x.type)
  | none=>none
 | _=>none
def iK(P:Program)(t:TypeId):Option TypeId:=
 match P.underlying t with
 | some (.slice e)=>some e
 | _=>none
def RT:TypeDesc→V→Bool
 | .string, .str _=>true
 | .slice _, .sl _ _ | .slice _, .nil | .slice _, .ow _ | .slice _, .ov _ _ _ _=>true
 | _,_=>false
def dJ(h:Nat→Option kA):V→Option Nat
 | .sl _ l=>some l.length
 | .nil=>some 0
 | .str s=>some s.length
 | .ow r=>match h r with
  | some ⟨.arr _ l,_⟩=>some l.length
  | _=>none
 | .ov _ _ _ len=>some len
 | _=>none
def wP(h:Nat→Option kA)(t:TN):V→Option (List (El t))
 | .sl t' l=>if e:t'=t then some (TN.cast e l)else none
 | .nil=>some []
 | .ow r=>match h r with
  | some ⟨.arr t' l,_⟩=>if e:t'=t then some (TN.cast e l)else none
  | _=>none
 | .ov r t0 off len=>match h r with
  | some ⟨.arr t' l,_⟩=>bif decide (t0=t)then if e:t'=t then some (((TN.cast e l).drop off).take len)else none else none
  | _=>none
 | _=>none
def oN(h:Nat→Option kA)(t:TN):V→Option (List (El t)×Option Nat)
 | .nil=>some ([],none)
 | .ow r=>match h r with
  | some ⟨.arr t' l, .own⟩=>if e:t'=t then some (TN.cast e l,some r)else none
  | _=>none
 | .ov r _ 0 len=>match h r with
  | some ⟨.arr t' l, .own⟩=>if e:t'=t then some ((TN.cast e l).take len,some r)else none
  | _=>none
 | _=>none
def jK(h:Nat→Option kA):Option Nat→Nat→Option kA
 | none=>h
 | some r=>sA h r none
def WC:List Bool→List V→List V→Option Bool
 | [],[],[]=>some true
 | false :: ks, .int j a :: xs, .int k b :: ys=>bif decide (j=k)then(WC ks xs ys).map (λr=>bif a==b then r else false)else none
 | true :: ks, .bool a :: xs, .bool b :: ys=>(WC ks xs ys).map (λr=>bif a==b then r else false)
 | _,_,_=>none
def zb3(op:BinOp):V→V→Option V
 | .int k a, .int k' b=>
  match op with
  | .shl=>if b<0 then none else some (.int k (k.wrap (a *2^(min b.toNat k.bits))))
  | .shr=>if b<0 then none else some (.int k (a.fdiv (2^(min b.toNat k.bits))))
  | .add=>bif decide (k=k')then some (.int k (k.wrap (a+b)))else none
  | .sub=>bif decide (k=k')then some (.int k (k.wrap (a - b)))else none
  | .mul=>bif decide (k=k')then some (.int k (k.wrap (a *b)))else none
  | .and=>bif decide (k=k')then some (.int k (k.wrap (BitVec.ofInt k.bits a&&&BitVec.ofInt k.bits b).toNat))else none
  | .or=>bif decide (k=k')then some (.int k (k.wrap (BitVec.ofInt k.bits a|||BitVec.ofInt k.bits b).toNat))else none
  | .xor=>bif decide (k=k')then some (.int k (k.wrap (BitVec.ofInt k.bits a^^^BitVec.ofInt k.bits b).toNat))else none
  | .andNot=>bif decide (k=k')then some (.int k (k.wrap (BitVec.ofInt k.bits a&&& ~~~ BitVec.ofInt k.bits b).toNat))else none
  | .eql=>bif decide (k=k')then some (.bool (a==b))else none
  | .neq=>bif decide (k=k')then some (.bool (a !=b))else none
  | .lss=>bif decide (k=k')then some (.bool (decide (a<b)))else none
  | .leq=>bif decide (k=k')then some (.bool (decide (a≤b)))else none
  | .gtr=>bif decide (k=k')then some (.bool (decide (a>b)))else none
  | .geq=>bif decide (k=k')then some (.bool (decide (a≥b)))else none
  | _=>none
 | .str a, .str b=>
  match op with
  | .eql=>some (.bool (a==b))
  | .neq=>some (.bool (!(a==b)))
  | _=>none
 | _,_=>none
def aH(P:Program):Nat→List Field→Option (List Bool)
 | _,[]=>some []
 | k, f :: fs => bif f.name != "_" && Nat.beq f.offset k then
   match P.underlying f.type,aH P (k+1) fs with
   | some .bool,some ks=>some (true :: ks)
   | some (.int _),some ks=>some (false :: ks)
   | _,_=>none
  else none
def xI(P:Program):Nat→List Field→Option (List Bool)
 | _,[]=>some []
 | k, f :: fs => bif f.name != "_" && Nat.beq f.offset k then
   match P.underlying f.type with
   | some .bool=>match xI P (k+1) fs with
    | some ks=>some (true :: ks)
    | none=>none
   | some (.int _)=>match xI P (k+1) fs with
    | some ks=>some (false :: ks)
    | none=>none
   | some (.struct gs)=>match aH P 0 gs.toList with
    | some k1=>bif !(P.stoodInHeld f.type)&&decide (LD P f.type=some k1.length)then match xI P (k+k1.length) fs with
      | some ks=>some (k1++ks)
      | none=>none
     else none
    | none=>none
   | _=>none
  else none
def zdz(P:Program)(t:TypeId):Option (List Bool):=
 match P.underlying t with
 | some (.struct fs)=>bif !(P.stoodInHeld t)&&!(P.eqGuardType P.depth t)then xI P 0 fs.toList else none
 | _=>none
def mJ(op:BinOp)(x y:V)(K:V→Option R):Option R:=
 match op,x,y with
 | .quo, .int k a, .int k' b=>bif decide (k=k')then(bif b==0 then none else K (.int k (k.wrap (a.tdiv b))))else none
 | .rem, .int k a, .int k' b=>bif decide (k=k')then(bif b==0 then none else K (.int k (a.tmod b)))else none
 | .shl, .int k a, .int _ b=>bif decide (b<0)then none else K (.int k (k.wrap (a *2^(min b.toNat k.bits))))
 | .shr, .int k a, .int _ b=>bif decide (b<0)then none else K (.int k (a.fdiv (2^(min b.toNat k.bits))))
 | .add, .str a, .str b=>bif decide (a.length+b.length≤bA)then K (.str (a++b))else none
 | op,x,y=>match zb3 op x y with
  | some v=>K v
  | none=>none
def unV(op:UnOp):V→Option V
 | .int k n=>match op with
  | .neg=>some (.int k (k.wrap (0 - n)))
  | _=>none
 | .bool b=>match op with
  | .not=>some (.bool (!b))
  | _=>none
 | _=>none
def MP(t:TN):List (List V)→Option (List (El t))
 | []=>some []
 | cs :: r=>match AD t cs with
  | none=>none
  | some a=>match MP t r with
   | none=>none
   | some l=>some (a :: l)
def DC(own:List Nat):Nat→List V→(Nat→Option kA)→Option (List V×(Nat→Option kA))
 | _,[],h=>some ([],h)
 | p,c :: cs,h=>
  bif own.any (Nat.beq p)then
   match c with
   | .ow r=>match h r with
    | some ⟨.arr t l, .own⟩=>match DC own (p+1) cs (sA h r none)with
     | some (cs',h')=>some (.sl t l :: cs',h')
     | none=>none
    | _=>none
   | .nil=>match DC own (p+1) cs h with
    | some (cs',h')=>some (.nil :: cs',h')
    | none=>none
   | .ov r t 0 len=>match h r with
    | some ⟨.arr t' l, .own⟩=>match decide (t'=t),DC own (p+1) cs (sA h r none)with
     | true,some (cs',h')=>some (.sl t' (l.take len) :: cs',h')
     | _,_=>none
    | _=>none
   | _=>none
  else match ME h c with
   | some (c',ids)=>match DC own (p+1) cs (FB h ids)with
    | some (cs',h')=>some (c' :: cs',h')
    | none=>none
   | none=>none
def HA(own:List Nat)(base:Nat):Nat→List V→List V
 | _,[]=>[]
 | p, .sl t l :: vs=>(bif own.any (Nat.beq p)then .ow (base+p)else .sl t l) :: HA own base (p+1) vs
 | p,v :: vs=>v :: HA own base (p+1) vs
def PA(own:List Nat)(base:Nat)(h:Nat→Option kA):Nat→List V→Nat→Option kA
 | _,[]=>h
 | p, .sl t l :: vs=>bif own.any (Nat.beq p)then sA (PA own base h (p+1) vs) (base+p) (some ⟨.arr t l, .own⟩)else PA own base h (p+1) vs
 | p,_ :: vs=>PA own base h (p+1) vs
def pD:List (Bool×Nat)→List V→List V
 | [],_=>[]
 | (agg,n) :: sh,vs=>(bif agg then .agg (vs.take n)else match vs with | v :: _=>v | []=> .undef) :: pD sh (vs.drop n)
def rG(sh:List (Bool×Nat))(vs:List V):V:=
 match pD sh vs with
 | [v]=>v
 | l=> .tup l
def jP(s:Nat→V):Nat→List (Nat×Operand)→Option (List V)
 | _,[]=>some []
 | i,(j,x) :: r=>bif Nat.beq i j then match jP s (i+1) r with
   | none=>none
   | some vs=>some (opd s x :: vs)
  else none
def zfi(P:Program)(t:TypeId):Option (List (Nat×Nat)):=
 match P.underlying t with
 | some (.struct fs)=>fs.toList.mapM λf=>(P.info? f.type).map λi=>(f.offset,i.size)
 | some (.array n e)=>match P.info? e with
  | some i=>bif Nat.ble n 128 then some ((List.range n).map λk=>(k *i.size,i.size))else none
  | none=>none
 | _=>none
def AP(pl:List (Nat×Nat))(s:Nat→V)(cs:List V):List (Nat×Operand)→Option (List V)
 | []=>some cs
 | (f,x) :: r=>match pl[f]? with
  | none=>none
  | some (off,n)=>
   let vs:=cellsOf (opd s x)
   bif Nat.beq n vs.length&&rF vs&&Nat.ble (off+n) cs.length then AP pl s (GG cs off vs) r else none
def zeroCells(P:Program)(t:TypeId):Option (List V):=
 match(P.info? t).bind (·.zero)with
 | some z=>let cs:=z.cells.toList.map uK;bif rF cs then some cs else none
 | none=>none
def zbc(P:Program)(t:TypeId):Option (List V):=((P.info? t).bind (·.zero)).map λz=>z.cells.toList.map uK
def HG(f:Nat→Option R)(i:Int):Nat→Nat→Option R
 | _,0=>none
 | k,n+1=>bif i==(k:Int)then f k else HG f i (k+1) n
def uN(d:Int):Option V→Option Int
 | none=>some d
 | some (.int _ n)=>some n
 | _=>none
def pK(d:TypeDesc)(tnok:TypeId→TN→Bool)(h:Nat→Option kA)(x:V)(lo hi:Option V)(K:V→Option R):Option R:=
 match dJ h x with
 | none=>none
 | some len=>
  match uN 0 lo,uN (len:Int) hi with
  | some a,some b=>
   bif decide (0≤a)&&decide (a≤b)&&decide (b≤(len:Int))then
    match d,x with
    | .slice e, .sl t l=>gd (tnok e t) (K (.sl t ((l.drop a.toNat).take (b - a).toNat))) none
    | .string, .str s=>K (.str ((s.drop a.toNat).take (b - a).toNat))
    | .slice e, .ow r=>match h r with
     | some ⟨.arr t _,_⟩=>gd (tnok e t) (K (.ov r t a.toNat (b - a).toNat)) none
     | _=>none
    | .slice e, .ov r t off _=>gd (tnok e t) (K (.ov r t (off+a.toNat) (b - a).toNat)) none
    | _,_=>none
   else none
  | _,_=>none
def TF(e:TypeId)(t:TN):Bool:=match C.tn e with
 | some t'=>decide (t'=t)
 | none=>false
def CB:List WA→List V→(Nat→Option kA)→Option (List V×(Nat→Option kA)×List Nat)
 | [],[],h=>some ([],h,[])
 | .plain :: ks,v :: vs,h=>match zF h v with
  | none=>none
  | some (v',ids)=>match CB ks vs (FB h ids)with
   | none=>none
   | some (as,h',bs)=>some (v' :: as,h',bs)
 | .ptr own :: ks, .bp r 0 :: vs,h=>match h r with
  | some ⟨.box cs, .own⟩=>bif Nat.ble cs.length 127 then match DC own 0 cs (sA h r none)with
   | none=>none
   | some (cs',h')=>match CB ks vs h' with
    | none=>none
    | some (as,N7,bs)=>some (.agg cs' :: as,N7,r :: bs)
   else none
  | _=>none
 | .mv own :: ks, .agg cs :: vs,h=>bif Nat.ble cs.length 127 then match DC own 0 cs h with
   | none=>none
   | some (cs',h')=>match CB ks vs h' with
    | none=>none
    | some (as,N7,bs)=>some (.agg cs' :: as,N7,bs)
  else none
 | _,_,_=>none
def mK(h:Nat→Option kA):Nat→Option kA:=λr=>match h r with
 | some ⟨c, .lock⟩=>some ⟨c, .own⟩
 | x=>x
def lB:List WA→List V→List Nat→List V→(Nat→Option kA)→Nat→Option kA
 | .plain :: ks,_ :: as,bs,vs,h=>lB ks as bs vs h
 | .mv _ :: ks,_ :: as,bs,vs,h=>lB ks as bs vs h
 | .ptr _ :: ks, .agg cs :: as,b :: bs,vs,h=>sA (lB ks as bs (vs.drop cs.length) h) b (some ⟨.box (vs.take cs.length), .own⟩)
 | _,_,_,_,h=>h
def RH(sh:List (Bool×Nat)):Nat:=(sh.map (·.2)).sum
def zbO(f:Nat)(as:List V):Nat:=match as with
 | [_, .fn g _]=>f+(g+1) *1048576
 | _=>f
def zke(f:Nat)(as:List V)(h:f<1048576):zbO f as % 1048576=f:=by
 unfold zbO
 grind
def xF(ci:OA)(as:List V)(bs:List Nat)(i:Nat)(rs:List V)(h:Nat→Option kA):Nat→Option kA:=
 bif ci.pb then sA h i (some ⟨.box rs, .own⟩)else lB ci.ks as bs ((HA ci.own i 0 rs).drop (RH ci.shape)) (PA ci.own i h 0 rs)
def QG(ci:OA)(i:Nat)(rs:List V):V:=bif ci.pb then .bp i 0 else rG ci.shape (HA ci.own i 0 rs)
def XI:V→Bool
 | .int _ _ | .bool _ | .str _=>true
 | _=>false
def WA.isPlain:WA→Bool
 | .plain=>true
 | _=>false
def TN.flat:TN→Bool
 | .byte | .int | .bool | .str | .Addr | .Credit | .Timer | .Form=>true
 | _=>false
def NP(own:List Nat):Nat→List V→Bool
 | _,[]=>true
 | p, .sl t _ :: vs=>own.any (Nat.beq p)&&t.flat&&NP own (p+1) vs
 | p,v :: vs=>XI v&&NP own (p+1) vs
def iJ(ci:OA)(rs:List V):Bool:=!ci.pb&&ci.ks.all WA.isPlain&&NP ci.own 0 rs
def TN.rank:TN→Nat
 | .byte | .int | .bool | .str=>0
 | .Cand | .Op=>1
 | .Tab | .Server | .World=>4
 | _=>3
def oD(own:List Nat):Nat→List V→Option Nat
 | _,[]=>some 0
 | p, .sl t _ :: vs=>match oD own (p+1) vs with
  | some m=>some (Nat.max (bif own.any (Nat.beq p)then t.rank else t.rank+1) m)
  | none=>none
 | p, .nil :: vs=>oD own (p+1) vs
 | p,v :: vs=>bif XI v then oD own (p+1) vs else none
def lI(m:Nat)(h h':Nat→Option kA):Nat→Option kA:=λr=>match h r,h' r with
 | some ⟨.arr t l, .own⟩,some ⟨c, .ro⟩=>bif Nat.ble m t.rank then some ⟨.arr t l, .own⟩else some ⟨c, .ro⟩
 | _,x=>x
def eI(ci:OA)(rs:List V)(h h':Nat→Option kA):Nat→Option kA:=
 bif iJ ci rs then h else bif ci.pb then h' else match oD ci.own 0 rs with
  | some m=>lI m h h'
  | none=>h'
def tH(i:Nat)(dst:Option Nat)(st:St)(f:Nat)(as:List V)(K:St→Option R):Option R:=
 match bif Nat.blt f 1048576 then C.Φ (zbO f as)else none with
 | none=>none
 | some ci=>match CB ci.ks as st.h with
  | none=>match CB ci.ks as (mK st.h)with
   | none=>none
   | some (as',_,bs)=>
    BH (ci.dA as') λa=>ob (ci.F a) λr=>
     gd (Nat.ble (ci.eR r).length 128&&iJ ci (ci.eR r)) (
      IA C dst {st with h:=xF ci as' bs i (ci.eR r) st.h} (QG ci i (ci.eR r)) K) none
  | some (as',h',bs)=>
   BH (ci.dA as') λa=>ob (ci.F a) λr=>
    gd (Nat.ble (ci.eR r).length 128) (
     IA C dst {st with h:=xF ci as' bs i (ci.eR r) (eI ci (ci.eR r) st.h h')} (QG ci i (ci.eR r)) K) none
def UA (i:Nat) (o:Oper) (st:St) (K:St→Option R):Option R:=
 match o.op with
 | .move x | .assign x=>IA C o.dst st (opd st.s x) K
 | .pick c a b=>match opd st.s c with
  | .bool t=>match opd st.s a,opd st.s b with
   | .bool x, .bool y=>IA C o.dst st (.bool (cond t x y)) K
   | x,y=>IA C o.dst st (cond t x y) K
  | _=>none
 | .alloc e=>match zbc C.P e with
  | some cs=>OD C o.dst st i (.box cs) (.bp i 0) K
  | none=>none
 | .box e x=>
  let cs:=cellsOf (opd st.s x)
  gd (rF cs) (OD C o.dst st i (.box cs) (.bp i 0) K) none
 | .build t parts=>match zeroCells C.P t,zfi C.P t with
  | some cs,some pl=>BH (AP pl st.s cs parts.toList) λcs'=>IA C o.dst st (.agg cs') K
  | _,_=>none
 | .buildSlice t len parts=>match(iK C.P t).bind C.tn with
  | none=>none
  | some tn=>match jP st.s 0 parts.toList with
   | none=>none
   | some vs=>gd (Nat.beq vs.length len&&Nat.ble len 1000) (
     match WH st.h vs with
     | none=>none
     | some (vs',ids)=>BH (MP tn (vs'.map cellsOf)) λl=>
       OD C o.dst {st with h:=FB st.h ids} i (.arr tn l) (.ow i) K) none
 | .load t a=>match xD C.P t,LD C.P t with
  | some ag,some n=>match opd st.s a with
   | .bp r off=>match st.h r with
    | some ⟨.box cs,_⟩=>yE ag n cs off λv=>IA C o.dst st v K
    | _=>none
   | .ep r t' k off=>match st.h r with
    | some ⟨.arr t'' l,_⟩=>gd (decide (t''=t')) (aV l k λx=>yE ag n (enc t'' x) off λv=>IA C o.dst st v K) none
    | _=>none
   | .fp cs off=>yE ag n cs off λv=>IA C o.dst st v K
   | _=>none
  | _,_=>none
 | .store t a x=>match LD C.P t with
  | none=>none
  | some n=>
   let vs:=cellsOf (opd st.s x)
   gd (Nat.beq n vs.length&&rF vs) (
    match opd st.s a with
    | .bp r off=>match st.h r with
     | some ⟨.box cs, .own⟩=>gd (Nat.ble (off+n) cs.length) (IA C o.dst {st with h:=sA st.h r (some ⟨.box (GG cs off vs), .own⟩)} .undef K) none
     | _=>none
    | .ep r t' k off=>match st.h r with
     | some ⟨.arr t'' l, .own⟩=>gd (decide (t''=t')) (
       match pE st.h vs with
       | none=>none
       | some (vs',ids)=>gd (ids.any (Nat.beq r)) none (
        aV l k λx=>gd (Nat.ble (off+n) (sz t'')) (
         BH (AD t'' (GG (enc t'' x) off vs')) λy=>
          IA C o.dst {st with h:=sA (FB st.h ids) r (some ⟨.arr t'' (l.set k y), .own⟩)} .undef K) none)) none
     | _=>none
    | _=>none) none
 | .nilCheck x=>match opd st.s x with
  | .bp r off=>IA C o.dst st (.bp r off) K
  | .ep r t k off=>IA C o.dst st (.ep r t k off) K
  | .fp cs off=>IA C o.dst st (.fp cs off) K
  | .fn f cs=>IA C o.dst st (.fn f cs) K
  | _=>none
 | .binOp op t x y _=>match opd st.s x,opd st.s y with
  | .agg xs, .agg ys=>match zdz C.P t with
   | some ks=>match WC ks xs ys with
    | some b=>match op with
     | .eql=>IA C o.dst st (.bool b) K
     | .neq=>IA C o.dst st (.bool (!b)) K
     | _=>none
    | none=>none
   | none=>none
  | .bool p, .bool q=>match C.P.underlying t with
   | some .bool=>match op with
    | .eql=>IA C o.dst st (.bool (p==q)) K
    | .neq=>IA C o.dst st (.bool (!(p==q))) K
    | _=>none
   | _=>none
  | .ifc b, .nili=>match y,C.P.underlying t with
   | .const _,some (.interface _)=>match op with
    | .eql=>IA C o.dst st (.bool b) K
    | .neq=>IA C o.dst st (.bool (!b)) K
    | _=>none
   | _,_=>none
  | vx,vy=>mJ op vx vy λv=>IA C o.dst st v K
 | .unOp op _ x=>match unV op (opd st.s x)with
  | some v=>IA C o.dst st v K
  | none=>none
 | .convert src d x=>match C.P.underlying src,C.P.underlying d,opd st.s x with
  | some (.int _),some (.int k), .int _ n=>IA C o.dst st (.int k (k.wrap n)) K
  | some .string,some (.slice e), .str s=>match C.tn e,C.P.underlying e with
   | some .byte,some (.int .u8)=>bif Nat.ble s.length bA then OD C o.dst st i (.arr .byte s) (.ow i) K else none
   | _,_=>none
  | some (.slice e),some .string,v=>match C.P.underlying e,wP st.h .byte v with
   | some (.int .u8),some l=>bif Nat.ble l.length bA then IA C o.dst st (.str l) K else none
   | _,_=>none
  | some (.slice _),some (.slice e), .ow r=>match Nat.beq src d,C.P.underlying e,st.h r with
   | true,some (.int .u8),some ⟨.arr .byte (b :: l), .own⟩=>IA C o.dst {st with h:=sA st.h r none} (.sl .byte (b :: l)) K
   | _,_,_=>none
  | _,_,_=>none
 | .makeFunc (.func f) first captured=>gd (first.isEmpty) (match WH st.h (captured.toList.map (opd st.s))with
   | some (cs,ids)=>IA C o.dst {st with h:=FB st.h ids} (.fn f cs) K
   | none=>none) none
 | .makeSlice t n c=>match(iK C.P t).bind C.tn,(iK C.P t).bind (zeroCells C.P)with
  | some tn,some z=>match opd st.s n,opd st.s c with
   | .int .i64 n, .int .i64 c=>bif decide (0≤n)&&decide (n≤(bA:Int))&&(n==c)then
     BH (AD tn z) λx=>OD C o.dst st i (.arr tn (List.replicate n.toNat x)) (.ow i) K
    else none
   | _,_=>none
  | _,_=>none
 | .slice t x lo hi mx=>match mx,C.P.underlying t with
  | some _,_ | _,none=>none
  | none,some d=>pK d (TF C) st.h (opd st.s x) (lo.map (opd st.s)) (hi.map (opd st.s)) λv=>IA C o.dst st v K
 | .fieldAddr t x f=>match gU C.P t f with
  | none=>none
  | some (off,ft)=>match LD C.P ft with
   | some (_+1)=>match opd st.s x with
    | .bp r o1=>IA C o.dst st (.bp r (o1+off)) K
    | .ep r t' k o1=>IA C o.dst st (.ep r t' k (o1+off)) K
    | .fp cs o1=>IA C o.dst st (.fp cs (o1+off)) K
    | _=>none
   | _=>none
 | .field t x f=>match gU C.P t f,opd st.s x with
  | some (off,ft), .agg cs=>match xD C.P ft,LD C.P ft with
   | some ag,some n=>yE ag n cs off λv=>IA C o.dst st v K
   | _,_=>none
  | _,_=>none
 | .indexAddr t x ix=>match opd st.s ix with
  | .int _ n=>match C.P.underlying t,opd st.s x with
   | some (.slice e), .sl t' l=>gd (TF C e t') (ob (lA l n) λa=>IA C o.dst st (.fp (enc t' a) 0) K) none
   | some (.slice e), .ow r=>match st.h r with
    | some ⟨.arr t' l,_⟩=>gd (TF C e t') (bif decide (0≤n)&&decide (n<(l.length:Int))then IA C o.dst st (.ep r t' n.toNat 0) K else none) none
    | _=>none
   | some (.slice e), .ov r t' off len=>gd (TF C e t') (bif decide (0≤n)&&decide (n<(len:Int))then IA C o.dst st (.ep r t' (off+n.toNat) 0) K else none) none
   | some (.array m e), .bp r o1=>match LD C.P e with
    | some 1=>HG (λk=>IA C o.dst st (.bp r (o1+k)) K) n 0 m
    | _=>none
   | _,_=>none
  | _=>none
 | .index t x ix=>match opd st.s ix,C.P.underlying t,opd st.s x with
  | .int _ n,some .string, .str s=>ob (lA s n) λb=>IA C o.dst st (.int .u8 (b.toNat:Int)) K
  | .int _ n,some (.array m e), .agg cs=>match LD C.P e,xD C.P e with
   | some 1,some false=>HG (λk=>match cs.drop k with | c :: _=>IA C o.dst st c K | []=>none) n 0 m
   | _,_=>none
  | _,_,_=>none
 | .extract x ix=>match opd st.s x with
  | .tup vs=>match vs.drop ix with
   | v :: _=>IA C o.dst st v K
   | []=>none
  | _=>none
 | .call {callee:= .builtin .len,args,argTypes}=>match args.toList,argTypes.toList with
  | [x],[t]=>match C.P.underlying t,dJ st.h (opd st.s x)with
   | some d,some n=>gd (RT d (opd st.s x)) (IA C o.dst st (.int .i64 (n:Int)) K) none
   | _,_=>none
  | _,_=>none
 | .call {callee:= .builtin .append,args,argTypes}=>match args.toList,argTypes.toList with
  | [x,y],[t,t']=>gd (Nat.beq t t') (match(iK C.P t).bind C.tn with
   | none=>none
   | some tn=>match oN st.h tn (opd st.s x),wP st.h tn (opd st.s y)with
    | some (l,r),some m=>bif decide (l.length+m.length≤bA)then
      OD C o.dst {st with h:=jK st.h r} i (.arr tn (l++m)) (.ow i) K
     else none
    | _,_=>none) none
  | _,_=>none
 | .call {callee:= .builtin .min,args,argTypes:=_}=>match args.toList.map (opd st.s)with
  | [.int k a, .int k' b]=>bif decide (k=k')then IA C o.dst st (.int k (if b<a then b else a)) K else none
  | _=>none
 | .call {callee:= .builtin .max,args,argTypes:=_}=>match args.toList.map (opd st.s)with
  | [.int k a, .int k' b]=>bif decide (k=k')then IA C o.dst st (.int k (if b>a then b else a)) K else none
  | _=>none
 | .call {callee:= .value x,args,argTypes:=_}=>match opd st.s x with
  | .fn f cs=>tH C i o.dst st f (args.toList.map (opd st.s)++cs) K
  | _=>none
 | _=>none
end
end Go.D
namespace Go.D
variable [fA]
def wF.isRo:wF→Bool
 | .ro=>true
 | _=>false
structure Wx(w0 w:World):Prop where
 os:w.os=w0.os
 tape:w.tape=w0.tape
 output:w.output=w0.output
 size:w0.heap.size≤w.heap.size
omit [fA]in
def Wx.refl(w:World):Wx w w:=⟨rfl,rfl,rfl,Nat.le_refl _⟩
omit [fA]in
def Wx.trans{a b c:World}(h:Wx a b)(k:Wx b c):Wx a c:=⟨k.os.trans h.os,k.tape.trans h.tape,k.output.trans h.output,Nat.le_trans h.size k.size⟩
def KC(w:World)(ρ:Nat→Option RI)(bad:Nat→Prop)(ri:RI):ND→Prop
 | .box cs=>ri.nl=false∧∀j (h:j<cs.length),w.frozen? (wA ri.b j)=false∧∃u,w.cell? (wA ri.b j)=some u∧VR w ρ bad u cs[j]
 | .arr t l=>ri.n=l.length∧(ri.nl=true∧l=[]∨ri.nl=false∧dE w ri.b t∧ri.n≤ri.cap∧ri.cap≤maxLen∧
   (∀j,j<ri.cap *sz t→w.frozen? (wA ri.b j)=false∧(w.cell? (wA ri.b j)).isSome=true)∧
   ∀i (h:i<l.length) j,j<sz t→∃u,w.cell? (wA ri.b (i *sz t+j))=some u∧VR w ρ bad u ((enc t l[i]).getD j .undef))
def jA(outer:Nat→Prop)(ρ:Nat→Option RI)(h:Nat→Option kA)(b:Nat):Prop:=
 outer b∨∃r row ri,h r=some row∧row.m.isRo=false∧ρ r=some ri∧ri.nl=false∧ri.b=b
structure VA(w0:World)(outer own:Nat→Prop)(ρ:Nat→Option RI)(h:Nat→Option kA)(w:World):Prop where
 wx:Wx w0 w
 old:∀b,b<w0.heap.size→¬own b→w.heap[b]?=w0.heap[b]?
 outLt:∀b,outer b→b<w0.heap.size∧¬own b
 rows:∀r row,h r=some row→∃ri,ρ r=some ri∧KC w ρ (jA outer ρ h) ri row.c∧
  (ri.nl=false→(¬outer ri.b∧(row.m.isRo=false→w0.heap.size≤ri.b∨own ri.b))∧ri.b<w.heap.size)
 inj:∀r r' row row' ri ri',h r=some row→h r'=some row'→ρ r=some ri→ρ r'=some ri'→ri.nl=false→ri'.nl=false→ri.b=ri'.b→r=r'
structure NA(C:Cx)(w0:World)(outer own:Nat→Prop)(ρ:Nat→Option RI)(st:St)(a:Act)(w:World):Prop where
 heap:VA w0 outer own ρ st.h w
 slots:∀i,VR w ρ (jA outer ρ st.h) (a.tmps.getD i undef) (st.s i)
 size:a.tmps.size=C.nt
 defers:a.defers=[]
 glob:zgg C.g own w0
section
variable {C:Cx} {w0:World} {outer own:Nat→Prop} {ρ:Nat→Option RI} {st:St} {a:Act} {w:World} {h:Nat→Option kA}
omit [fA]in
def EA{α:Type}(f:Nat→α)(i:Nat)(v:α):sA f i v i=v:=by simp[sA]
omit [fA]in
def tA{α:Type}(f:Nat→α)(i j:Nat)(v:α)(h:j≠i):sA f i v j=f j:=by
 simp only[sA]
 have:Nat.beq j i=false:=by
  cases hb:Nat.beq j i with
  | false=>rfl
  | true=>exact absurd (Nat.eq_of_beq_eq_true hb) h
 rw[this];rfl
omit [fA]in
def zk2(a:Act)(d:Nat)(v:Value)(hd:d<a.tmps.size)(i:Nat):
  (a.put (some d) v).tmps.getD i undef=if i=d then v else a.tmps.getD i undef:=by
 simp only[Act.put,Array.getD_eq_getD_getElem?,Array.getElem?_setIfInBounds]
 by_cases h:d=i
 ·subst h;simp[hd]
 ·simp[h,Ne.symm h]
def NA.put(hr:NA C w0 outer own ρ st a w){dst:Option Nat}{v:Value}{d:V}(hv:VR w ρ (jA outer ρ st.h) v d){st':St}
  (hk:IA C dst st d some=some st'):NA C w0 outer own ρ st' (a.put dst v) w∧st'.h=st.h∧st'.nx=st.nx:=by
 cases dst with
 | none=>simp[IA]at hk;subst hk;exact⟨hr,rfl,rfl⟩
 | some k=>
  simp only[IA]at hk;cases hb:Nat.blt k C.nt with
  | false=>simp[hb]at hk
  | true=>
   simp[hb]at hk;subst hk;have NV:k<a.tmps.size:=by rw[hr.size];simpa[Nat.blt_eq]using hb
   refine⟨⟨hr.heap,λi=>?_,by simp[Act.put,hr.size],hr.defers,hr.glob⟩,rfl,rfl⟩;rw[zk2 a k v NV i];show VR w ρ _ _ (sA st.s k d i)
   by_cases h:i=k
   ·subst h;rw[if_pos rfl,EA];exact hv
   ·rw[if_neg h,tA _ _ _ _ h];exact hr.slots i
omit [fA]in
def jA.mono{h':Nat→Option kA}{b:Nat}(hs:∀r row',h' r=some row'→row'.m.isRo=false→∃row,h r=some row∧row.m.isRo=false)
  (hb:jA outer ρ h' b):jA outer ρ h b:=by
 rcases hb with hb | ⟨r,row',ri,h1,h2,h3,h4,h5⟩
 ·exact .inl hb
 ·obtain⟨row,h6,h7⟩:=hs r row' h1 h2;exact .inr ⟨r,row,ri,h6,h7,h3,h4,h5⟩
def zaS{w:World}{c:Array Value}{e:TypeId}{t:TN}(h:fA.tn e=some t):dE (w.alloc (.cells c e)) w.heap.size t:=
 ⟨c,e,_,by show(w.heap.push _)[w.heap.size]?=_;rw[Array.getElem?_push_size],h⟩
def KC.keep{w':World}{ρ':Nat→Option RI}{bad bad':Nat→Prop}{ri:RI}{c:ND}(hr:KC w ρ bad ri c)
  (hw:ri.nl=false→w'.heap[ri.b]?=w.heap[ri.b]?)
  (hv:∀u d,VR w ρ bad u d→VR w' ρ' bad' u d):KC w' ρ' bad' ri c:=by
 cases c with
 | box cs=>
  refine⟨hr.1,λj hj=>?_⟩;obtain⟨h1,u,h2,h3⟩:=hr.2 j hj;have hb:=hw hr.1;exact⟨by rw[←h1];simp[World.frozen?,wA,hb],u,by rw[←h2];exact ZG hb,hv _ _ h3⟩
 | arr t l=>
  refine⟨hr.1,?_⟩
  rcases hr.2 with h | ⟨h0,he,h1,h2,h3,h4⟩
  ·exact .inl h
  ·have hb:=hw h0;refine .inr ⟨h0,he.same hb,h1,h2,λj hj=>?_,λi hi j hj=>?_⟩
   ·have:=h3 j hj;exact⟨by rw[←this.1];simp[World.frozen?,wA,hb],by rw[←this.2];congr 1;exact ZG hb⟩
   ·obtain⟨u,h5,h6⟩:=h4 i hi j hj;exact⟨u,by rw[←h5];exact ZG hb,hv _ _ h6⟩
def VA.alloc(hh:VA w0 outer own ρ h w)(r:Nat)(hr:ρ r=none)(ri:RI)(hb:ri.nl=false→ri.b=w.heap.size)(w':World)(pY:Wx w w')
  (hw:∀b,b<w.heap.size→w'.heap[b]?=w.heap[b]?) (RV:ri.nl=false→w.heap.size<w'.heap.size) (c:ND)
  (hc:(∀ u d,VR w ρ (jA outer ρ h) u d→VR w' (sA ρ r (some ri)) (jA outer (sA ρ r (some ri)) (sA h r (some ⟨c, .own⟩))) u d)→
   KC w' (sA ρ r (some ri)) (jA outer (sA ρ r (some ri)) (sA h r (some ⟨c, .own⟩))) ri c):
  VA w0 outer own (sA ρ r (some ri)) (sA h r (some ⟨c, .own⟩)) w'∧
   ∀u d,VR w ρ (jA outer ρ h) u d→VR w' (sA ρ r (some ri)) (jA outer (sA ρ r (some ri)) (sA h r (some ⟨c, .own⟩))) u d:=by
 have hρ:∀q qi,ρ q=some qi→sA ρ r (some ri) q=some qi:=λq qi hq=>by
  rw[tA];exact hq;rintro rfl;simp[hr]at hq
 have hh':∀q row,h q=some row→q≠r:=λq row hq=>by
  rintro rfl;obtain⟨qi,h1,_⟩:=hh.rows q row hq;simp[hr]at h1
 have ZV:∀b,jA outer (sA ρ r (some ri)) (sA h r (some ⟨c, .own⟩)) b→jA outer ρ h b∨w.heap.size≤b:=by
  rintro b (aX | ⟨q,row,qi,h1,h2,h3,h4,h5⟩)
  ·exact .inl (.inl aX)
  ·by_cases hq:q=r
   ·subst hq;rw[EA]at h3;cases h3
    grind
   ·rw[tA _ _ _ _ hq]at h1 h3;exact .inl (.inr ⟨q,row,qi,h1,h2,h3,h4,h5⟩)
 have hv:∀u d,VR w ρ (jA outer ρ h) u d→VR w' (sA ρ r (some ri)) (jA outer (sA ρ r (some ri)) (sA h r (some ⟨c, .own⟩))) u d:=λu d hu=>
  hu.mono hρ (λb _ hb=>hw b hb) ZV
 refine⟨⟨hh.wx.trans pY,λb hb ho=>(hw b (Nat.lt_of_lt_of_le hb hh.wx.size)).trans (hh.old b hb ho),hh.outLt,?_,?_⟩,hv⟩
 ·intro q row hq
  by_cases XV:q=r
  ·subst XV;rw[EA]at hq;cases hq;refine⟨ri,EA _ _ _,hc hv,λhn=>?_⟩;rw[hb hn];exact⟨⟨λho=>by have:=(hh.outLt _ ho).1;have:=hh.wx.size;omega,λ_=> .inl hh.wx.size⟩,RV hn⟩
  ·rw[tA _ _ _ _ XV]at hq;obtain⟨qi,h1,h2,h3⟩:=hh.rows q row hq;refine⟨qi,hρ q qi h1,h2.keep (λhn=>hw _ (h3 hn).2) hv,λhn=>⟨(h3 hn).1,Nat.lt_of_lt_of_le (h3 hn).2 pY.size⟩⟩
 ·intro q q' row row' qi qi' h1 h2 h3 h4 h5 h6 h7
  by_cases hq:q=r<;>by_cases vX:q'=r
  ·rw[hq,vX]
  ·subst hq;rw[EA]at h3;cases h3;rw[tA _ _ _ _ vX]at h2 h4;obtain⟨qi'',h8,_,h9⟩:=hh.rows q' row' h2
   grind
  ·subst vX;rw[EA]at h4;cases h4;rw[tA _ _ _ _ hq]at h1 h3;obtain⟨qi'',h8,_,h9⟩:=hh.rows q row h1
   grind
  ·rw[tA _ _ _ _ hq]at h1 h3;rw[tA _ _ _ _ vX]at h2 h4;exact hh.inj q q' row row' qi qi' h1 h2 h3 h4 h5 h6 h7
def VA.write(hh:VA w0 outer own ρ h w){r:Nat}{c:ND}{ri:RI}(hr:h r=some ⟨c, .own⟩)(hρ:ρ r=some ri)(hn:ri.nl=false)(w':World)
  (pY:Wx w w') (RV:w'.heap.size=w.heap.size) (hw:∀b,b≠ri.b→w'.heap[b]?=w.heap[b]?) (c':ND)
  (hc:(∀u d,VR w ρ (jA outer ρ h) u d→VR w' ρ (jA outer ρ (sA h r (some ⟨c', .own⟩))) u d)→KC w' ρ (jA outer ρ (sA h r (some ⟨c', .own⟩))) ri c'):
  VA w0 outer own ρ (sA h r (some ⟨c', .own⟩)) w'∧∀u d,VR w ρ (jA outer ρ h) u d→VR w' ρ (jA outer ρ (sA h r (some ⟨c', .own⟩))) u d:=by
 have C0:jA outer ρ h ri.b:= .inr ⟨r,_,ri,hr,rfl,hρ,hn,rfl⟩
 have ZV:∀b,jA outer ρ (sA h r (some ⟨c', .own⟩)) b→jA outer ρ h b:=λb hb=>hb.mono λq row' h1 h2=>by
  by_cases hq:q=r
  ·subst hq;exact⟨_,hr,rfl⟩
  ·rw[tA _ _ _ _ hq]at h1;exact⟨row',h1,h2⟩
 have hv:∀u d,VR w ρ (jA outer ρ h) u d→VR w' ρ (jA outer ρ (sA h r (some ⟨c', .own⟩))) u d:=λu d hu=>
  hu.mono (λ_ _ h=>h) (λb hb _=>hw b λe=>hb (e▸C0)) λb hb=> .inl (ZV b hb)
 obtain⟨ri',h6,_,h7⟩:=hh.rows r _ hr;rw[hρ]at h6;cases h6;refine⟨⟨hh.wx.trans pY,λb hb ho=>?_,hh.outLt,?_,?_⟩,hv⟩
 ·refine(hw b ?_).trans (hh.old b hb ho);rintro rfl
  rcases(h7 hn).1.2 rfl with h8 | h8
  ·omega
  ·exact ho h8
 ·intro q row hq
  by_cases XV:q=r
  ·subst XV;rw[EA]at hq;cases hq
   grind
  ·rw[tA _ _ _ _ XV]at hq;obtain⟨qi,h1,h2,h3⟩:=hh.rows q row hq;refine⟨qi,h1,h2.keep (λY0=>hw _ ?_) hv,λY0=>by rw[RV];exact h3 Y0⟩;intro e;exact XV (hh.inj q r row _ qi ri hq hr h1 hρ Y0 hn e)
 ·intro q q' row row' qi qi' h1 h2 h3 h4 h5 h6 h7
  have:∀x y,sA h r (some ⟨c', .own⟩) x=some y→∃z,h x=some z:=λx y hx=>by
   by_cases hq:x=r
   ·grind
   ·rw[tA _ _ _ _ hq]at hx;exact⟨_,hx⟩
  obtain⟨z,hz⟩:=this _ _ h1;obtain⟨z',dY⟩:=this _ _ h2;exact hh.inj q q' z z' qi qi' hz dY h3 h4 h5 h6 h7
def VA.less(hh:VA w0 outer own ρ h w){h':Nat→Option kA}(hs:∀r row',h' r=some row'→∃row,h r=some row∧row.c=row'.c∧(row'.m.isRo=false→row.m.isRo=false)):
  VA w0 outer own ρ h' w∧∀u d,VR w ρ (jA outer ρ h) u d→VR w ρ (jA outer ρ h') u d:=by
 have ZV:∀b,jA outer ρ h' b→jA outer ρ h b:=λb hb=>hb.mono λq row' h1 h2=>by
  grind
 have hv:∀u d,VR w ρ (jA outer ρ h) u d→VR w ρ (jA outer ρ h') u d:=λu d hu=>hu.mono (λ_ _ h=>h) (λ_ _ _=>rfl) λb hb=> .inl (ZV b hb);refine⟨⟨hh.wx,hh.old,hh.outLt,λr row' hr=>?_,λq q' row row' qi qi' h1 h2 h3 h4 h5 h6 h7=>?_⟩,hv⟩
 ·obtain⟨row,h1,h2,h6⟩:=hs r row' hr;obtain⟨ri,h3,h4,h5⟩:=hh.rows r row h1;exact⟨ri,h3,by rw[←h2];exact h4.keep (λ_=>rfl) hv,λhn=>⟨⟨(h5 hn).1.1,λhm=>(h5 hn).1.2 (h6 hm)⟩,(h5 hn).2⟩⟩
 ·obtain⟨z,hz,_⟩:=hs _ _ h1;obtain⟨z',dY,_⟩:=hs _ _ h2;exact hh.inj q q' z z' qi qi' hz dY h3 h4 h5 h6 h7
def VA.world(hh:VA w0 outer own ρ h w){w':World}(pY:Wx w w')(CW:w'.heap=w.heap):
  VA w0 outer own ρ h w'∧∀u d,VR w ρ (jA outer ρ h) u d→VR w' ρ (jA outer ρ h) u d:=by
 have hv:∀u d,VR w ρ (jA outer ρ h) u d→VR w' ρ (jA outer ρ h) u d:=λu d hu=>hu.mono (λ_ _ h=>h) (λ_ _ _=>by rw[CW]) λb hb=> .inl hb;refine⟨⟨hh.wx.trans pY,λb hb ho=>by rw[CW];exact hh.old b hb ho,hh.outLt,λr row hr=>?_,hh.inj⟩,hv⟩;obtain⟨ri,h1,h2,h3⟩:=hh.rows r row hr;exact⟨ri,h1,h2.keep (λ_=>by rw[CW]) hv,λhn=>by rw[CW];exact h3 hn⟩
end
end Go.D
namespace Go.D
variable [fA]
section
variable {C:Cx} {w0:World} {outer own:Nat→Prop} {ρ:Nat→Option RI} {st:St} {a:Act} {w:World} {h:Nat→Option kA}
omit [fA]in
def SD:∀(ids:List Nat) (h:Nat→Option kA) (r:Nat),
  FB h ids r=if r∈ids then(h r).map (λrow=>{row with m:= .ro})else h r
 | [],h,r=>by simp[FB]
 | q :: qs,h,r=>by
  rw[FB,SD qs]
  by_cases hq:r=q
  ·subst hq;rw[EA]
   by_cases hm:r∈qs
   ·simp only[hm,if_true,List.mem_cons,or_true,if_true];cases h r<;>rfl
   ·simp[hm]
  ·rw[tA _ _ _ _ hq];simp[hq]
omit [fA]in
def BO(h:Nat→Option kA)(ids:List Nat):∀r row',FB h ids r=some row'→∃row,h r=some row∧row.c=row'.c∧(row'.m.isRo=false→row.m.isRo=false):=by
 intro r row' hr;rw[SD]at hr
 by_cases hm:r∈ids
 ·simp only[hm,if_true,Option.map_eq_some_iff]at hr;obtain⟨row,h1,rfl⟩:=hr;exact⟨row,h1,rfl,by simp[wF.isRo]⟩
 grind
def VA.mark(hh:VA w0 outer own ρ h w)(ids:List Nat):VA w0 outer own ρ (FB h ids) w∧
  ∀u d,VR w ρ (jA outer ρ h) u d→VR w ρ (jA outer ρ (FB h ids)) u d:=hh.less (BO h ids)
omit [fA]in
def zik{i j:List Nat}(hs:∀r∈i,r∈j){b:Nat}(hb:jA outer ρ (FB h j) b):jA outer ρ (FB h i) b:=
 hb.mono λr row' h1 h2=>by
  rw[SD]at h1
  by_cases hm:r∈j
  ·simp only[hm,if_true,Option.map_eq_some_iff]at h1;obtain⟨row,_,rfl⟩:=h1;simp[wF.isRo]at h2
  ·simp only[hm,if_false]at h1;exact⟨row',by rw[SD,if_neg (λh=>hm (hs r h))];exact h1,h2⟩
def kO{i j:List Nat}(hs:∀r∈i,r∈j){u:Value}{d:V}(hv:VR w ρ (jA outer ρ (FB h i)) u d):VR w ρ (jA outer ρ (FB h j)) u d:=
 hv.mono (λ_ _ h=>h) (λ_ _ _=>rfl) λ_ hb=> .inl (zik hs hb)
def zag(hh:VA w0 outer own ρ h w){r:Nat}{row:kA}{ri:RI}(hr:h r=some row)(hρ:ρ r=some ri)(hn:ri.nl=false)
  {ids:List Nat} (hm:r∈ids):¬jA outer ρ (FB h ids) ri.b:=by
 obtain⟨ri',h1,_,h2⟩:=hh.rows r row hr;rw[hρ]at h1;cases h1;rintro(hb | ⟨q,row',qi,h3,h4,h5,h6,h7⟩)
 ·exact(h2 hn).1.1 hb
 ·rw[SD]at h3
  by_cases hq:q∈ids
  ·simp only[hq,if_true,Option.map_eq_some_iff]at h3;obtain⟨_,_,rfl⟩:=h3;simp[wF.isRo]at h4
  ·simp only[hq,if_false]at h3;exact hq (by rw[hh.inj q r row' row qi ri h3 hr h5 hρ h6 hn h7];exact hm)
def cC(d:V):Prop:=∀S:Nat→Prop,eB S d
omit [fA]in
def LI(t:TN)(l:List (El t)):cC (.sl t l):=λS=> .sl t l λi _ j _=>aJ S t _ j
omit [fA]in
def zcw(t:TN)(x:El t)(j:Nat)(hj:j<sz t):((enc t x).getD j .undef).leaf=true:=by
 have h1:=zeb t x;have h2:j<(enc t x).length:=by rw[fC];exact hj
 grind
def zfm{bad:Nat→Prop}{ri:RI}{t:TN}{l:List (El t)}(hr:KC w ρ bad ri (.arr t l))(hn:ri.nl=false)(hb:¬bad ri.b)
  (off len cap:Nat) (LV:off+len≤l.length) (WY:len≤cap) (EY:cap≤maxLen):
  VR w ρ bad (.slice (some (wA ri.b (off *sz t))) len cap) (.sl t ((l.drop off).take len)):=by
 rcases hr.2 with h | ⟨h0,he,h1,h2,h3,h4⟩
 ·grind
 have hl:((l.drop off).take len).length=len:=by simp;omega
 have:=VR.slC (w:=w) (ρ:=ρ) (bad:=bad) t ((l.drop off).take len) ri.b (off *sz t) cap (λi j=>(w.cell? (wA ri.b (off *sz t+i *sz t+j))).getD undef) hb (by omega) EY (λ_=> .inr he)
  (fun i hi j hj=>by
   obtain⟨u,h5,h6⟩:=h4 (off+i) (by omega) j hj;rw[Nat.add_mul]at h5;rw[h5];rfl)
  (fun i hi j hj=>by
   obtain⟨u,h5,h6⟩:=h4 (off+i) (by omega) j hj;rw[Nat.add_mul]at h5;rw[h5,Option.getD_some];have:((l.drop off).take len)[i]=l[off+i]'(by omega):=by simp
   rw[this];exact h6)
 rw[hl]at this;exact this
omit [fA]in
def QI{t:TN}(e:t=t)(l:List (El t)):TN.cast e l=l:=by cases e;rfl
omit [fA]in
def ES:∀(n:Nat) (d:V),CE n d=true→cC d∧d.leaf=true
 | 0,d,h=>by simp[CE]at h
 | n+1,d,h=>by
  cases d<;>simp only[CE,List.all_eq_true]at h<;>try (cases h;done)
  ·exact⟨λ_=> .bool _,rfl⟩
  ·exact⟨λ_=> .int _ _,rfl⟩
  ·exact⟨λ_=> .str _,rfl⟩
  ·exact⟨λ_=> .nil,rfl⟩
  ·exact⟨LI _ _,rfl⟩
  ·exact⟨λS=> .fp _ _ λj hj=>(ES n _ (h _ (List.getElem_mem hj))).1 S,rfl⟩
  ·exact⟨λS=> .fn _ _ λj hj=>(ES n _ (h _ (List.getElem_mem hj))).1 S,rfl⟩
  ·exact⟨λ_=> .nili,rfl⟩
  ·exact⟨λ_=> .ifc _,rfl⟩
def zau(hh:VA w0 outer own ρ h w){v:Value}{d d':V}{ids:List Nat}(hv:VR w ρ (jA outer ρ h) v d)(hf:ME h d=some (d',ids)):
  VR w ρ (jA outer ρ (FB h ids)) v d'∧cC d'∧d'.leaf=true:=by
 unfold ME at hf;split at hf
 ·rename_i r;split at hf
  ·rename_i t l m hr;cases S6:m.isLock<;>simp[S6]at hf
   obtain⟨rfl,rfl⟩:=hf;refine⟨?_,LI _ _,rfl⟩;obtain⟨hh',P3⟩:=hh.mark [r];obtain⟨ri,hρ,QV,Z0⟩:=hh.rows r _ hr;have v1:=QV.keep (λ_=>rfl) P3;cases hv with
   | ow _ ri' h1 h2 h3 h4=>
    rw[hρ]at h1;cases h1;have:=zfm v1 h4 (zag hh hr hρ h4 (by simp)) 0 ri.n ri.cap (by have:=QV.1;omega) h2 h3;have hln:l.length=ri.n:=QV.1.symm
    grind
   | owN _ ri' ao h1 h2 h3=>
    rw[hρ]at h1;cases h1
    rcases QV.2 with h | ⟨h,_⟩
    ·rw[h.2];exact .slE _ _ _ (Nat.zero_le _)
    grind
  ·cases hf
 ·rename_i r t off len;split at hf
  ·rename_i t' l m hr;cases S6:m.isLock
   case true=>simp[S6]at hf
   simp only[S6,cond_false]at hf;split at hf
   case isFalse=>cases hf
   rename_i e;subst e;simp only[QI,Option.some.injEq,Prod.mk.injEq]at hf;obtain⟨rfl,rfl⟩:=hf;refine⟨?_,LI _ _,rfl⟩;obtain⟨hh',P3⟩:=hh.mark [r];obtain⟨ri,hρ,QV,Z0⟩:=hh.rows r _ hr;have v1:=QV.keep (λ_=>rfl) P3;cases hv with
   | ov _ _ _ _ cap ao ri' h1 O3 ha hl hc=>
    rw[hρ]at h1;cases h1;have hn:=QV.1
    rcases ha with⟨rfl,_⟩ | ⟨rfl,YV,_⟩
    ·rw[List.take_zero];exact .slE _ _ _ hc
    ·exact zfm v1 YV (zag hh hr hρ YV (by simp)) off len cap (by omega) hl hc
  ·cases hf
 ·cases hb:CE 8 d<;>simp[hb]at hf
  obtain⟨rfl,rfl⟩:=hf;exact⟨hv,ES 8 _ hb⟩
def fS(hh:VA w0 outer own ρ h w):∀{ds ds':List V} {ids:List Nat} {vs:Nat→Value} (_:∀j (hj:j<ds.length),VR w ρ (jA outer ρ h) (vs j) ds[j])
  (_:pE h ds=some (ds',ids)),ds'.length=ds.length∧∀j (hj:j<ds'.length),VR w ρ (jA outer ρ (FB h ids)) (vs j) ds'[j]∧cC ds'[j]∧(ds'[j]).leaf=true
 | [],ds',ids,vs,_,hf=>by
  simp[pE]at hf;obtain⟨rfl,rfl⟩:=hf;exact⟨rfl,λj hj=>by simp at hj⟩
 | d :: ds,ds',ids,vs,hv,hf=>by
  simp only[pE]at hf;split at hf
  ·cases hf
  ·rename_i d' i h1;split at hf
   ·cases hf
   ·rename_i ds'' j h2;simp only[Option.some.injEq,Prod.mk.injEq]at hf;obtain⟨rfl,rfl⟩:=hf;have h3:=zau hh (hv 0 (by simp)) h1;have h4:=fS hh (vs:=λj=>vs (j+1)) (λj hj=>hv (j+1) (by simp;omega)) h2;refine⟨by simp[h4.1],λk hk=>?_⟩;cases k with
    | zero=>exact⟨kO (λr hr=>by simp[hr]) h3.1,h3.2⟩
    | succ k=>
     have:=h4.2 k (by simpa using hk);exact⟨kO (λr hr=>by simp[hr]) this.1,this.2⟩
omit [fA]in
def zkk{cs:List V}(h:∀j (hj:j<cs.length),cC cs[j]):cC (.agg cs):=λS=> .agg _ λj hj=>h j hj S
def zbH(hh:VA w0 outer own ρ h w){v:Value}{d d':V}{ids:List Nat}(hv:VR w ρ (jA outer ρ h) v d)(hf:zF h d=some (d',ids)):
  VR w ρ (jA outer ρ (FB h ids)) v d'∧cC d':=by
 unfold zF at hf;split at hf
 ·rename_i cs;split at hf
  ·rename_i cs' i h1;simp only[Option.some.injEq,Prod.mk.injEq]at hf;obtain⟨rfl,rfl⟩:=hf;cases hv with
   | agg _ vs hs hv=>
    have:=fS hh (vs:=λj=>vs.getD j undef) hv h1;exact⟨.agg _ _ (by rw[hs,this.1]) λj hj=>(this.2 j hj).1,zkk λj hj=>(this.2 j hj).2.1⟩
  ·cases hf
 ·rename_i r off;split at hf
  ·rename_i cs m hr;cases hb:(m.isLock||cs.isEmpty)
   case true=>simp[hb]at hf
   simp only[hb,cond_false]at hf;split at hf
   ·rename_i cs' i h1;simp only[Option.some.injEq,Prod.mk.injEq]at hf;obtain⟨rfl,rfl⟩:=hf;obtain⟨ri,hρ,QV,Z0⟩:=hh.rows r _ hr;cases hv with
    | bp _ _ ri' h2 hn=>
     rw[hρ]at h2;cases h2
     have SV:∀j,j<cs.length→w.cell? (wA ri.b (0+j))=some ((w.cell? (wA ri.b (0+j))).getD undef):=λj hj=>by
      obtain⟨_,u,h3,_⟩:=QV.2 j hj
      grind
     have h4:=fS hh (vs:=λj=>(w.cell? (wA ri.b (0+j))).getD undef) (λj hj=>by
      obtain⟨_,u,h3,h5⟩:=QV.2 j hj;rw[Nat.zero_add,h3];exact h5) h1
     have Q3:0<cs.length:=by
      cases cs with
      | nil=>simp at hb
      | cons=>simp
     have:=VR.fp (w:=w) (ρ:=ρ) (bad:=jA outer ρ (FB h (r :: i))) cs' off ri.b 0 (λj=>(w.cell? (wA ri.b (0+j))).getD undef) (by omega)
      (zag hh hr hρ hn (by simp)) (λj hj=>SV j (by omega)) (λj hj=>kO (λq hq=>by simp[hq]) (h4.2 j hj).1)
     rw[Nat.zero_add]at this;exact⟨this,λS=> .fp _ _ λj hj=>(h4.2 j hj).2.1 S⟩
   ·cases hf
  ·cases hf
 ·have:=zau hh hv hf
  grind
def zar(hh:VA w0 outer own ρ h w):∀{ds ds':List V} {ids:List Nat} {vs:Nat→Value} (_:∀j (hj:j<ds.length),VR w ρ (jA outer ρ h) (vs j) ds[j])
  (_:WH h ds=some (ds',ids)),ds'.length=ds.length∧∀j (hj:j<ds'.length),VR w ρ (jA outer ρ (FB h ids)) (vs j) ds'[j]∧cC ds'[j]
 | [],ds',ids,vs,_,hf=>by
  simp[WH]at hf;obtain⟨rfl,rfl⟩:=hf;exact⟨rfl,λj hj=>by simp at hj⟩
 | d :: ds,ds',ids,vs,hv,hf=>by
  simp only[WH]at hf;split at hf
  ·cases hf
  ·rename_i d' i h1;split at hf
   ·cases hf
   ·rename_i ds'' j h2;simp only[Option.some.injEq,Prod.mk.injEq]at hf;obtain⟨rfl,rfl⟩:=hf;have h3:=zbH hh (hv 0 (by simp)) h1;have h4:=zar hh (vs:=λj=>vs (j+1)) (λj hj=>hv (j+1) (by simp;omega)) h2;refine⟨by simp[h4.1],λk hk=>?_⟩;cases k with
    | zero=>exact⟨kO (λr hr=>by simp[hr]) h3.1,h3.2⟩
    | succ k=>
     have:=h4.2 k (by simpa using hk);exact⟨kO (λr hr=>by simp[hr]) this.1,this.2⟩
def VR.noRef{bad:Nat→Prop}{u:Value}{d:V}(hv:VR w ρ bad u d)(hd:cC d)(ρ':Nat→Option RI):VR w ρ' bad u d:=
 hv.keep (S:=λ_=>False) (hd _) (λ_ _ h=>h.elim) (λ_ _ _=>rfl) λ_ h=> .inl h
end
end Go.D
namespace Go.D
variable [fA]
section
variable {C:Cx} {w0:World} {outer own:Nat→Prop} {ρ:Nat→Option RI} {st st':St} {a:Act} {w:World} {h:Nat→Option kA}
def mU{bad:Nat→Prop}(v:Value):VR w ρ bad v (uK v):=by
 unfold uK;split
 ·exact .bool _
 ·rename_i k n;cases hb:(decide (k.min≤n)&&decide (n≤k.max))
  ·exact .undef _
  ·simp at hb;exact .int _ _ hb
 ·rename_i s;cases hb:Nat.ble s.data.toList.length 1000000
  ·exact .undef _
  ·have:=Nat.le_of_ble_eq_true hb;have h2:(⟨s.data.toList.toArray⟩:ByteArray)=s:=by cases s;simp
   have h3:=VR.str (w:=w) (ρ:=ρ) (bad:=bad) s.data.toList (by unfold maxLen;omega);simp_all
 ·exact .nil
 ·exact .nili
 ·exact .undef _
def NA.opd(hr:NA C w0 outer own ρ st a w)(x:Operand):VR w ρ (jA outer ρ st.h) (a.eval x) (opd st.s x):=by
 cases x with
 | tmp t=>exact hr.slots t
 | const v=>exact mU v
 | global g=>exact .undef _
 | func f=>exact .fn f [] #[] rfl λj hj=>by simp at hj
def RB(P:Program)(o:Oper)(a:Act)(w:World)(post:Act→World→Prop):Prop:=
 ∀next Q,(∀a' w',post a' w'→next a' w')→o.wp P a w next Q
omit [fA]in
def vB{P:Program}{o:Oper}{v:Value}{w':World}{post:Act→World→Prop}(IV:(execOp a.eval o).run P w= .ok (.value v) w')
  (hp:post (a.put o.dst v) w'):RB P o a w post:=λnext Q hn=>by
 unfold Oper.wp;rw[IV,Oper.upon_value];exact hn _ _ hp
omit [fA]in
def zdS{P:Program}{o:Oper}{w':World}{post:Act→World→Prop}(IV:(execOp a.eval o).run P w= .ok .skip w')
  (hp:post (a.put o.dst undef) w'):RB P o a w post:=λnext Q hn=>by
 unfold Oper.wp;rw[IV,Oper.upon_skip];exact hn _ _ hp
def Ext(i:Nat)(ρ ρ':Nat→Option RI):Prop:=∀r,¬(i≤r∧r<i+128)→ρ' r=ρ r
def JB(C:Cx)(w0:World)(outer own:Nat→Prop)(i:Nat)(ρ:Nat→Option RI)(st':St)(a':Act)(w':World):Prop:=
 ∃ρ',NA C w0 outer own ρ' st' a' w'∧Ext i ρ ρ'∧∀r ri,ρ r=some ri→ρ' r=some ri
def NA.after(hr:NA C w0 outer own ρ st a w){i:Nat}{dst:Option Nat}{v:Value}{d:V}(hv:VR w ρ (jA outer ρ st.h) v d)
  (hk:IA C dst st d some=some st'):JB C w0 outer own i ρ st' (a.put dst v) w:=
 ⟨ρ,(hr.put hv hk).1,λ_ _=>rfl,λ_ _ h=>h⟩
def NA.turn(hr:NA C w0 outer own ρ st a w){ρ':Nat→Option RI}{h':Nat→Option kA}{w':World}(hh:VA w0 outer own ρ' h' w')
  (hv:∀u d,VR w ρ (jA outer ρ st.h) u d→VR w' ρ' (jA outer ρ' h') u d):NA C w0 outer own ρ' {st with h:=h'} a w':=
 ⟨hh,λi=>hv _ _ (hr.slots i),hr.size,hr.defers,hr.glob⟩
omit [fA]in
def sP(w:World)(o:Obj):Wx w (w.alloc o):=⟨rfl,rfl,rfl,by simp⟩
omit [fA]in
def ze8(w:World):Wx w w.drew:=⟨rfl,rfl,rfl,Nat.le_refl _⟩
omit [fA]in
def iO(w:World)(o:Obj)(b:Nat)(hb:b<w.heap.size):(w.alloc o).heap[b]?=w.heap[b]?:=by
 show(w.heap.push o)[b]?=_
 grind
def NA.newRow(hr:NA C w0 outer own ρ st a w){i:Nat}(hi:ρ i=none)(ri:RI)(hb:ri.nl=false→ri.b=w.heap.size)(w':World)(pY:Wx w w')
  (hw:∀b,b<w.heap.size→w'.heap[b]?=w.heap[b]?) (RV:ri.nl=false→w.heap.size<w'.heap.size) {c:ND} {dst:Option Nat} {v:Value} {d:V}
  (hc:∀bad,(∀u d,VR w ρ (jA outer ρ st.h) u d→VR w' (sA ρ i (some ri)) bad u d)→KC w' (sA ρ i (some ri)) bad ri c)
  (hv:∀bad,VR w' (sA ρ i (some ri)) bad v d) (hk:OD C dst st i c d some=some st'):JB C w0 outer own i ρ st' (a.put dst v) w':=by
 obtain⟨h1,h2⟩:=hr.heap.alloc i hi ri hb w' pY hw RV c (hc _);refine⟨_,((hr.turn h1 h2).put (hv _) hk).1,λr hn=>tA _ _ _ _ ?_,λr qi hq=>?_⟩
 ·grind
 ·rw[tA];exact hq;rintro rfl;simp[hi]at hq
def jT{bad:Nat→Prop}{v:Value}{d:V}(hv:VR w ρ bad v d)(hl:rF (cellsOf d)=true):
  v.cells.size=(cellsOf d).length∧(∀j (hj:j<(cellsOf d).length),VR w ρ bad (v.cells.getD j undef) (cellsOf d)[j])∧∀u∈v.cells.toList,u.oneCell'=true:=by
 by_cases ha:∃cs,d= .agg cs
 ·obtain⟨cs,rfl⟩:=ha;cases hv with
  | agg _ vs hs hv=>
   refine⟨hs,hv,λu hu=>?_⟩;obtain⟨j,hj,rfl⟩:=List.mem_iff_getElem.1 hu;have IW:j<vs.size:=by simpa[Value.cells]using hj
   have h1:=hv j (by omega);simp only[cellsOf]at hl;have h2:=List.all_eq_true.1 hl cs[j] (List.getElem_mem (by omega));have h3:=h1.one h2;rw[Array.getD_eq_getD_getElem?,Array.getElem?_eq_getElem IW]at h3;simpa[Value.cells]using h3
 ·have hc:cellsOf d=[d]:=by cases d<;>first | rfl | exact absurd ⟨_,rfl⟩ ha
  rw[hc]at hl⊢;have hd:d.leaf=true:=by simpa[rF]using hl
  have h1:=hv.one hd;have hcv:v.cells= #[v]:=by cases v<;>first | rfl | (simp[Value.oneCell']at h1)
  simp_all
omit [fA]in
def JJ(w:World)(c:Array Value)(e:TypeId)(j:Nat)(hj:j<c.size):(w.alloc (.cells c e)).cell? (wA w.heap.size j)=some (c.getD j undef):=by
 rw[wA,World.cell?_alloc_new,Array.getD_eq_getD_getElem?,Array.getElem?_eq_getElem hj];rfl
def zmY{bad bad':Nat→Prop}{ρ':Nat→Option RI}{c:Array Value}{e:TypeId}{cs:List V}{ri:RI}(hn:ri.nl=false)(hb:ri.b=w.heap.size)(hs:c.size=cs.length)
  (hv:∀j (hj:j<cs.length),VR w ρ bad (c.getD j undef) cs[j]) (hk:∀u d,VR w ρ bad u d→VR (w.alloc (.cells c e)) ρ' bad' u d):
  KC (w.alloc (.cells c e)) ρ' bad' ri (.box cs):=by
 refine⟨hn,λj hj=>?_⟩;rw[hb];exact⟨World.frozen?_alloc_new _ _ _ _,_,JJ w c e j (by omega),hk _ _ (hv j hj)⟩
def zfl(hr:NA C w0 outer own ρ st a w){i:Nat}(hi:ρ i=none){v:Value}{e:TypeId}{cs:List V}(hs:v.cells.size=cs.length)
  (hv:∀j (hj:j<cs.length),VR w ρ (jA outer ρ st.h) (v.cells.getD j undef) cs[j]) {dst:Option Nat} (hk:OD C dst st i (.box cs) (.bp i 0) some=some st'):
  JB C w0 outer own i ρ st' (a.put dst (.pointer (some ⟨w.heap.size,0,none⟩))) (w.alloc (.cells v.cells e)):=
 hr.newRow hi ⟨w.heap.size,0,0,false⟩ (λ_=>rfl) _ (sP _ _) (λb hb=>iO _ _ _ hb) (λ_=>by simp)
  (λbad wX=>zmY rfl rfl hs hv wX) (λbad=> .bp i 0 ⟨w.heap.size,0,0,false⟩ (EA _ _ _) rfl) hk
variable {o:Oper} {i:Nat} (hr:NA C w0 outer own ρ st a w)
include hr
def zeV(x:Operand)(ho:o.op= .move x∨o.op= .assign x)(hk:IA C o.dst st (opd st.s x) some=some st'):
  RB C.P o a w (JB C w0 outer own i ρ st'):=
 vB (v:=a.eval x) (w':=w) (by rcases ho with ho | ho<;>simp[execOp,ho]) (hr.after (hr.opd x) hk)
def zme(c x y:Operand)(ho:o.op= .pick c x y)(t p q:Bool)(hc:opd st.s c= .bool t)(hx:opd st.s x= .bool p)(hy:opd st.s y= .bool q)
  (hk:IA C o.dst st (.bool (cond t p q)) some=some st'):RB C.P o a w (JB C w0 outer own i ρ st'):=by
 have h1:=hr.opd c;rw[hc]at h1;have h2:=hr.opd x;rw[hx]at h2;have h3:=hr.opd y;rw[hy]at h3;generalize O7:a.eval c=vc at h1;generalize P7:a.eval x=vx at h2;generalize hey:a.eval y=vy at h3;cases h1;cases h2;cases h3;refine vB (v:= .bool (cond t p q)) (w':=w) ?_ (hr.after (.bool _) hk);simp[execOp,ho,O7,P7,hey,asBool]
def zlU(e:TypeId)(ho:o.op= .alloc e)(hi:ρ i=none)(cs:List V)(hz:zbc C.P e=some cs)(hk:OD C o.dst st i (.box cs) (.bp i 0) some=some st'):
  RB C.P o a w (JB C w0 outer own i ρ st'):=by
 unfold zbc at hz;cases dY:(C.P.info? e).bind (·.zero)with
 | none=>rw[dY]at hz;cases hz
 | some z=>
  rw[dY]at hz;simp only[Option.map_some,Option.some.injEq]at hz;subst hz;obtain⟨info,eY,hi2⟩:=Option.bind_eq_some_iff.1 dY;refine vB (w':=w.alloc (.cells z.cells e)) ?_ (zfl hr hi (v:=z) (e:=e) (by simp) (λj hj=>?_) hk)
  ·simp[execOp,ho,Instr.alloc,zeroValue,typeInfo,eY,hi2,newVar,newRow]
  ·rw[List.getElem_map];have IW:j<z.cells.size:=by simpa using hj
   rw[Array.getD_eq_getD_getElem?,Array.getElem?_eq_getElem IW];exact mU _
def zm2(e:TypeId)(x:Operand)(ho:o.op= .box e x)(hi:ρ i=none)(hl:rF (cellsOf (opd st.s x))=true)
  (hk:OD C o.dst st i (.box (cellsOf (opd st.s x))) (.bp i 0) some=some st'):RB C.P o a w (JB C w0 outer own i ρ st'):=by
 obtain⟨h1,h2,h3⟩:=jT (hr.opd x) hl;refine vB (w':=w.alloc (.cells (a.eval x).cells e)) ?_ (zfl hr hi (v:=a.eval x) (e:=e) h1 h2 hk);simp[execOp,ho,Instr.box,newVar,newRow]
omit hr
def zP(w:World)(ρ:Nat→Option RI)(bad:Nat→Prop)(b o:Nat)(cs:List V):Prop:=
 ∀j (hj:j<cs.length),∃u,w.cell? (wA b (o+j))=some u∧VR w ρ bad u cs[j]
omit [fA]in
def BE(b o n:Nat):(wA b o).add n=wA b (o+n):=Addr.add_lit b o n
omit [fA]in
def RD{P:Program}{t:TypeId}{d:TypeDesc}(h:P.underlying t=some d):(underlying t).run P w= .ok d w:=by
 simp[underlying,h]
omit [fA]in
def yM{P:Program}{t:TypeId}{ag:Bool}(h:xD P t=some ag):(isAgg t).run P w= .ok ag w:=by
 unfold xD at h;unfold isAgg;split at h
 ·rename_i hu;cases h;simp[underlying,hu]
 ·rename_i hu;cases h;simp[underlying,hu]
 ·rename_i d h1 h2 hu;cases h;rw[Sem.run_bind,RD hu,Result.andThen_ok];simp_all
 ·cases h
omit [fA]in
def QH{P:Program}{t:TypeId}{n:Nat}(h:LD P t=some n):(sizeOf t).run P w= .ok n w:=by
 unfold LD at h;obtain⟨i,h1,h2⟩:=Option.map_eq_some_iff.1 h;simp[sizeOf,typeInfo,h1,h2]
def zfe{P:Program}{bad:Nat→Prop}{t:TypeId}{ag:Bool}{n b o off:Nat}{cs:List V}{R:Type}{K:V→Option R}{r:R}(h1:xD P t=some ag)(h2:LD P t=some n)
  (hc:zP w ρ bad b o cs) (hk:yE ag n cs off K=some r):
  ∃d v,K d=some r∧VR w ρ bad v d∧(loadVar t (wA b (o+off))).run P w= .ok v w:=by
 unfold yE at hk;cases ag with
 | true=>
  simp only[XB]at hk;cases hb:Nat.ble (off+n) cs.length
  case false=>simp[hb]at hk
  simp only[hb,XB]at hk;have cW:=Nat.le_of_ble_eq_true hb
  have SV:∀j,j<n→w.cell? ((wA b (o+off)).add j)=some ((w.cell? (wA b (o+off+j))).getD undef):=λj hj=>by
   obtain⟨u,h3,_⟩:=hc (off+j) (by omega);rw[BE,show o+off+j=o+(off+j) by omega,h3];rfl
  refine⟨_, .agg ((List.range n).map λj=>(w.cell? (wA b (o+off+j))).getD undef).toArray,hk,?_,?_⟩
  ·refine .agg _ _ (by simp;omega) λj hj=>?_;have Q7:j<n:=by simp at hj;omega
   obtain⟨u,h3,h4⟩:=hc (off+j) (by omega);have he:((cs.drop off).take n)[j]=cs[off+j]'(by omega):=by simp
   rw[he]
   have hg:(((List.range n).map λj=>(w.cell? (wA b (o+off+j))).getD undef).toArray.getD j undef)=u:=by
    simp[Q7,show o+off+j=o+(off+j) by omega,h3]
   rw[hg];exact h4
  ·simp only[loadVar,Sem.run_bind,yM h1,Result.andThen_ok,Sem.run_ite,if_true,QH h2,run_loadCells w _ n _ SV,Sem.run_pure]
 | false=>
  simp only[jN]at hk;split at hk
  ·rename_i c r' hd
   have NV:off<cs.length:=by
    rcases Nat.lt_or_ge off cs.length with h | h
    ·exact h
    ·rw[List.drop_eq_nil_of_le h]at hd;cases hd
   have z1:cs[off]=c:=by
    rw[List.drop_eq_getElem_cons NV]at hd;exact(List.cons.inj hd).1
   obtain⟨u,h3,h4⟩:=hc off NV;refine⟨c,u,hk,by rw[←z1];exact h4,?_⟩;simp only[loadVar,Sem.run_bind,yM h1,Result.andThen_ok,Sem.run_ite,Bool.false_eq_true,if_false,run_load,h3]
  ·cases hk
omit [fA]in
def zcR(w:World)(x:Addr)(u:Value)(b:Nat)(h:b≠x.block):(w.setCell x u).heap[b]?=w.heap[b]?:=by
 simp only[World.setCell,Array.getElem?_modify]
 grind
omit [fA]in
def FQ:∀(vs:List Value) (o:Nat) (w:World) (b b':Nat),b'≠b→(w.setCells b o vs).heap[b']?=w.heap[b']?
 | [],_,_,_,_,_=>rfl
 | v :: vs,o,w,b,b',h=>by
  rw[World.setCells,FQ vs _ _ b b' h,zcR _ _ _ _ (by simpa using h)]
def ziz{w:World}{x:Addr}{u:Value}{b:Nat}{t:TN}(h:dE w b t):dE (w.setCell x u) b t:=by
 obtain⟨c,e,z,h1,h2⟩:=h
 by_cases hb:x.block=b
 ·refine⟨if x.spot.isSome then c else c.setIfInBounds x.off u,e,z,?_,h2⟩;simp only[World.setCell,Array.getElem?_modify,hb,if_true,h1,Option.map_some]
 ·exact⟨c,e,z,(zcR w x u b (Ne.symm hb)).trans h1,h2⟩
def GV:∀(vs:List Value) (o:Nat) {w:World} {b b':Nat} {t:TN},dE w b' t→dE (w.setCells b o vs) b' t
 | [],_,_,_,_,_,h=>h
 | v :: vs,o,w,b,b',t,h=>by
  rw[World.setCells];exact GV vs _ (ziz h)
omit [fA]in
def JQ:∀(vs:List Value) (o:Nat) (w:World) (b:Nat),(w.setCells b o vs).heap.size=w.heap.size
 | [],_,_,_=>rfl
 | v :: vs,o,w,b=>by rw[World.setCells,JQ vs];simp
omit [fA]in
def yR:∀(vs:List Value) (o:Nat) (w:World) (b:Nat),Wx w (w.setCells b o vs)
 | [],_,_,_=>Wx.refl _
 | v :: vs,o,w,b=>by
  rw[World.setCells];exact Wx.trans (b:=w.setCell ⟨b,o,none⟩ v) ⟨rfl,rfl,rfl,by simp⟩ (yR vs _ _ _)
omit [fA]in
def zaB(cs:List V)(off:Nat)(vs:List V)(cW:off+vs.length≤cs.length):(GG cs off vs).length=cs.length∧
  ∀j (hj:j<cs.length) (IW:j<(GG cs off vs).length),(GG cs off vs)[j]=if h:off≤j∧j<off+vs.length then vs[j - off]'(by omega)else cs[j]:=by
 have LV:(GG cs off vs).length=cs.length:=by simp[GG];omega
 refine⟨LV,λj hj IW=>?_⟩;simp only[GG,List.append_assoc]
 by_cases h1:j<off
 ·grind
 ·rw[List.getElem_append_right (by simp;omega)]
  grind
omit [fA]in
def zd3{P:Program}{t:TypeId}{n b o:Nat}{v:Value}(h2:LD P t=some n)(hs:v.cells.size=n)(h1:∀u∈v.cells.toList,u.oneCell'=true)
  (hc:∀j,j<n→(w.cell? (wA b (o+j))).isSome=true) (hf:∀j,j<n→w.frozen? (wA b (o+j))=false):
  (storeVar t (wA b o) v).run P w= .ok () (w.setCells b o v.cells.toList):=by
 have FZ:=run_storeCells_cells (P:=P) b o v.cells.toList 0 w (λj hj=>by rw[Nat.add_zero];exact hc j (by simpa[hs]using hj)) (λj hj=>by rw[Nat.add_zero];exact hf j (by simpa[hs]using hj)) h1;simp only[Nat.add_zero]at FZ;simp[storeVar,QH h2,hs];exact FZ
end
end Go.D
namespace Go.D
variable [fA]
section
variable {C:Cx} {w0:World} {outer own:Nat→Prop} {ρ:Nat→Option RI} {st st':St} {a:Act} {w:World} {h:Nat→Option kA}
def za1{bad:Nat→Prop}{r off:Nat}{cs:List V}{ri:RI}{v:Value}(hρ:ρ r=some ri)(QV:KC w ρ bad ri (.box cs)){bad':Nat→Prop}(hv:VR w ρ bad' v (.bp r off)):
  v= .pointer (some (wA ri.b (0+off)))∧zP w ρ bad ri.b 0 cs:=by
 cases hv with
 | bp _ _ ri' h1 h2=>
  rw[hρ]at h1;cases h1;refine⟨by rw[Nat.zero_add],λj hj=>?_⟩;obtain⟨_,u,h3,h4⟩:=QV.2 j hj;exact⟨u,by rw[Nat.zero_add];exact h3,h4⟩
omit [fA]in
def nN{α:Type}(l:List α)(j:Nat)(d:α)(hj:j<l.length):l.getD j d=l[j]:=by
 rw[List.getD_eq_getElem?_getD,List.getElem?_eq_getElem hj,Option.getD_some]
def zeC{bad:Nat→Prop}{r k off:Nat}{t:TN}{l:List (El t)}{ri:RI}{v:Value}(hρ:ρ r=some ri)(QV:KC w ρ bad ri (.arr t l)){x:El t}(hx:l[k]?=some x)
  {bad':Nat→Prop} (hv:VR w ρ bad' v (.ep r t k off)):v= .pointer (some (wA ri.b (k *sz t+off)))∧zP w ρ bad ri.b (k *sz t) (enc t x)∧ri.nl=false:=by
 cases hv with
 | ep _ _ _ _ ri' h1 h2=>
  rw[hρ]at h1;cases h1;refine⟨rfl,λj hj=>?_,h2⟩
  rcases QV.2 with h | ⟨h0,_,_,_,_,h4⟩
  ·rw[h2]at h;cases h.1
  ·obtain⟨hk,rfl⟩:=List.getElem?_eq_some_iff.1 hx;have IW:j<sz t:=by rw[←fC t l[k]];exact hj
   obtain⟨u,h5,h6⟩:=h4 k hk j IW;rw[nN _ _ _ hj]at h6;exact⟨u,h5,h6⟩
def zk5{bad:Nat→Prop}{cs:List V}{off:Nat}{v:Value}(hv:VR w ρ bad v (.fp cs off)):
  ∃b o,v= .pointer (some (wA b (o+off)))∧zP w ρ bad b o cs:=by
 cases hv with
 | fp _ _ b o u h0 hb hu hv=>exact⟨b,o,rfl,λj hj=>⟨_,hu j hj,hv j hj⟩⟩
omit [fA]in
def mB.get{cs ds:List V}(h:mB cs ds):∀(j:Nat) (hj:j<cs.length) (IW:j<ds.length),WF cs[j] ds[j]:=by
 induction h with
 | nil=>intro j hj;simp at hj
 | cons h1 h2 ih=>
  intro j hj IW;cases j with
  | zero=>exact h1
  | succ j=>exact ih j (by simpa using hj) (by simpa using IW)
omit [fA]in
def mB.len{cs ds:List V}(h:mB cs ds):cs.length=ds.length:=by
 induction h with
 | nil=>rfl
 | cons _ _ ih=>simp[ih]
variable {o:Oper} {i:Nat} (hr:NA C w0 outer own ρ st a w)
include hr
def zaD(t:TypeId)(x:Operand)(ho:o.op= .load t x){ag:Bool}{n b p off:Nat}{cs:List V}(h1:xD C.P t=some ag)(h2:LD C.P t=some n)
  (hx:a.eval x= .pointer (some (wA b (p+off)))) (hc:zP w ρ (jA outer ρ st.h) b p cs) (hk:yE ag n cs off (λv=>IA C o.dst st v some)=some st'):
  RB C.P o a w (JB C w0 outer own i ρ st'):=by
 obtain⟨d,v,h3,h4,h5⟩:=zfe h1 h2 hc hk;refine vB (v:=v) (w':=w) ?_ (hr.after h4 h3);simp[execOp,ho,hx,Instr.loadAt,Instr.sureAddr,h5]
def KG{r:Nat}{c:ND}{m:wF}(h1:st.h r=some ⟨c,m⟩):∃ri,ρ r=some ri∧KC w ρ (jA outer ρ st.h) ri c:=by
 obtain⟨ri,h2,h3,_⟩:=hr.heap.rows r _ h1;exact⟨ri,h2,h3⟩
def zmN(t:TypeId)(x:Operand)(ho:o.op= .load t x)(hk:UA C i o st some=some st'):RB C.P o a w (JB C w0 outer own i ρ st'):=by
 simp only[UA,ho]at hk;split at hk
 case h_2=>cases hk
 rename_i ag n h1 h2;have hx:=hr.opd x;split at hk
 ·rename_i r off VV;rw[VV]at hx;split at hk
  ·rename_i cs m JV;obtain⟨ri,hρ,QV⟩:=KG hr JV;obtain⟨e1,e2⟩:=za1 hρ QV hx;exact zaD hr t x ho h1 h2 e1 e2 hk
  ·cases hk
 ·rename_i r t' k off VV;rw[VV]at hx;split at hk
  ·rename_i t'' l m JV;obtain⟨ri,hρ,QV⟩:=KG hr JV
   by_cases ht:t''=t'
   ·subst ht;simp only[decide_true,XB,aV,Option.bind_eq_some_iff]at hk;obtain⟨y,hy,hk⟩:=hk;obtain⟨e1,e2,_⟩:=zeC hρ QV hy hx;exact zaD hr t x ho h1 h2 e1 e2 hk
   ·simp[ht]at hk
  ·cases hk
 ·rename_i cs off VV;rw[VV]at hx;obtain⟨b,p,e1,e2⟩:=zk5 hx;exact zaD hr t x ho h1 h2 e1 e2 hk
 ·cases hk
def zlr(t:TypeId)(x y:Operand)(ho:o.op= .store t x y)(hk:UA C i o st some=some st'):RB C.P o a w (JB C w0 outer own i ρ st'):=by
 simp only[UA,ho]at hk;split at hk
 ·cases hk
 rename_i n h2;cases hb:(Nat.beq n (cellsOf (opd st.s y)).length&&rF (cellsOf (opd st.s y)))
 case false=>simp[hb]at hk
 simp only[hb,XB]at hk;simp only[Bool.and_eq_true]at hb;have hn:n=(cellsOf (opd st.s y)).length:=Nat.eq_of_beq_eq_true hb.1;obtain⟨hs,XW,XY⟩:=jT (hr.opd y) hb.2;have hx:=hr.opd x;split at hk
 ·rename_i r off VV;rw[VV]at hx;split at hk
  ·rename_i cs JV;cases cW:Nat.ble (off+n) cs.length
   case false=>simp[cW]at hk
   simp only[cW,XB]at hk;have cW:=Nat.le_of_ble_eq_true cW;obtain⟨ri,hρ,QV⟩:=KG hr JV;obtain⟨e1,e2⟩:=za1 hρ QV hx;rw[Nat.zero_add]at e1
   have SV:∀j,j<n→(w.cell? (wA ri.b (off+j))).isSome=true:=λj hj=>by
    obtain⟨_,u,h3,_⟩:=QV.2 (off+j) (by omega);rw[h3];rfl
   have qW:∀j,j<n→w.frozen? (wA ri.b (off+j))=false:=λj hj=>(QV.2 (off+j) (by omega)).1;have IV:=zd3 (P:=C.P) h2 (hs.trans hn.symm) XY SV qW;generalize hW:w.setCells ri.b off (a.eval y).cells.toList=W at IV
   have uW:=hr.heap.write JV hρ QV.1 W (by rw[←hW];exact yR _ _ _ _) (by rw[←hW];exact JQ _ _ _ _)
    (fun b hb=>by rw [← hW];exact FQ _ _ _ _ _ hb) (.box (GG cs off (cellsOf (opd st.s y)))) (fun wX=>by
     obtain⟨D0,YY⟩:=zaB cs off (cellsOf (opd st.s y)) (by omega);refine⟨QV.1,λj hj=>?_⟩;have IW:j<cs.length:=by omega
     refine⟨by rw[←hW,World.frozen?_setCells];exact(QV.2 j IW).1,?_⟩;rw[YY j IW hj];split
     ·rename_i lW;have:=World.cell?_setCells_in ri.b (a.eval y).cells.toList off w (λj hj=>SV j (by simpa[hs,hn]using hj)) (j - off) (by simp[hs];omega);refine⟨_,by rw[←hW,show wA ri.b j=⟨ri.b,off+(j - off),none⟩ by rw[wA];congr 1;omega];exact this,?_⟩;have h4:=XW (j - off) (by omega);rw[Array.getD_eq_getD_getElem?,Array.getElem?_eq_getElem (by omega),Option.getD_some]at h4;exact wX _ _ (by simpa using h4)
     ·rename_i QW;obtain⟨_,u,h3,h4⟩:=QV.2 j IW;refine⟨u,?_,wX _ _ h4⟩;rw[←hW,World.cell?_setCells_out]
      ·exact h3
      ·intro _ _;simp only[wA,Array.length_toList,hs];omega)
   refine zdS (w':=W) ?_ ⟨ρ,((hr.turn uW.1 uW.2).put (.undef _) hk).1,λ_ _=>rfl,λ_ _ h=>h⟩;simp[execOp,ho,e1,Instr.storeAt,Instr.sureAddr,IV]
  ·cases hk
 ·rename_i r t' k off VV;rw[VV]at hx;split at hk
  ·rename_i t'' l JV;obtain⟨ri,hρ,QV⟩:=KG hr JV
   by_cases ht:t''=t'
   case neg=>simp[ht]at hk
   subst ht;simp only[decide_true,XB]at hk;split at hk
   ·cases hk
   rename_i vs' ids qY;cases fY:ids.any (Nat.beq r)
   case true=>simp[fY]at hk
   simp only[fY,jN,aV,vN,Option.bind_eq_some_iff]at hk;obtain⟨y0,JX,hk⟩:=hk;cases cW:Nat.ble (off+n) (sz t'')
   case false=>simp[cW]at hk
   simp only[cW,XB,Option.bind_eq_some_iff]at hk;have cW:=Nat.le_of_ble_eq_true cW;obtain⟨z,hz,hk⟩:=hk;obtain⟨e1,e2,YV⟩:=zeC hρ QV JX hx;obtain⟨o3,R7⟩:=List.getElem?_eq_some_iff.1 JX;obtain⟨E0,PZ⟩:=hr.heap.mark ids
   have F0:FB st.h ids r=some ⟨.arr t'' l, .own⟩:=by
    rw[SD,if_neg,JV];intro hm;have:ids.any (Nat.beq r)=true:=List.any_eq_true.2 ⟨r,hm,Nat.beq_refl r⟩;rw[this]at fY;cases fY
   obtain⟨_,hρ1,R3,_⟩:=E0.rows r _ F0;rw[hρ]at hρ1;cases hρ1;obtain⟨hfl,hfv⟩:=fS hr.heap (vs:=λj=>(a.eval y).cells.getD j undef) XW qY
   rcases R3.2 with QZ | ⟨_,ce,c1,c2,c3,c4⟩
   ·rw[YV]at QZ;cases QZ.1
   have YX:=R3.1;have hkn:(k+1) *sz t''≤ri.cap *sz t'':=Nat.mul_le_mul_right _ (by omega);rw[Nat.add_mul,Nat.one_mul]at hkn;have SV:∀j,j<n→(w.cell? (wA ri.b (k *sz t''+off+j))).isSome=true:=λj hj=>(c3 (k *sz t''+off+j) (by omega)).2;have qW:∀j,j<n→w.frozen? (wA ri.b (k *sz t''+off+j))=false:=λj hj=>(c3 (k *sz t''+off+j) (by omega)).1;have IV:=zd3 (P:=C.P) h2 (hs.trans hn.symm) XY SV qW;generalize hW:w.setCells ri.b (k *sz t''+off) (a.eval y).cells.toList=W at IV
   have lW:∀j,j<n→W.cell? (wA ri.b (k *sz t''+off+j))=some ((a.eval y).cells.getD j undef):=λj hj=>by
    have:=World.cell?_setCells_in ri.b (a.eval y).cells.toList (k *sz t''+off) w (λj hj=>SV j (by simpa[hs,hn]using hj)) j (by simp[hs];omega);rw[hW]at this;refine this.trans ?_;rw[Array.getD_eq_getD_getElem?,Array.getElem?_eq_getElem (by omega)];simp
   have QW:∀j,(j<k *sz t''+off∨k *sz t''+off+n≤j)→W.cell? (wA ri.b j)=w.cell? (wA ri.b j):=λj hj=>by
    rw[←hW,World.cell?_setCells_out];intro _ _;simp only[wA,Array.length_toList,hs];omega
   have uW:=E0.write F0 hρ YV W (by rw[←hW];exact yR _ _ _ _) (by rw[←hW];exact JQ _ _ _ _)
    (fun b hb=>by rw [← hW];exact FQ _ _ _ _ _ hb) (.arr t'' (l.set k z)) (fun wX=>by
     refine⟨by simpa using YX, .inr ⟨YV,by rw[←hW];exact GV _ _ ce,c1,c2,λj hj=>⟨by rw[←hW,World.frozen?_setCells];exact(c3 j hj).1,?_⟩,λi' dW j hj=>?_⟩⟩
     ·by_cases hjj:k *sz t''+off≤j∧j<k *sz t''+off+n
      ·have:=lW (j - (k *sz t''+off)) (by omega);rw[show k *sz t''+off+(j - (k *sz t''+off))=j by omega]at this;rw[this];rfl
      ·rw[QW j (by omega)];exact(c3 j hj).2
     ·have hi2:i'<l.length:=by simpa using dW
      by_cases S7:i'=k
      ·subst S7;have fW:=ZD t'' hz;obtain⟨D0,YY⟩:=zaB (enc t'' y0) off vs' (by rw[fC];omega);have OY:j<(GG (enc t'' y0) off vs').length:=by rw[D0,fC];exact hj
       have A1:(l.set i' z)[i']=z:=by simp
       rw[A1,nN _ _ _ (by rw[fC];exact hj)];have T6:=(fW.get j OY (by rw[fC];exact hj));rw[YY j (by rw[fC];exact hj) OY]at T6;split at T6
       ·rename_i hjin;refine⟨_,by have:=lW (j - off) (by omega);rw[show i' *sz t''+off+(j - off)=i' *sz t''+j by omega]at this;exact this,?_⟩;exact wX _ _ (VR.sub T6 (hfv (j - off) (by omega)).1)
       ·obtain⟨u,h5,h6⟩:=c4 i' hi2 j hj;rw[R7,nN _ _ _ (by rw[fC];exact hj)]at h6;exact⟨u,by rw[QW _ (by omega)];exact h5,wX _ _ (VR.sub T6 h6)⟩
      ·obtain⟨u,h5,h6⟩:=c4 i' hi2 j hj;have A1:(l.set k z)[i']=l[i']:=by rw[List.getElem_set_ne (Ne.symm S7)]
       rw[A1];refine⟨u,?_,wX _ _ h6⟩;rw[QW]
       ·exact h5
       ·rcases Nat.lt_or_gt_of_ne S7 with NV | hgt
        ·left;have:(i'+1) *sz t''≤k *sz t'':=Nat.mul_le_mul_right _ NV;rw[Nat.add_mul,Nat.one_mul]at this;omega
        ·right;have:(k+1) *sz t''≤i' *sz t'':=Nat.mul_le_mul_right _ hgt;rw[Nat.add_mul,Nat.one_mul]at this;omega)
   have S3:NA C w0 outer own ρ {st with h:=sA (FB st.h ids) r (some ⟨.arr t'' (l.set k z), .own⟩)} a W:=
    hr.turn uW.1 λu d hu=>uW.2 u d (PZ u d hu)
   refine zdS (w':=W) ?_ ⟨ρ,(S3.put (.undef _) hk).1,λ_ _=>rfl,λ_ _ h=>h⟩;simp[execOp,ho,e1,Instr.storeAt,Instr.sureAddr,IV]
  ·cases hk
 ·cases hk
end
end Go.D
namespace Go.D
variable [fA]
section
variable {C:Cx} {w0:World} {outer own:Nat→Prop} {ρ:Nat→Option RI} {st st':St} {a:Act} {w:World} {h:Nat→Option kA}
omit [fA]in
def EM(k:IntKind)(n:Int):ZC k (k.wrap n):=by
 cases k<;>simp only[ZC,IntKind.wrap,IntKind.min,IntKind.max,IntKind.signed,IntKind.bits]<;>simp<;>(try split)<;>omega
variable {o:Oper} {i:Nat} (hr:NA C w0 outer own ρ st a w)
include hr
def zji(x:Operand)(ho:o.op= .nilCheck x)(hk:UA C i o st some=some st'):RB C.P o a w (JB C w0 outer own i ρ st'):=by
 simp only[UA,ho]at hk;have hx:=hr.opd x
 have IV:∀v,a.eval x=v→(match v with | .pointer (some _)=>True | .func (.func _) _ _=>True | _=>False)→(execOp a.eval o).run C.P w= .ok (.value v) w:=λv e1 e2=>by
  unfold execOp;simp only[ho,e1];split at e2<;>first | rfl | cases e2
 split at hk
 ·rename_i r off VV;rw[VV]at hx;cases aW:a.eval x<;>rw[aW]at hx<;>cases hx
  exact vB (IV _ aW trivial) (hr.after (.bp _ _ _ (by assumption) (by assumption)) hk)
 ·rename_i r t k off VV;rw[VV]at hx;cases aW:a.eval x<;>rw[aW]at hx<;>cases hx
  exact vB (IV _ aW trivial) (hr.after (.ep _ _ _ _ _ (by assumption) (by assumption)) hk)
 ·rename_i cs off VV;rw[VV]at hx;cases aW:a.eval x<;>rw[aW]at hx<;>cases hx
  exact vB (IV _ aW trivial) (hr.after (.fp _ _ _ _ _ (by assumption) (by assumption) (by assumption) (by assumption)) hk)
 ·rename_i f cs VV;rw[VV]at hx;cases aW:a.eval x<;>rw[aW]at hx<;>cases hx
  exact vB (IV _ aW trivial) (hr.after (.fn _ _ _ (by assumption) (by assumption)) hk)
 ·cases hk
def ziQ(t:TypeId)(x:Operand)(f:Nat)(ho:o.op= .fieldAddr t x f)(hk:UA C i o st some=some st'):RB C.P o a w (JB C w0 outer own i ρ st'):=by
 simp only[UA,ho]at hk;split at hk
 ·cases hk
 rename_i off ft hf;unfold gU at hf;split at hf
 case h_2=>cases hf
 rename_i fs hu;split at hf
 case h_2=>cases hf
 rename_i fld B1;cases hf;split at hk
 case h_2=>cases hk
 rename_i n RV;have hx:=hr.opd x
 have IV:∀b p,a.eval x= .pointer (some (wA b p))→(execOp a.eval o).run C.P w= .ok (.value (.pointer (some (wA b (p+fld.offset))))) w:=λb p e1=>by
  simp[execOp,ho,e1,Instr.fieldAt,RD hu,B1,Instr.sureAddr,fieldPlace,QH RV,BE]
 split at hk
 ·rename_i r o1 VV;rw[VV]at hx;cases aW:a.eval x<;>rw[aW]at hx<;>cases hx
  rename_i ri h1 h2;exact vB (IV _ _ aW) (hr.after (.bp _ _ _ (by assumption) (by assumption)) hk)
 ·rename_i r t' k o1 VV;rw[VV]at hx;cases aW:a.eval x<;>rw[aW]at hx<;>cases hx
  rename_i ri h1 h2;refine vB (IV _ _ aW) (hr.after ?_ hk);rw[Nat.add_assoc];exact .ep _ _ _ _ _ (by assumption) (by assumption)
 ·rename_i cs o1 VV;rw[VV]at hx;cases aW:a.eval x<;>rw[aW]at hx<;>cases hx
  rename_i b p u h0 hb hu' G0;refine vB (IV _ _ aW) (hr.after ?_ hk);rw[Nat.add_assoc];exact .fp _ _ _ _ _ (by assumption) (by assumption) (by assumption) (by assumption)
 ·cases hk
omit hr in
theorem zmI{ag:Bool}{n off:Nat}{t:TypeId}{cs:List V}{vs:Array Value}{bad:Nat→Prop}{R:Type}{K:V→Option R}{r:R}(h1:xD C.P t=some ag)(h2:LD C.P t=some n)
  (hs:vs.size=cs.length) (hv:∀j (hj:j<cs.length),VR w ρ bad (vs.getD j undef) cs[j]) (hk:yE ag n cs off K=some r):
  ∃d v,K d=some r∧VR w ρ bad v d∧(part t vs off).run C.P w= .ok v w:=by
 unfold yE at hk;cases ag with
 | true=>
  simp only[XB]at hk;cases hb:Nat.ble (off+n) cs.length
  case false=>simp[hb]at hk
  simp only[hb,XB]at hk;have cW:=Nat.le_of_ble_eq_true hb;refine⟨_, .agg (vs.extract off (off+n)),hk,?_,?_⟩
  ·refine .agg _ _ (by simp;omega) λj hj=>?_;have Q7:j<n:=by simp at hj;omega
   simp_all
  ·simp[part,yM h1,QH h2]
 | false=>
  simp only[jN]at hk;split at hk
  ·rename_i c r' hd
   have NV:off<cs.length:=by
    rcases Nat.lt_or_ge off cs.length with h | h
    ·exact h
    ·rw[List.drop_eq_nil_of_le h]at hd;cases hd
   have z1:cs[off]=c:=by
    rw[List.drop_eq_getElem_cons NV]at hd;exact(List.cons.inj hd).1
   have h3:=hv off NV;refine⟨c,vs.getD off undef,hk,by rw[←z1];exact h3,?_⟩;rw[Array.getD_eq_getD_getElem?,Array.getElem?_eq_getElem (by omega)];simp[part,yM h1,Array.getElem?_eq_getElem (show off<vs.size by omega)]
  ·cases hk
def zli(t:TypeId)(x:Operand)(f:Nat)(ho:o.op= .field t x f)(hk:UA C i o st some=some st'):RB C.P o a w (JB C w0 outer own i ρ st'):=by
 simp only[UA,ho]at hk;have hx:=hr.opd x;split at hk
 case h_2=>cases hk
 rename_i off ft cs hf VV;rw[VV]at hx;unfold gU at hf;split at hf
 case h_2=>cases hf
 rename_i fs hu;split at hf
 case h_2=>cases hf
 rename_i fld B1;cases hf;split at hk
 case h_2=>cases hk
 rename_i ag n h1 h2;cases aW:a.eval x<;>rw[aW]at hx<;>cases hx
 rename_i vs hs hv;obtain⟨d,v,h3,h4,h5⟩:=zmI (C:=C) (w:=w) h1 h2 hs hv hk;refine vB (v:=v) (w':=w) ?_ (hr.after h4 h3);simp[execOp,ho,aW,Instr.field,RD hu,B1,asAgg,h5]
def zjK(x:Operand)(ix:Nat)(ho:o.op= .extract x ix)(hk:UA C i o st some=some st'):RB C.P o a w (JB C w0 outer own i ρ st'):=by
 simp only[UA,ho]at hk;have hx:=hr.opd x;split at hk
 case h_2=>cases hk
 rename_i cs VV;rw[VV]at hx;split at hk
 case h_2=>cases hk
 rename_i c r' hd
 have NV:ix<cs.length:=by
  rcases Nat.lt_or_ge ix cs.length with h | h
  ·exact h
  ·rw[List.drop_eq_nil_of_le h]at hd;cases hd
 have z1:cs[ix]=c:=by
  rw[List.drop_eq_getElem_cons NV]at hd;exact(List.cons.inj hd).1
 cases aW:a.eval x<;>rw[aW]at hx<;>cases hx
 rename_i vs hs hv;have h3:=hv ix NV;rw[z1]at h3;refine vB (v:=vs.getD ix undef) (w':=w) ?_ (hr.after h3 hk);rw[Array.getD_eq_getD_getElem?,Array.getElem?_eq_getElem (by omega)];simp[execOp,ho,aW,Instr.extract,Array.getElem?_eq_getElem (show ix<vs.size by omega)]
def zmP(op:UnOp)(t:TypeId)(x:Operand)(ho:o.op= .unOp op t x)(hk:UA C i o st some=some st'):RB C.P o a w (JB C w0 outer own i ρ st'):=by
 simp only[UA,ho]at hk;have hx:=hr.opd x;split at hk
 case h_2=>cases hk
 rename_i d hd;unfold unV at hd;split at hd
 ·rename_i k n VV;rw[VV]at hx;cases op<;>cases hd
  cases aW:a.eval x<;>rw[aW]at hx<;>cases hx
  refine vB (v:= .int k (k.wrap (0 - n))) (w':=w) ?_ (hr.after (.int _ _ (EM _ _)) hk);simp[execOp,ho,aW,Op.unary,Op.intArith]
 ·rename_i b VV;rw[VV]at hx;cases op<;>cases hd
  cases aW:a.eval x<;>rw[aW]at hx<;>cases hx
  refine vB (v:= .bool (!b)) (w':=w) ?_ (hr.after (.bool _) hk);simp[execOp,ho,aW,Op.unary]
 ·cases hd
end
end Go.D

/-
 A plain semantics of the code: values without memory, what the call itself makes kept in rows. It is a function, so that the kernel can run it.
-/
import Derived.Test.YtkpkommmdacjlaaGreatL1
import Derived.Calls
import Derived.Deep.AppendSrc
set_option linter.all false
namespace Go.D
open Option renaming bind→ob
def BH(b:Bool):Bool:=b
def gd{α:Type _}(c:Bool)(a b:α):α:=match BH c with
 | true=>a
 | false=>b
def bnd{α β:Type _}(x:Option α)(f:α→Option β):Option β:=gd true (match x with
 | some a=>f a
 | none=>none) none
@[simp] theorem iB{α:Type _}(a b:α):gd true a b=a:=rfl
@[simp] theorem aG{α:Type _}(a b:α):gd false a b=b:=rfl
@[simp] theorem eF{α β:Type _}(x:Option α)(f:α→Option β):bnd x f=ob x f:=by cases x<;>rfl
def cA{α:Type}(f:Nat→α)(i:Nat)(v:α):Nat→α:=λj=>bif Nat.beq j i then v else f j
inductive cB where
 | own | ro | lock | tre | tlk
inductive dD where
 | box (cs:List V)
 | arr (t:TN) (l:List (El t))
structure gA where
 c:dD
 m:cB
structure St where
 s:Nat→V
 h:Nat→Option gA
 nx:Nat
inductive IA where
 | plain
 | ptr (own:List Nat)
 | mv (own:List Nat)
 | ms
structure RB where
 ks:List IA
 A:Type
 R:Type
 dA:List V→Option A
 F:A→Option R
 eR:R→List V
 shape:List (Bool×Nat)
 own:List Nat
 pb:Bool
structure Gl where
 K:Nat
 p:World→Prop
 stay:∀w w':World,(∀b,b<K→w'.heap[b]?=w.heap[b]?)→p w→p w'
 lt:∀w,p w→K≤w.heap.size
def IB:Gl:=⟨0,λ_=>True,λ_ _ _ h=>h,λ_ _=>Nat.zero_le _⟩
structure RL[aA](g:Gl)(ow:Nat→Prop)(w:World):Prop where
 p:g.p w
 own:∀b,b<g.K→¬ow b
 base:aA.base≤w.heap.size
 low:∀b,b<aA.base→¬ow b
structure Ow where
 o:Nat→Prop
 k:Nat→Prop
 ok:∀b,o b→k b
instance:CoeFun Ow λ_=>Nat→Prop:=⟨Ow.o⟩
instance:Coe Ow (Nat→Prop):=⟨Ow.o⟩
def Ow.of(o:Nat→Prop):Ow:=⟨o,o,λ_ h=>h⟩
structure Cx where
 P:Program
 tn:TypeId→Option TN
 Φ:Nat→Option RB
 nt:Nat
 g:Gl
structure VC[aA](C:Cx):Prop where
 mixed:C.P.follows .mixedOrders=true
 ok:∀e t,C.tn e=some t→∃i z,C.P.info? e=some i∧i.size=sz t∧i.bytes≤1024∧i.zero=some z∧z.cells.size=sz t
 tys:∀e t,C.tn e=some t→aA.tn e=some t
def eA:Nat:=2^36
def xH:Value→V
 | .bool b=> .bool b
 | .int k n=>bif decide (k.min≤n)&&decide (n≤k.max)then .int k n else .undef
 | .string s=>bif Nat.ble s.data.toList.length 1000000 then .str s.data.toList else .undef
 | .slice none 0 0=> .nil
 | .nilIface=> .nili
 | _=> .undef
def opd(s:Nat→V):Operand→V
 | .tmp t=>s t
 | .const v=>xH v
 | .func f=> .fn f []
 | .global _=> .undef
section
variable (C:Cx) {R:Type}
def DA(dst:Option Nat)(st:St)(v:V)(K:St→Option R):Option R:=
 match dst with
 | none=>K st
 | some d=>gd (Nat.blt d C.nt) (K {st with s:=cA st.s d v}) none
def yD(dst:Option Nat)(st:St)(r:Nat)(c:dD)(v:V)(K:St→Option R)(m:cB:= .own):Option R:=
 DA C dst {st with h:=cA st.h r (some ⟨c,m⟩)} v K
def cellsOf:V→List V
 | .agg cs=>cs
 | v=>[v]
def xE(cs:List V):Bool:=cs.all V.leaf
def MB(cs:List V)(off:Nat)(vs:List V):List V:=cs.take off++vs++cs.drop (off+vs.length)
def eB(h:Nat→Option gA)(ids:List Nat):Nat→Option gA:=
 match ids with
 | []=>h
 | r :: rs=>eB (cA h r ((h r).map λrow=>{row with m:= .ro})) rs
def cB.isLock:cB→Bool
 | .lock=>true
 | .tlk=>true
 | _=>false
def cB.isOwn:cB→Bool
 | .own=>true
 | .tre=>true
 | _=>false
def cB.isTre:cB→Bool
 | .tre=>true
 | .tlk=>true
 | _=>false
def cB.locked:cB→cB
 | .own=> .lock
 | .tre=> .tlk
 | m=>m
def TN.flat:TN→Bool
 | .byte | .int | .bool | .str | .Addr | .Credit | .Timer | .Form=>true
 | _=>false
def noTre(ow:List Nat):Bool:=ow.all λp=>Nat.ble p 255
def ZD(own:List Nat)(p:Nat):Bool:=own.any (Nat.beq (p+256))
def PC(own:List Nat)(p:Nat):cB:=bif ZD own p then .tre else .own
def zD(tr:Bool):cB:=bif tr then .tre else .own
def sJ(m:cB)(b:Bool):cB:=match m with
 | .tre=>zD b
 | _=> .own
def AB(tr:Bool)(t:TN):cB→Bool
 | .own=>bif tr then t.flat else true
 | .tre=>true
 | _=>false
def vD(h:Nat→Option gA):List Nat→List V→Bool
 | _,[]=>true
 | seen,v :: vs=>match v with
  | .ow r=>match h r with
   | some ⟨.arr t _,m⟩=>bif AB true t m then bif seen.any (Nat.beq r)then false else vD h (r :: seen) vs else false
   | _=>false
  | .nil | .int _ _ | .bool _ | .str _=>vD h seen vs
  | _=>false
def TN.beq(s t:TN):Bool:=Nat.beq s.ctorIdx t.ctorIdx
def RD:Nat→V→Bool
 | 0,_=>false
 | n+1, .fn _ cs=>cs.all (RD n)
 | n+1, .fp cs _=>cs.all (RD n)
 | _+1, .bool _ | _+1, .int _ _ | _+1, .str _ | _+1, .nil | _+1, .sl _ _ | _+1, .nili | _+1, .ifc _=>true
 | _+1,_=>false
def kC(h:Nat→Option gA):V→Option (V×List Nat)
 | .ow r=>match h r with
  | some ⟨.arr t l,m⟩=>bif m.isLock then none else some (.sl t l,[r])
  | _=>none
 | .ov r t off len=>match h r with
  | some ⟨.arr t' l,m⟩=>bif m.isLock then none else if e:t'=t then some (.sl t (((TN.cast e l).drop off).take len),[r])else none
  | _=>none
 | v=>bif RD 8 v then some (v,[])else none
def ZC(h:Nat→Option gA):List V→Option (List V×List Nat)
 | []=>some ([],[])
 | v :: vs=>match kC h v with
  | none=>none
  | some (v',i)=>match ZC h vs with
   | none=>none
   | some (vs',j)=>some (v' :: vs',i++j)
def cE(h:Nat→Option gA):V→Option (V×List Nat)
 | .agg cs=>match ZC h cs with
  | some (cs',i)=>some (.agg cs',i)
  | none=>none
 | .bp r off=>match h r with
  | some ⟨.box cs,m⟩=>bif m.isLock||cs.isEmpty then none else match ZC h cs with
   | some (cs',i)=>some (.fp cs' off,r :: i)
   | none=>none
  | _=>none
 | v=>kC h v
def aF(h:Nat→Option gA):List V→Option (List V×List Nat)
 | []=>some ([],[])
 | v :: vs=>match cE h v with
  | none=>none
  | some (v',i)=>match aF h vs with
   | none=>none
   | some (vs',j)=>some (v' :: vs',i++j)
def MC(P:Program)(t:TypeId):Option Bool:=
 match P.underlying t with
 | some (.struct _) | some (.array _ _)=>some true
 | some _=>some false
 | none=>none
def BC(P:Program)(t:TypeId):Option Nat:=(P.info? t).map (·.size)
def uE(agg:Bool)(n:Nat)(cs:List V)(off:Nat)(K:V→Option R):Option R:=
 gd agg (gd (Nat.ble (off+n) cs.length) (K (.agg ((cs.drop off).take n))) none) (match cs.drop off with
  | c :: _=>K c
  | []=>none)
def vA{α:Type}(l:List α)(i:Int):Option α:=if 0≤i then l[i.toNat]? else none
def xI{α:Type}(l:List α)(i:Nat)(K:α→Option R):Option R:=ob l[i]? K
def WI(P:Program)(t:TypeId)(f:Nat):Option (Nat×TypeId):=
 match P.underlying t with
 | some (.struct fs)=>match fs[f]? with
  | some x=>some (x.offset,x.type)
  | none=>none
 | _=>none
def hJ(P:Program)(t:TypeId):Option TypeId:=
 match P.underlying t with
 | some (.slice e)=>some e
 | _=>none
def YP:TypeDesc→V→Bool
 | .string, .str _=>true
 | .slice _, .sl _ _ | .slice _, .nil | .slice _, .ow _ | .slice _, .ov _ _ _ _=>true
 | _,_=>false
def bI(h:Nat→Option gA):V→Option Nat
 | .sl _ l=>some l.length
 | .nil=>some 0
 | .str s=>some s.length
 | .ow r=>match h r with
  | some ⟨.arr _ l,_⟩=>some l.length
  | _=>none
 | .ov _ _ _ len=>some len
 | _=>none
def zL(h:Nat→Option gA)(t:TN):V→Option (List (El t))
 | .sl t' l=>if e:t'=t then some (TN.cast e l)else none
 | .nil=>some []
 | .ow r=>match h r with
  | some ⟨.arr t' l,_⟩=>if e:t'=t then some (TN.cast e l)else none
  | _=>none
 | .ov r t0 off len=>match h r with
  | some ⟨.arr t' l,_⟩=>bif decide (t0=t)then if e:t'=t then some (((TN.cast e l).drop off).take len)else none else none
  | _=>none
 | _=>none
def kH(h:Nat→Option gA)(t:TN):V→Option (List (El t)×Option Nat)
 | .nil=>some ([],none)
 | .ow r=>match h r with
  | some ⟨.arr t' l,m⟩=>bif m.isOwn then if e:t'=t then some (TN.cast e l,some r)else none else none
  | _=>none
 | .ov r _ 0 len=>match h r with
  | some ⟨.arr t' l,m⟩=>bif m.isOwn then if e:t'=t then some ((TN.cast e l).take len,some r)else none else none
  | _=>none
 | _=>none
def VD(h:Nat→Option gA):Option Nat→Nat→Option gA
 | none=>h
 | some r=>cA h r none
def PF(h:Nat→Option gA)(x y:V):Bool:=match y with
 | .ow r2=>match h r2 with
  | some ⟨_, .tre⟩=>match x with
   | .nil=>true
   | .ow r=>match h r with
    | some ⟨_, .tre⟩=>bif Nat.beq r r2 then false else true
    | _=>false
   | _=>false
  | _=>false
 | _=>false
def CI(b:Bool)(h:Nat→Option gA)(y:V):Nat→Option gA:=bif b then match y with
 | .ow r2=>cA h r2 ((h r2).map λrow=>{row with m:= .own})
 | _=>h
else h
def KC:List Bool→List V→List V→Option Bool
 | [],[],[]=>some true
 | false :: ks, .int j a :: xs, .int k b :: ys=>bif decide (j=k)then(KC ks xs ys).map (λr=>bif a==b then r else false)else none
 | true :: ks, .bool a :: xs, .bool b :: ys=>(KC ks xs ys).map (λr=>bif a==b then r else false)
 | _,_,_=>none
def WT(op:BinOp):V→V→Option V
 | .int k a, .int k' b=>
  match op with
  | .shl=>if b<0 then none else some (.int k (k.wrap (a *2^(min b.toNat k.bits))))
  | .shr=>if b<0 then none else some (.int k (a.fdiv (2^(min b.toNat k.bits))))
  | .add=>bif decide (k=k')then some (.int k (k.wrap (a+b)))else none
  | .sub=>bif decide (k=k')then some (.int k (k.wrap (a - b)))else none
  | .mul=>bif decide (k=k')then some (.int k (k.wrap (a *b)))else none
  | .and=>bif decide (k=k')then some (.int k (k.wrap (BitVec.ofInt k.bits a&&&BitVec.ofInt k.bits b).toNat))else none
  | .or=>bif decide (k=k')then some (.int k (k.wrap (BitVec.ofInt k.bits a|||BitVec.ofInt k.bits b).toNat))else none
  | .xor=>bif decide (k=k')then some (.int k (k.wrap (BitVec.ofInt k.bits a^^^BitVec.ofInt k.bits b).toNat))else none
  | .andNot=>bif decide (k=k')then some (.int k (k.wrap (BitVec.ofInt k.bits a&&& ~~~ BitVec.ofInt k.bits b).toNat))else none
  | .eql=>bif decide (k=k')then some (.bool (a==b))else none
  | .neq=>bif decide (k=k')then some (.bool (a !=b))else none
  | .lss=>bif decide (k=k')then some (.bool (decide (a<b)))else none
  | .leq=>bif decide (k=k')then some (.bool (decide (a≤b)))else none
  | .gtr=>bif decide (k=k')then some (.bool (decide (a>b)))else none
  | .geq=>bif decide (k=k')then some (.bool (decide (a≥b)))else none
  | _=>none
 | .str a, .str b=>
  match op with
  | .eql=>some (.bool (a==b))
  | .neq=>some (.bool (!(a==b)))
  | _=>none
 | _,_=>none
def yG(P:Program):Nat→List Field→Option (List Bool)
 | _,[]=>some []
 | k, f :: fs => bif f.name != "_" && Nat.beq f.offset k then
   match P.underlying f.type,yG P (k+1) fs with
   | some .bool,some ks=>some (true :: ks)
   | some (.int _),some ks=>some (false :: ks)
   | _,_=>none
  else none
def HH(P:Program):Nat→List Field→Option (List Bool)
 | _,[]=>some []
 | k, f :: fs => bif f.name != "_" && Nat.beq f.offset k then
   match P.underlying f.type with
   | some .bool=>match HH P (k+1) fs with
    | some ks=>some (true :: ks)
    | none=>none
   | some (.int _)=>match HH P (k+1) fs with
    | some ks=>some (false :: ks)
    | none=>none
   | some (.struct gs)=>match yG P 0 gs.toList with
    | some k1=>bif !(P.stoodInHeld f.type)&&decide (BC P f.type=some k1.length)then match HH P (k+k1.length) fs with
      | some ks=>some (k1++ks)
      | none=>none
     else none
    | none=>none
   | _=>none
  else none
def oV(P:Program)(t:TypeId):Option (List Bool):=
 match P.underlying t with
 | some (.struct fs)=>bif !(P.stoodInHeld t)&&!(P.eqGuardType P.depth t)then HH P 0 fs.toList else none
 | _=>none
def wI(op:BinOp)(x y:V)(K:V→Option R):Option R:=
 match op,x,y with
 | .quo, .int k a, .int k' b=>bif decide (k=k')then(bif b==0 then none else K (.int k (k.wrap (a.tdiv b))))else none
 | .rem, .int k a, .int k' b=>bif decide (k=k')then(bif b==0 then none else K (.int k (a.tmod b)))else none
 | .shl, .int k a, .int _ b=>bif decide (b<0)then none else K (.int k (k.wrap (a *2^(min b.toNat k.bits))))
 | .shr, .int k a, .int _ b=>bif decide (b<0)then none else K (.int k (a.fdiv (2^(min b.toNat k.bits))))
 | .add, .str a, .str b=>bif decide (a.length+b.length≤eA)then K (.str (a++b))else none
 | op,x,y=>match WT op x y with
  | some v=>K v
  | none=>none
def unV(op:UnOp):V→Option V
 | .int k n=>match op with
  | .neg=>some (.int k (k.wrap (0 - n)))
  | _=>none
 | .bool b=>match op with
  | .not=>some (.bool (!b))
  | _=>none
 | _=>none
def EN(t:TN):List (List V)→Option (List (El t))
 | []=>some []
 | cs :: r=>match zB t cs with
  | none=>none
  | some a=>match EN t r with
   | none=>none
   | some l=>some (a :: l)
def qC(own:List Nat):Nat→List V→(Nat→Option gA)→Option (List V×(Nat→Option gA))
 | _,[],h=>some ([],h)
 | p,c :: cs,h=>
  bif own.any (Nat.beq p)then
   match c with
   | .ow r=>match h r with
    | some ⟨.arr t l,m⟩=>bif AB (ZD own p) t m then match qC own (p+1) cs (cA h r none)with
      | some (cs',h')=>some (.sl t l :: cs',h')
      | none=>none
     else none
    | _=>none
   | .nil=>match qC own (p+1) cs h with
    | some (cs',h')=>some (.nil :: cs',h')
    | none=>none
   | .ov r t 0 len=>match h r with
    | some ⟨.arr t' l,m⟩=>bif AB (ZD own p) t' m then match decide (t'=t),qC own (p+1) cs (cA h r none)with
      | true,some (cs',h')=>some (.sl t' (l.take len) :: cs',h')
      | _,_=>none
     else none
    | _=>none
   | _=>none
  else match kC h c with
   | some (c',ids)=>match qC own (p+1) cs (eB h ids)with
    | some (cs',h')=>some (c' :: cs',h')
    | none=>none
   | none=>none
def zA(own:List Nat)(base:Nat):Nat→List V→List V
 | _,[]=>[]
 | p, .sl t l :: vs=>(bif own.any (Nat.beq p)then .ow (base+p)else .sl t l) :: zA own base (p+1) vs
 | p,v :: vs=>v :: zA own base (p+1) vs
def HA(own:List Nat)(base:Nat)(h:Nat→Option gA):Nat→List V→Nat→Option gA
 | _,[]=>h
 | p, .sl t l :: vs=>bif own.any (Nat.beq p)then cA (HA own base h (p+1) vs) (base+p) (some ⟨.arr t l,PC own p⟩)else HA own base h (p+1) vs
 | p,_ :: vs=>HA own base h (p+1) vs
def lD:List (Bool×Nat)→List V→List V
 | [],_=>[]
 | (agg,n) :: sh,vs=>(bif agg then .agg (vs.take n)else match vs with | v :: _=>v | []=> .undef) :: lD sh (vs.drop n)
def JF(sh:List (Bool×Nat))(vs:List V):V:=
 match lD sh vs with
 | [v]=>v
 | l=> .tup l
def YM(s:Nat→V):Nat→List (Nat×Operand)→Option (List V)
 | _,[]=>some []
 | i,(j,x) :: r=>bif Nat.beq i j then match YM s (i+1) r with
   | none=>none
   | some vs=>some (opd s x :: vs)
  else none
def zb4(P:Program)(t:TypeId):Option (List (Nat×Nat)):=
 match P.underlying t with
 | some (.struct fs)=>fs.toList.mapM λf=>(P.info? f.type).map λi=>(f.offset,i.size)
 | some (.array n e)=>match P.info? e with
  | some i=>bif Nat.ble n 128 then some ((List.range n).map λk=>(k *i.size,i.size))else none
  | none=>none
 | _=>none
def rN(pl:List (Nat×Nat))(s:Nat→V)(cs:List V):List (Nat×Operand)→Option (List V)
 | []=>some cs
 | (f,x) :: r=>match pl[f]? with
  | none=>none
  | some (off,n)=>
   let vs:=cellsOf (opd s x)
   bif Nat.beq n vs.length&&xE vs&&Nat.ble (off+n) cs.length then rN pl s (MB cs off vs) r else none
def zeroCells(P:Program)(t:TypeId):Option (List V):=
 match(P.info? t).bind (·.zero)with
 | some z=>let cs:=z.cells.toList.map xH;bif xE cs then some cs else none
 | none=>none
def PS(P:Program)(t:TypeId):Option (List V):=((P.info? t).bind (·.zero)).map λz=>z.cells.toList.map xH
def fG(f:Nat→Option R)(i:Int):Nat→Nat→Option R
 | _,0=>none
 | k,n+1=>bif i==(k:Int)then f k else fG f i (k+1) n
def EL(d:Int):Option V→Option Int
 | none=>some d
 | some (.int _ n)=>some n
 | _=>none
def nJ(d:TypeDesc)(tnok:TypeId→TN→Bool)(h:Nat→Option gA)(x:V)(lo hi:Option V)(K:V→Option R):Option R:=
 match bI h x with
 | none=>none
 | some len=>
  match EL 0 lo,EL (len:Int) hi with
  | some a,some b=>
   bif decide (0≤a)&&decide (a≤b)&&decide (b≤(len:Int))then
    match d,x with
    | .slice e, .sl t l=>gd (tnok e t) (K (.sl t ((l.drop a.toNat).take (b - a).toNat))) none
    | .string, .str s=>K (.str ((s.drop a.toNat).take (b - a).toNat))
    | .slice e, .ow r=>match h r with
     | some ⟨.arr t _,_⟩=>gd (tnok e t) (K (.ov r t a.toNat (b - a).toNat)) none
     | _=>none
    | .slice e, .ov r t off _=>gd (tnok e t) (K (.ov r t (off+a.toNat) (b - a).toNat)) none
    | _,_=>none
   else none
  | _,_=>none
def nF(e:TypeId)(t:TN):Bool:=match C.tn e with
 | some t'=>decide (t'=t)
 | none=>false
def kB:List IA→List V→(Nat→Option gA)→Option (List V×(Nat→Option gA)×List Nat)
 | [],[],h=>some ([],h,[])
 | .plain :: ks,v :: vs,h=>match cE h v with
  | none=>none
  | some (v',ids)=>match kB ks vs (eB h ids)with
   | none=>none
   | some (as,h',bs)=>some (v' :: as,h',bs)
 | .ptr own :: ks, .bp r 0 :: vs,h=>match h r with
  | some ⟨.box cs, .own⟩=>bif Nat.ble cs.length 127 then match qC own 0 cs (cA h r none)with
   | none=>none
   | some (cs',h')=>match kB ks vs h' with
    | none=>none
    | some (as,U1,bs)=>some (.agg cs' :: as,U1,r :: bs)
   else none
  | _=>none
 | .mv own :: ks, .agg cs :: vs,h=>bif Nat.ble cs.length 127 then match qC own 0 cs h with
   | none=>none
   | some (cs',h')=>match kB ks vs h' with
    | none=>none
    | some (as,U1,bs)=>some (.agg cs' :: as,U1,bs)
  else none
 | .ms :: ks,v :: vs,h=>match qC [0] 0 [v] h with
  | some ([v'],h')=>match kB ks vs h' with
   | none=>none
   | some (as,U1,bs)=>some (v' :: as,U1,bs)
  | _=>none
 | _,_,_=>none
def IA.noTre:IA→Bool
 | .ptr ow | .mv ow=>D.noTre ow
 | _=>true
def YQ(B:Nat):V→V
 | .sl _ _=> .ow B
 | v=>v
def WM(B:Nat)(v:V):zA [0] B 0 [v]=[YQ B v]:=by cases v<;>rfl
def lJ(h:Nat→Option gA):Nat→Option gA:=λr=>match h r with
 | some ⟨c, .lock⟩=>some ⟨c, .own⟩
 | some ⟨c, .tlk⟩=>some ⟨c, .tre⟩
 | x=>x
def RA:List IA→List V→List Nat→List V→(Nat→Option gA)→Nat→Option gA
 | .plain :: ks,_ :: as,bs,vs,h=>RA ks as bs vs h
 | .mv _ :: ks,_ :: as,bs,vs,h=>RA ks as bs vs h
 | .ms :: ks,_ :: as,bs,vs,h=>RA ks as bs vs h
 | .ptr _ :: ks, .agg cs :: as,b :: bs,vs,h=>cA (RA ks as bs (vs.drop cs.length) h) b (some ⟨.box (vs.take cs.length), .own⟩)
 | _,_,_,_,h=>h
def iH(sh:List (Bool×Nat)):Nat:=(sh.map (·.2)).sum
def NT(f:Nat)(as:List V):Nat:=match as with
 | [_, .fn g _]=>f+(g+1) *1048576
 | _=>f
def zfv(f:Nat)(as:List V)(h:f<1048576):NT f as % 1048576=f:=by
 unfold NT;split
 ·rw[Nat.add_mul_mod_self_right];exact Nat.mod_eq_of_lt h
 ·exact Nat.mod_eq_of_lt h
def QE(ci:RB)(as:List V)(bs:List Nat)(i:Nat)(rs:List V)(h:Nat→Option gA):Nat→Option gA:=
 bif ci.pb then cA h i (some ⟨.box rs, .own⟩)else RA ci.ks as bs ((zA ci.own i 0 rs).drop (iH ci.shape)) (HA ci.own i h 0 rs)
def HF(ci:RB)(i:Nat)(rs:List V):V:=bif ci.pb then .bp i 0 else JF ci.shape (zA ci.own i 0 rs)
def UH:V→Bool
 | .int _ _ | .bool _ | .str _=>true
 | _=>false
def IA.isPlain:IA→Bool
 | .plain=>true
 | _=>false
def FN(own:List Nat):Nat→List V→Bool
 | _,[]=>true
 | p, .sl t _ :: vs=>own.any (Nat.beq p)&&t.flat&&FN own (p+1) vs
 | p,v :: vs=>UH v&&FN own (p+1) vs
def pI(ci:RB)(rs:List V):Bool:=!ci.pb&&ci.ks.all IA.isPlain&&FN ci.own 0 rs
def TN.rank:TN→Nat
 | .byte | .int | .bool | .str=>0
 | .Cand | .Op=>1
 | .Tab | .Server | .World=>4
 | _=>3
def kD(own:List Nat):Nat→List V→Option Nat
 | _,[]=>some 0
 | p, .sl t _ :: vs=>match kD own (p+1) vs with
  | some m=>some (Nat.max (bif own.any (Nat.beq p)then t.rank else t.rank+1) m)
  | none=>none
 | p, .nil :: vs=>kD own (p+1) vs
 | p,v :: vs=>bif UH v then kD own (p+1) vs else none
def vH(m:Nat)(h h':Nat→Option gA):Nat→Option gA:=λr=>match h r,h' r with
 | some ⟨.arr t l, .own⟩,some ⟨c, .ro⟩=>bif Nat.ble m t.rank then some ⟨.arr t l, .own⟩else some ⟨c, .ro⟩
 | _,x=>x
def rH(ci:RB)(rs:List V)(h h':Nat→Option gA):Nat→Option gA:=
 bif pI ci rs then h else bif ci.pb then h' else match kD ci.own 0 rs with
  | some m=>vH m h h'
  | none=>h'
def OG(i:Nat)(dst:Option Nat)(st:St)(f:Nat)(as:List V)(K:St→Option R):Option R:=
 match bif Nat.blt f 1048576 then C.Φ (NT f as)else none with
 | none=>none
 | some ci=>match kB ci.ks as st.h with
  | none=>match kB ci.ks as (lJ st.h)with
   | none=>none
   | some (as',_,bs)=>
    bnd (ci.dA as') λa=>ob (ci.F a) λr=>
     gd (Nat.ble (ci.eR r).length 128&&pI ci (ci.eR r)) (
      DA C dst {st with h:=QE ci as' bs i (ci.eR r) st.h} (HF ci i (ci.eR r)) K) none
  | some (as',h',bs)=>
   bnd (ci.dA as') λa=>ob (ci.F a) λr=>
    gd (Nat.ble (ci.eR r).length 128) (
     DA C dst {st with h:=QE ci as' bs i (ci.eR r) (rH ci (ci.eR r) st.h h')} (HF ci i (ci.eR r)) K) none
def OA (i:Nat) (o:Oper) (st:St) (K:St→Option R):Option R:=
 match o.op with
 | .move x | .assign x=>DA C o.dst st (opd st.s x) K
 | .pick c a b=>match opd st.s c with
  | .bool t=>match opd st.s a,opd st.s b with
   | .bool x, .bool y=>DA C o.dst st (.bool (cond t x y)) K
   | x,y=>DA C o.dst st (cond t x y) K
  | _=>none
 | .alloc e=>match PS C.P e with
  | some cs=>yD C o.dst st i (.box cs) (.bp i 0) K
  | none=>none
 | .box e x=>
  let cs:=cellsOf (opd st.s x)
  gd (xE cs) (yD C o.dst st i (.box cs) (.bp i 0) K) none
 | .build t parts=>match zeroCells C.P t,zb4 C.P t with
  | some cs,some pl=>bnd (rN pl st.s cs parts.toList) λcs'=>DA C o.dst st (.agg cs') K
  | _,_=>none
 | .buildSlice t len parts=>match(hJ C.P t).bind C.tn with
  | none=>none
  | some tn=>match YM st.s 0 parts.toList with
   | none=>none
   | some vs=>gd (Nat.beq vs.length len&&Nat.ble len 1000) (
     match aF st.h vs with
     | none=>none
     | some (vs',ids)=>bnd (EN tn (vs'.map cellsOf)) λl=>
       yD C o.dst {st with h:=eB st.h ids} i (.arr tn l) (.ow i) K (zD (!tn.flat&&vD st.h [] (vs.flatMap cellsOf)))) none
 | .load t a=>match MC C.P t,BC C.P t with
  | some ag,some n=>match opd st.s a with
   | .bp r off=>match st.h r with
    | some ⟨.box cs,_⟩=>uE ag n cs off λv=>DA C o.dst st v K
    | _=>none
   | .ep r t' k off=>match st.h r with
    | some ⟨.arr t'' l,_⟩=>gd (decide (t''=t')) (xI l k λx=>uE ag n (enc t'' x) off λv=>DA C o.dst st v K) none
    | _=>none
   | .fp cs off=>uE ag n cs off λv=>DA C o.dst st v K
   | _=>none
  | _,_=>none
 | .store t a x=>match BC C.P t with
  | none=>none
  | some n=>
   let vs:=cellsOf (opd st.s x)
   gd (Nat.beq n vs.length&&xE vs) (
    match opd st.s a with
    | .bp r off=>match st.h r with
     | some ⟨.box cs, .own⟩=>gd (Nat.ble (off+n) cs.length) (DA C o.dst {st with h:=cA st.h r (some ⟨.box (MB cs off vs), .own⟩)} .undef K) none
     | _=>none
    | .ep r t' k off=>match st.h r with
     | some ⟨.arr t'' l,m⟩=>gd (m.isOwn&&decide (t''=t')) (
       match ZC st.h vs with
       | none=>none
       | some (vs',ids)=>gd (ids.any (Nat.beq r)) none (
        xI l k λx=>gd (Nat.ble (off+n) (sz t'')) (
         bnd (zB t'' (MB (enc t'' x) off vs')) λy=>
          DA C o.dst {st with h:=cA (eB st.h ids) r (some ⟨.arr t'' (l.set k y),sJ m (vD st.h [r] vs)⟩)} .undef K) none)) none
     | _=>none
    | _=>none) none
 | .nilCheck x=>match opd st.s x with
  | .bp r off=>DA C o.dst st (.bp r off) K
  | .ep r t k off=>DA C o.dst st (.ep r t k off) K
  | .fp cs off=>DA C o.dst st (.fp cs off) K
  | .fn f cs=>DA C o.dst st (.fn f cs) K
  | _=>none
 | .binOp op t x y _=>match opd st.s x,opd st.s y with
  | .agg xs, .agg ys=>match oV C.P t with
   | some ks=>match KC ks xs ys with
    | some b=>match op with
     | .eql=>DA C o.dst st (.bool b) K
     | .neq=>DA C o.dst st (.bool (!b)) K
     | _=>none
    | none=>none
   | none=>none
  | .bool p, .bool q=>match C.P.underlying t with
   | some .bool=>match op with
    | .eql=>DA C o.dst st (.bool (p==q)) K
    | .neq=>DA C o.dst st (.bool (!(p==q))) K
    | _=>none
   | _=>none
  | .ifc b, .nili=>match y,C.P.underlying t with
   | .const _,some (.interface _)=>match op with
    | .eql=>DA C o.dst st (.bool b) K
    | .neq=>DA C o.dst st (.bool (!b)) K
    | _=>none
   | _,_=>none
  | vx,vy=>wI op vx vy λv=>DA C o.dst st v K
 | .unOp op _ x=>match unV op (opd st.s x)with
  | some v=>DA C o.dst st v K
  | none=>none
 | .convert src d x=>match C.P.underlying src,C.P.underlying d,opd st.s x with
  | some (.int _),some (.int k), .int _ n=>DA C o.dst st (.int k (k.wrap n)) K
  | some .string,some (.slice e), .str s=>match C.tn e,C.P.underlying e with
   | some .byte,some (.int .u8)=>bif Nat.ble s.length eA then yD C o.dst st i (.arr .byte s) (.ow i) K else none
   | _,_=>none
  | some (.slice e),some .string,v=>match C.P.underlying e,zL st.h .byte v with
   | some (.int .u8),some l=>bif Nat.ble l.length eA then DA C o.dst st (.str l) K else none
   | _,_=>none
  | some (.slice _),some (.slice e), .ow r=>match Nat.beq src d,C.P.underlying e,st.h r with
   | true,some (.int .u8),some ⟨.arr .byte (b :: l), .own⟩=>DA C o.dst {st with h:=cA st.h r none} (.sl .byte (b :: l)) K
   | _,_,_=>none
  | _,_,_=>none
 | .makeFunc (.func f) first captured=>gd (first.isEmpty) (match aF st.h (captured.toList.map (opd st.s))with
   | some (cs,ids)=>DA C o.dst {st with h:=eB st.h ids} (.fn f cs) K
   | none=>none) none
 | .makeSlice t n c=>match(hJ C.P t).bind C.tn,(hJ C.P t).bind (zeroCells C.P)with
  | some tn,some z=>match opd st.s n,opd st.s c with
   | .int .i64 n, .int .i64 c=>bif decide (0≤n)&&decide (n≤(eA:Int))&&(n==c)then
     bnd (zB tn z) λx=>yD C o.dst st i (.arr tn (List.replicate n.toNat x)) (.ow i) K (zD (!tn.flat))
    else none
   | _,_=>none
  | _,_=>none
 | .slice t x lo hi mx=>match mx,C.P.underlying t with
  | some _,_ | _,none=>none
  | none,some d=>nJ d (nF C) st.h (opd st.s x) (lo.map (opd st.s)) (hi.map (opd st.s)) λv=>DA C o.dst st v K
 | .fieldAddr t x f=>match WI C.P t f with
  | none=>none
  | some (off,ft)=>match BC C.P ft with
   | some (_+1)=>match opd st.s x with
    | .bp r o1=>DA C o.dst st (.bp r (o1+off)) K
    | .ep r t' k o1=>DA C o.dst st (.ep r t' k (o1+off)) K
    | .fp cs o1=>DA C o.dst st (.fp cs (o1+off)) K
    | _=>none
   | _=>none
 | .field t x f=>match WI C.P t f,opd st.s x with
  | some (off,ft), .agg cs=>match MC C.P ft,BC C.P ft with
   | some ag,some n=>uE ag n cs off λv=>DA C o.dst st v K
   | _,_=>none
  | _,_=>none
 | .indexAddr t x ix=>match opd st.s ix with
  | .int _ n=>match C.P.underlying t,opd st.s x with
   | some (.slice e), .sl t' l=>gd (nF C e t') (ob (vA l n) λa=>DA C o.dst st (.fp (enc t' a) 0) K) none
   | some (.slice e), .ow r=>match st.h r with
    | some ⟨.arr t' l,_⟩=>gd (nF C e t') (bif decide (0≤n)&&decide (n<(l.length:Int))then DA C o.dst st (.ep r t' n.toNat 0) K else none) none
    | _=>none
   | some (.slice e), .ov r t' off len=>gd (nF C e t') (bif decide (0≤n)&&decide (n<(len:Int))then DA C o.dst st (.ep r t' (off+n.toNat) 0) K else none) none
   | some (.array m e), .bp r o1=>match BC C.P e with
    | some 1=>fG (λk=>DA C o.dst st (.bp r (o1+k)) K) n 0 m
    | _=>none
   | _,_=>none
  | _=>none
 | .index t x ix=>match opd st.s ix,C.P.underlying t,opd st.s x with
  | .int _ n,some .string, .str s=>ob (vA s n) λb=>DA C o.dst st (.int .u8 (b.toNat:Int)) K
  | .int _ n,some (.array m e), .agg cs=>match BC C.P e,MC C.P e with
   | some 1,some false=>fG (λk=>match cs.drop k with | c :: _=>DA C o.dst st c K | []=>none) n 0 m
   | _,_=>none
  | _,_,_=>none
 | .extract x ix=>match opd st.s x with
  | .tup vs=>match vs.drop ix with
   | v :: _=>DA C o.dst st v K
   | []=>none
  | _=>none
 | .call {callee:= .builtin .len,args,argTypes}=>match args.toList,argTypes.toList with
  | [x],[t]=>match C.P.underlying t,bI st.h (opd st.s x)with
   | some d,some n=>gd (YP d (opd st.s x)) (DA C o.dst st (.int .i64 (n:Int)) K) none
   | _,_=>none
  | _,_=>none
 | .call {callee:= .builtin .append,args,argTypes}=>match args.toList,argTypes.toList with
  | [x,y],[t,t']=>gd (Nat.beq t t') (match(hJ C.P t).bind C.tn with
   | none=>none
   | some tn=>match kH st.h tn (opd st.s x),zL st.h tn (opd st.s y)with
    | some (l,r),some m=>bif decide (l.length+m.length≤eA)then
      yD C o.dst {st with h:=CI (PF st.h (opd st.s x) (opd st.s y)) (VD st.h r) (opd st.s y)} i (.arr tn (l++m)) (.ow i) K (zD (PF st.h (opd st.s x) (opd st.s y)))
     else none
    | _,_=>none) none
  | _,_=>none
 | .call {callee:= .builtin .min,args,argTypes:=_}=>match args.toList.map (opd st.s)with
  | [.int k a, .int k' b]=>bif decide (k=k')then DA C o.dst st (.int k (if b<a then b else a)) K else none
  | _=>none
 | .call {callee:= .builtin .max,args,argTypes:=_}=>match args.toList.map (opd st.s)with
  | [.int k a, .int k' b]=>bif decide (k=k')then DA C o.dst st (.int k (if b>a then b else a)) K else none
  | _=>none
 | .call {callee:= .value x,args,argTypes:=_}=>match opd st.s x with
  | .fn f cs=>OG C i o.dst st f (args.toList.map (opd st.s)++cs) K
  | _=>none
 | _=>none
end
end Go.D
namespace Go.D
variable [aA]
def cB.isRo:cB→Bool
 | .ro=>true
 | _=>false
omit [aA]in
def CN{m:cB}(h:m.isOwn=true):m.isRo=false:=by cases m<;>first | rfl | cases h
structure Wx(w0 w:World):Prop where
 os:w.os=w0.os
 tape:w.tape=w0.tape
 output:w.output=w0.output
 size:w0.heap.size≤w.heap.size
omit [aA]in
def Wx.refl(w:World):Wx w w:=⟨rfl,rfl,rfl,Nat.le_refl _⟩
omit [aA]in
def Wx.trans{a b c:World}(h:Wx a b)(k:Wx b c):Wx a c:=⟨k.os.trans h.os,k.tape.trans h.tape,k.output.trans h.output,Nat.le_trans h.size k.size⟩
def uC(w:World)(ρ:Nat→Option RI)(bad:Nat→Prop)(ri:RI):dD→Prop
 | .box cs=>ri.nl=false∧∀j (h:j<cs.length),w.frozen? (iA ri.b j)=false∧∃u,w.cell? (iA ri.b j)=some u∧VR w ρ bad u cs[j]
 | .arr t l=>ri.n=l.length∧(ri.nl=true∧l=[]∨ri.nl=false∧ID w ri.b t∧ri.n≤ri.cap∧ri.cap≤maxLen∧
   (∀j,j<ri.cap *sz t→w.frozen? (iA ri.b j)=false∧(w.cell? (iA ri.b j)).isSome=true)∧
   ∀i (h:i<l.length) j,j<sz t→∃u,w.cell? (iA ri.b (i *sz t+j))=some u∧VR w ρ bad u ((enc t l[i]).getD j .undef))
def bA(outer:Nat→Prop)(ρ:Nat→Option RI)(h:Nat→Option gA)(b:Nat):Prop:=
 outer b∨∃r row ri,h r=some row∧row.m.isRo=false∧ρ r=some ri∧ri.nl=false∧ri.b=b
omit [aA]in
def EB.lt{w:World}{b:Nat}(h:EB w b):b<w.heap.size:=by
 obtain⟨_,_,h⟩:=h;exact QH h
def XC(w0:World)(own:Ow)(b:Nat):Prop:=w0.heap.size≤b∨own.k b
inductive DV(w:World)(bad fr:Nat→Prop)(par:Nat→Option (Nat×Nat)):Nat×Nat→Value→V→Prop where
 | triv (p:Nat×Nat) (v:Value) (d:V) (h:∀(w':World) (ρ':Nat→Option RI) (bad':Nat→Prop),VR w' ρ' bad' v d):DV w bad fr par p v d
 | sl (p:Nat×Nat) (t:TN) (l:List (El t)) (b cap:Nat) (u:Nat→Nat→Value) (hb:¬bad b) (hf:fr b) (hp:par b=some p)
   (he:ID w b t) (hl:l.length≤cap) (hc:cap≤maxLen) (hz:∀j,j<cap *sz t→w.frozen? (iA b j)=false∧(w.cell? (iA b j)).isSome=true)
   (hu:∀i,i<l.length→∀j,j<sz t→w.cell? (iA b (i *sz t+j))=some (u i j))
   (hv:∀i (h:i<l.length) j,j<sz t→DV w bad fr par (b,i *sz t+j) (u i j) ((enc t l[i]).getD j .undef)):
   DV w bad fr par p (.slice (some (iA b 0)) l.length cap) (.sl t l)
def ZI(w:World)(bad fr:Nat→Prop)(par:Nat→Option (Nat×Nat))(ri:RI)(t:TN)(l:List (El t)):Prop:=
 par ri.b=none∧∀i (h:i<l.length) j,j<sz t→∃u,w.cell? (iA ri.b (i *sz t+j))=some u∧DV w bad fr par (ri.b,i *sz t+j) u ((enc t l[i]).getD j .undef)
def pB(w:World)(bad fr:Nat→Prop)(ρ:Nat→Option RI)(h:Nat→Option gA):Prop:=
 ∃par,∀r t (l:List (El t)) m ri,h r=some ⟨.arr t l,m⟩→m.isTre=true→ρ r=some ri→ri.nl=false→ZI w bad fr par ri t l
section
variable {w w':World} {bad bad' fr fr':Nat→Prop} {par par':Nat→Option (Nat×Nat)} {ρ ρ':Nat→Option RI} {h h':Nat→Option gA}
inductive lF(par:Nat→Option (Nat×Nat))(a:Nat):Nat→Prop where
 | one (b o:Nat) (h:par b=some (a,o)):lF par a b
 | step (b c o:Nat) (h:par b=some (c,o)) (hc:lF par a c):lF par a b
omit [aA]in
def lF.root{a a' b:Nat}(h:lF par a b)(h':lF par a' b)(ha:par a=none)(N7:par a'=none):a=a':=by
 induction h with
 | one b o h=>
  cases h' with
  | one _ o' h1=>rw[h]at h1;cases h1;rfl
  | step _ c o' h1 hc=>
   rw[h]at h1;cases h1;cases hc with
   | one _ _ h2=>rw[ha]at h2;cases h2
   | step _ _ _ h2 _=>rw[ha]at h2;cases h2
 | step b c o h hc ih=>
  cases h' with
  | one _ o' h1=>
   rw[h]at h1;cases h1;cases hc with
   | one _ _ h2=>rw[N7]at h2;cases h2
   | step _ _ _ h2 _=>rw[N7]at h2;cases h2
  | step _ c' o' h1 bX=>rw[h]at h1;cases h1;exact ih bX
def DV.genT(T:Nat→Prop){p p':Nat×Nat}{v:Value}{d:V}(hd:DV w bad fr par p v d)(t0:∀b,par b=some p→T b)(ts:∀b q,T q.1→par b=some q→T b)
  (hw:∀b,T b→¬bad b→EB w b→fr b→w'.heap[b]?=w.heap[b]?)
  (hb:∀b,T b→EB w b→fr b→bad' b→bad b) (hf:∀b,T b→fr b→fr' b) (h1:∀b,T b→¬bad b→EB w b→fr b→par b=some p→par' b=some p')
  (h2:∀b q,T b→¬bad b→EB w b→fr b→par q.1≠none→par b=some q→par' b=some q):DV w' bad' fr' par' p' v d:=by
 induction hd generalizing p' with
 | triv p v d h=>exact .triv _ _ _ h
 | sl p t l b cap u DX eX hp he SW EX hz hu hv ih=>
  by_cases hl:l.length=0
  ·obtain rfl:=List.eq_nil_of_length_eq_zero hl;exact .triv _ _ _ λ_ _ _=> .slE _ _ _ EX
  have hc:EB w b:=⟨_,_,hu 0 (by omega) 0 (xF t)⟩;have hT:=t0 b hp;have hs:=hw b hT DX hc eX
  exact .sl p' t l b cap u (λh=>DX (hb b hT hc eX h)) (hf b hT eX) (h1 b hT DX hc eX hp) (he.same hs) SW EX (λj hj=>⟨by rw[←(hz j hj).1];simp[World.frozen?,iA,hs],by rw[←(hz j hj).2];exact congrArg Option.isSome (gD hs)⟩)
   (λi hi j hj=>(gD hs).trans (hu i hi j hj)) λi hi j hj=>ih i hi j hj (λc hc=>ts c _ hT hc) λc A5 hc KW D9 E9=>h2 c _ A5 hc KW D9 (by show par b≠none;rw[hp];simp) E9
def DV.vr{p:Nat×Nat}{v:Value}{d:V}(hd:DV w bad fr par p v d)(ρ:Nat→Option RI):VR w ρ bad v d:=by
 induction hd with
 | triv p v d h=>exact h _ _ _
 | sl p t l b cap u DX eX hp he SW EX hz hu hv ih=>
  exact .slC t l b 0 cap u DX SW EX (λ_=> .inr he) (λi hi j hj=>by rw[Nat.zero_add];exact hu i hi j hj) ih
def DV.gen{p p':Nat×Nat}{v:Value}{d:V}(hd:DV w bad fr par p v d)(hw:∀b,¬bad b→EB w b→fr b→w'.heap[b]?=w.heap[b]?)
  (hb:∀b,EB w b→fr b→bad' b→bad b) (hf:∀b,fr b→fr' b) (h1:∀b,¬bad b→EB w b→fr b→par b=some p→par' b=some p')
  (h2:∀b q,¬bad b→EB w b→fr b→par q.1≠none→par b=some q→par' b=some q):DV w' bad' fr' par' p' v d:=
 hd.genT (λ_=>True) (λ_ _=>trivial) (λ_ _ _ _=>trivial) (λb _=>hw b) (λb _=>hb b) (λb _=>hf b) (λb _=>h1 b) λb q _=>h2 b q
def ZI.genT{ri ri':RI}{t:TN}{l:List (El t)}(hd:ZI w bad fr par ri t l)(DX:ri'.b=ri.b)(B5:w'.heap[ri.b]?=w.heap[ri.b]?)(hw:∀b,lF par ri.b b→¬bad b→EB w b→fr b→w'.heap[b]?=w.heap[b]?)
  (hb:∀b,lF par ri.b b→EB w b→fr b→bad' b→bad b) (hf:∀b,lF par ri.b b→fr b→fr' b) (eY:par' ri.b=none)
  (hp:∀b q,lF par ri.b b→¬bad b→EB w b→fr b→par b=some q→par' b=some q):ZI w' bad' fr' par' ri' t l:=by
 refine⟨by rw[DX];exact eY,λi hi j hj=>?_⟩;obtain⟨u,h1,h2⟩:=hd.2 i hi j hj;rw[DX];exact⟨u,(gD B5).trans h1,h2.genT (lF par ri.b) (λb h=> .one b _ h) (λb q h h'=> .step b q.1 q.2 h' h) hw hb hf (λb h3 h5 h6 h7 h4=>hp b _ h3 h5 h6 h7 h4) λb q h3 h5 h6 h7 _ h4=>hp b q h3 h5 h6 h7 h4⟩
def ZI.gen{ri ri':RI}{t:TN}{l:List (El t)}(hd:ZI w bad fr par ri t l)(DX:ri'.b=ri.b)(B5:w'.heap[ri.b]?=w.heap[ri.b]?)(hw:∀b,¬bad b→EB w b→fr b→w'.heap[b]?=w.heap[b]?)
  (hb:∀b,EB w b→fr b→bad' b→bad b) (hf:∀b,fr b→fr' b) (eY:par' ri.b=none)
  (hp:∀b q,¬bad b→EB w b→fr b→par b=some q→par' b=some q):ZI w' bad' fr' par' ri' t l:=
 hd.genT DX B5 (λb _=>hw b) (λb _=>hb b) (λb _=>hf b) eY λb q _=>hp b q
def pB.keep(hd:pB w bad fr ρ h)
  (hr:∀r t (l:List (El t)) m ri,h' r=some ⟨.arr t l,m⟩→m.isTre=true→ρ' r=some ri→ri.nl=false→∃q m',h q=some ⟨.arr t l,m'⟩∧m'.isTre=true∧ρ q=some ri∧w'.heap[ri.b]?=w.heap[ri.b]?)
  (hw:∀b,¬bad b→b<w.heap.size→w'.heap[b]?=w.heap[b]?) (hb:∀b,bad' b→bad b∨w.heap.size≤b) (hf:∀b,fr b→fr' b):pB w' bad' fr' ρ' h':=by
 obtain⟨par,hd⟩:=hd;refine⟨par,λr t l m ri h1 hm h2 h3=>?_⟩;obtain⟨q,m',e1,em,e2,e3⟩:=hr r t l m ri h1 hm h2 h3;have:=hd q t l m' ri e1 em e2 h3;exact this.gen rfl e3 (λb h4 h5 _=>hw b h4 h5.lt) (λb h4 _ h5=>(hb b h5).elim id λh=>by have:=h4.lt;omega) hf this.1 λ_ _ _ _ _ h=>h
def pB.zero(hr:∀r t (l:List (El t)) m,h r=some ⟨.arr t l,m⟩→m.isTre=false):pB w bad fr ρ h:=⟨λ_=> .none,λr t l m ri h1 h2=>by rw[hr r t l m h1]at h2;cases h2⟩
end
structure EA(w0:World)(outer:Nat→Prop)(own:Ow)(ρ:Nat→Option RI)(h:Nat→Option gA)(w:World):Prop where
 wx:Wx w0 w
 old:∀b,b<w0.heap.size→¬own b→w.heap[b]?=w0.heap[b]?
 outLt:∀b,outer b→b<w0.heap.size∧¬own b
 rows:∀r row,h r=some row→∃ri,ρ r=some ri∧uC w ρ (bA outer ρ h) ri row.c∧
  (ri.nl=false→(¬outer ri.b∧(row.m.isRo=false→w0.heap.size≤ri.b∨own ri.b))∧ri.b<w.heap.size)
 inj:∀r r' row row' ri ri',h r=some row→h r'=some row'→ρ r=some ri→ρ r'=some ri'→ri.nl=false→ri'.nl=false→ri.b=ri'.b→r=r'
 dep:pB w (bA outer ρ h) (XC w0 own) ρ h
structure AA(C:Cx)(w0:World)(outer:Nat→Prop)(own:Ow)(ρ:Nat→Option RI)(st:St)(a:Act)(w:World):Prop where
 heap:EA w0 outer own ρ st.h w
 slots:∀i,VR w ρ (bA outer ρ st.h) (a.tmps.getD i undef) (st.s i)
 size:a.tmps.size=C.nt
 defers:a.defers=[]
 glob:RL C.g own w0
section
variable {C:Cx} {w0:World} {outer:Nat→Prop} {own:Ow} {ρ:Nat→Option RI} {st:St} {a:Act} {w:World} {h:Nat→Option gA}
omit [aA]in
def tA{α:Type}(f:Nat→α)(i:Nat)(v:α):cA f i v i=v:=by simp[cA]
omit [aA]in
def kA{α:Type}(f:Nat→α)(i j:Nat)(v:α)(h:j≠i):cA f i v j=f j:=by
 simp only[cA]
 have:Nat.beq j i=false:=by
  cases hb:Nat.beq j i with
  | false=>rfl
  | true=>exact absurd (Nat.eq_of_beq_eq_true hb) h
 rw[this];rfl
omit [aA]in
def GG{α:Type}(f:Nat→α)(i:Nat)(a b:α):cA (cA f i a) i b=cA f i b:=by
 funext j
 by_cases h:j=i
 ·subst h;rw[tA,tA]
 ·rw[kA _ _ _ _ h,kA _ _ _ _ h,kA _ _ _ _ h]
omit [aA]in
def JC(a:Act)(d:Nat)(v:Value)(hd:d<a.tmps.size)(i:Nat):
  (a.put (some d) v).tmps.getD i undef=if i=d then v else a.tmps.getD i undef:=by
 simp only[Act.put,Array.getD_eq_getD_getElem?,Array.getElem?_setIfInBounds]
 by_cases h:d=i
 ·subst h;simp[hd]
 ·simp[h,Ne.symm h]
def AA.put(hr:AA C w0 outer own ρ st a w){dst:Option Nat}{v:Value}{d:V}(hv:VR w ρ (bA outer ρ st.h) v d){st':St}
  (hk:DA C dst st d some=some st'):AA C w0 outer own ρ st' (a.put dst v) w∧st'.h=st.h∧st'.nx=st.nx:=by
 cases dst with
 | none=>simp[DA]at hk;subst hk;exact⟨hr,rfl,rfl⟩
 | some k=>
  simp only[DA]at hk;cases hb:Nat.blt k C.nt with
  | false=>simp[hb]at hk
  | true=>
   simp[hb]at hk;subst hk;have vV:k<a.tmps.size:=by rw[hr.size];simpa[Nat.blt_eq]using hb
   refine⟨⟨hr.heap,λi=>?_,by simp[Act.put,hr.size],hr.defers,hr.glob⟩,rfl,rfl⟩;rw[JC a k v vV i];show VR w ρ _ _ (cA st.s k d i)
   by_cases h:i=k
   ·subst h;rw[if_pos rfl,tA];exact hv
   ·rw[if_neg h,kA _ _ _ _ h];exact hr.slots i
omit [aA]in
def bA.mono{h':Nat→Option gA}{b:Nat}(hs:∀r row',h' r=some row'→row'.m.isRo=false→∃row,h r=some row∧row.m.isRo=false)
  (hb:bA outer ρ h' b):bA outer ρ h b:=by
 rcases hb with hb | ⟨r,row',ri,h1,h2,h3,h4,h5⟩
 ·exact .inl hb
 ·obtain⟨row,h6,h7⟩:=hs r row' h1 h2;exact .inr ⟨r,row,ri,h6,h7,h3,h4,h5⟩
def mS{w:World}{c:Array Value}{e:TypeId}{t:TN}(h:aA.tn e=some t):ID (w.alloc (.cells c e)) w.heap.size t:=
 ⟨c,e,_,by show(w.heap.push _)[w.heap.size]?=_;rw[Array.getElem?_push_size],h⟩
def uC.keep{w':World}{ρ':Nat→Option RI}{bad bad':Nat→Prop}{ri:RI}{c:dD}(hr:uC w ρ bad ri c)
  (hw:ri.nl=false→w'.heap[ri.b]?=w.heap[ri.b]?)
  (hv:∀u d,VR w ρ bad u d→VR w' ρ' bad' u d):uC w' ρ' bad' ri c:=by
 cases c with
 | box cs=>
  refine⟨hr.1,λj hj=>?_⟩;obtain⟨h1,u,h2,h3⟩:=hr.2 j hj;have hb:=hw hr.1;exact⟨by rw[←h1];simp[World.frozen?,iA,hb],u,by rw[←h2];exact gD hb,hv _ _ h3⟩
 | arr t l=>
  refine⟨hr.1,?_⟩
  rcases hr.2 with h | ⟨h0,he,h1,h2,h3,h4⟩
  ·exact .inl h
  ·have hb:=hw h0;refine .inr ⟨h0,he.same hb,h1,h2,λj hj=>?_,λi hi j hj=>?_⟩
   ·have:=h3 j hj;exact⟨by rw[←this.1];simp[World.frozen?,iA,hb],by rw[←this.2];congr 1;exact gD hb⟩
   ·obtain⟨u,h5,h6⟩:=h4 i hi j hj;exact⟨u,by rw[←h5];exact gD hb,hv _ _ h6⟩
def EA.alloc(hh:EA w0 outer own ρ h w)(r:Nat)(hr:ρ r=none)(ri:RI)(hb:ri.nl=false→ri.b=w.heap.size)(w':World)(lW:Wx w w')
  (hw:∀b,b<w.heap.size→w'.heap[b]?=w.heap[b]?) (xV:ri.nl=false→w.heap.size<w'.heap.size) (c:dD)
  (hc:(∀ u d,VR w ρ (bA outer ρ h) u d→VR w' (cA ρ r (some ri)) (bA outer (cA ρ r (some ri)) (cA h r (some ⟨c, .own⟩))) u d)→
   uC w' (cA ρ r (some ri)) (bA outer (cA ρ r (some ri)) (cA h r (some ⟨c, .own⟩))) ri c):
  EA w0 outer own (cA ρ r (some ri)) (cA h r (some ⟨c, .own⟩)) w'∧
   ∀u d,VR w ρ (bA outer ρ h) u d→VR w' (cA ρ r (some ri)) (bA outer (cA ρ r (some ri)) (cA h r (some ⟨c, .own⟩))) u d:=by
 have hρ:∀q qi,ρ q=some qi→cA ρ r (some ri) q=some qi:=λq qi hq=>by
  rw[kA];exact hq;rintro rfl;simp[hr]at hq
 have O7:∀q row,h q=some row→q≠r:=λq row hq=>by
  rintro rfl;obtain⟨qi,h1,_⟩:=hh.rows q row hq;simp[hr]at h1
 have uV:∀b,bA outer (cA ρ r (some ri)) (cA h r (some ⟨c, .own⟩)) b→bA outer ρ h b∨w.heap.size≤b:=by
  rintro b (NV | ⟨q,row,qi,h1,h2,h3,h4,h5⟩)
  ·exact .inl (.inl NV)
  ·by_cases hq:q=r
   ·subst hq;rw[tA]at h3;cases h3;right;rw[←h5,hb h4];exact Nat.le_refl _
   ·rw[kA _ _ _ _ hq]at h1 h3;exact .inl (.inr ⟨q,row,qi,h1,h2,h3,h4,h5⟩)
 have hv:∀u d,VR w ρ (bA outer ρ h) u d→VR w' (cA ρ r (some ri)) (bA outer (cA ρ r (some ri)) (cA h r (some ⟨c, .own⟩))) u d:=λu d hu=>
  hu.mono hρ (λb _ hb=>hw b hb) uV
 refine⟨⟨hh.wx.trans lW,λb hb ho=>(hw b (Nat.lt_of_lt_of_le hb hh.wx.size)).trans (hh.old b hb ho),hh.outLt,?_,?_,?_⟩,hv⟩
 rotate_right
 ·refine hh.dep.keep (λq t l m' qi h1 LW h2 h3=>?_) (λb _ hb=>hw b hb) uV λ_ h=>h
  by_cases hq:q=r
  ·subst hq;rw[tA]at h1;cases h1;cases LW
  ·rw[kA _ _ _ _ hq]at h1 h2;obtain⟨qi',h4,_,h5⟩:=hh.rows q _ h1;rw[h2]at h4;cases h4;exact⟨q,m',h1,LW,h2,hw _ (h5 h3).2⟩
 ·intro q row hq
  by_cases zV:q=r
  ·subst zV;rw[tA]at hq;cases hq;refine⟨ri,tA _ _ _,hc hv,λhn=>?_⟩;rw[hb hn];exact⟨⟨λho=>by have:=(hh.outLt _ ho).1;have:=hh.wx.size;omega,λ_=> .inl hh.wx.size⟩,xV hn⟩
  ·rw[kA _ _ _ _ zV]at hq;obtain⟨qi,h1,h2,h3⟩:=hh.rows q row hq;refine⟨qi,hρ q qi h1,h2.keep (λhn=>hw _ (h3 hn).2) hv,λhn=>⟨(h3 hn).1,Nat.lt_of_lt_of_le (h3 hn).2 lW.size⟩⟩
 ·intro q q' row row' qi qi' h1 h2 h3 h4 h5 h6 h7
  by_cases hq:q=r<;>by_cases MW:q'=r
  ·rw[hq,MW]
  ·subst hq;rw[tA]at h3;cases h3;rw[kA _ _ _ _ MW]at h2 h4;obtain⟨qi'',h8,_,h9⟩:=hh.rows q' row' h2;rw[h4]at h8;cases h8;have:=(h9 h6).2;rw[←h7,hb h5]at this;omega
  ·subst MW;rw[tA]at h4;cases h4;rw[kA _ _ _ _ hq]at h1 h3;obtain⟨qi'',h8,_,h9⟩:=hh.rows q row h1;rw[h3]at h8;cases h8;have:=(h9 h5).2;rw[h7,hb h6]at this;omega
  ·rw[kA _ _ _ _ hq]at h1 h3;rw[kA _ _ _ _ MW]at h2 h4;exact hh.inj q q' row row' qi qi' h1 h2 h3 h4 h5 h6 h7
def EA.write(hh:EA w0 outer own ρ h w){r:Nat}{c:dD}{m:cB}{ri:RI}(hr:h r=some ⟨c,m⟩)(hm:m.isRo=false)(hρ:ρ r=some ri)(hn:ri.nl=false)(w':World)
  (lW:Wx w w') (xV:w'.heap.size=w.heap.size) (hw:∀b,b≠ri.b→w'.heap[b]?=w.heap[b]?) (c':dD)
  (hc:(∀u d,VR w ρ (bA outer ρ h) u d→VR w' ρ (bA outer ρ (cA h r (some ⟨c', .own⟩))) u d)→uC w' ρ (bA outer ρ (cA h r (some ⟨c', .own⟩))) ri c'):
  EA w0 outer own ρ (cA h r (some ⟨c', .own⟩)) w'∧∀u d,VR w ρ (bA outer ρ h) u d→VR w' ρ (bA outer ρ (cA h r (some ⟨c', .own⟩))) u d:=by
 have DY:bA outer ρ h ri.b:= .inr ⟨r,_,ri,hr,hm,hρ,hn,rfl⟩
 have uV:∀b,bA outer ρ (cA h r (some ⟨c', .own⟩)) b→bA outer ρ h b:=λb hb=>hb.mono λq row' h1 h2=>by
  by_cases hq:q=r
  ·subst hq;exact⟨_,hr,hm⟩
  ·rw[kA _ _ _ _ hq]at h1;exact⟨row',h1,h2⟩
 have hv:∀u d,VR w ρ (bA outer ρ h) u d→VR w' ρ (bA outer ρ (cA h r (some ⟨c', .own⟩))) u d:=λu d hu=>
  hu.mono (λ_ _ h=>h) (λb hb _=>hw b λe=>hb (e▸DY)) λb hb=> .inl (uV b hb)
 obtain⟨ri',h6,_,h7⟩:=hh.rows r _ hr;rw[hρ]at h6;cases h6;refine⟨⟨hh.wx.trans lW,λb hb ho=>?_,hh.outLt,?_,?_,?_⟩,hv⟩
 rotate_right
 ·refine hh.dep.keep (λq t l m' qi h1 LW h2 h3=>?_) (λb hb _=>hw b λe=>hb (e▸DY)) (λb hb=> .inl (uV b hb)) λ_ h=>h
  by_cases hq:q=r
  ·subst hq;rw[tA]at h1;cases h1;cases LW
  ·rw[kA _ _ _ _ hq]at h1;exact⟨q,m',h1,LW,h2,hw _ λe=>hq (hh.inj q r _ _ qi ri h1 hr h2 hρ h3 hn e)⟩
 ·refine(hw b ?_).trans (hh.old b hb ho);rintro rfl
  rcases(h7 hn).1.2 hm with h8 | h8
  ·omega
  ·exact ho h8
 ·intro q row hq
  by_cases zV:q=r
  ·subst zV;rw[tA]at hq;cases hq;exact⟨ri,hρ,hc hv,λ_=>by rw[xV];exact⟨⟨(h7 hn).1.1,λ_=>(h7 hn).1.2 hm⟩,(h7 hn).2⟩⟩
  ·rw[kA _ _ _ _ zV]at hq;obtain⟨qi,h1,h2,h3⟩:=hh.rows q row hq;refine⟨qi,h1,h2.keep (λZZ=>hw _ ?_) hv,λZZ=>by rw[xV];exact h3 ZZ⟩;intro e;exact zV (hh.inj q r row _ qi ri hq hr h1 hρ ZZ hn e)
 ·intro q q' row row' qi qi' h1 h2 h3 h4 h5 h6 h7
  have:∀x y,cA h r (some ⟨c', .own⟩) x=some y→∃z,h x=some z:=λx y hx=>by
   by_cases hq:x=r
   ·subst hq;exact⟨_,hr⟩
   ·rw[kA _ _ _ _ hq]at hx;exact⟨_,hx⟩
  obtain⟨z,hz⟩:=this _ _ h1;obtain⟨z',kX⟩:=this _ _ h2;exact hh.inj q q' z z' qi qi' hz kX h3 h4 h5 h6 h7
def EA.less(hh:EA w0 outer own ρ h w){h':Nat→Option gA}(hs:∀r row',h' r=some row'→∃row,h r=some row∧row.c=row'.c∧(row'.m.isRo=false→row.m.isRo=false)∧(row'.m.isTre=true→row.m.isTre=true)):
  EA w0 outer own ρ h' w∧∀u d,VR w ρ (bA outer ρ h) u d→VR w ρ (bA outer ρ h') u d:=by
 have uV:∀b,bA outer ρ h' b→bA outer ρ h b:=λb hb=>hb.mono λq row' h1 h2=>by
  obtain⟨row,h3,_,h4,_⟩:=hs q row' h1;exact⟨row,h3,h4 h2⟩
 have hv:∀u d,VR w ρ (bA outer ρ h) u d→VR w ρ (bA outer ρ h') u d:=λu d hu=>hu.mono (λ_ _ h=>h) (λ_ _ _=>rfl) λb hb=> .inl (uV b hb);refine⟨⟨hh.wx,hh.old,hh.outLt,λr row' hr=>?_,λq q' row row' qi qi' h1 h2 h3 h4 h5 h6 h7=>?_,?_⟩,hv⟩
 rotate_right
 ·refine hh.dep.keep (λq t l m' qi h1 LW h2 h3=>?_) (λ_ _ _=>rfl) (λb hb=> .inl (uV b hb)) λ_ h=>h;obtain⟨⟨c,m⟩,h4,h5,_,h6⟩:=hs q _ h1;simp only at h5;subst h5;exact⟨q,m,h4,h6 LW,h2,rfl⟩
 ·obtain⟨row,h1,h2,h6,_⟩:=hs r row' hr;obtain⟨ri,h3,h4,h5⟩:=hh.rows r row h1;exact⟨ri,h3,by rw[←h2];exact h4.keep (λ_=>rfl) hv,λhn=>⟨⟨(h5 hn).1.1,λhm=>(h5 hn).1.2 (h6 hm)⟩,(h5 hn).2⟩⟩
 ·obtain⟨z,hz,_⟩:=hs _ _ h1;obtain⟨z',kX,_⟩:=hs _ _ h2;exact hh.inj q q' z z' qi qi' hz kX h3 h4 h5 h6 h7
def EA.turn(hh:EA w0 outer own ρ h w){r:Nat}{c:dD}{m m':cB}(hr:h r=some ⟨c,m⟩)(hm:m.isRo=false)(hd:(∀b,bA outer ρ (cA h r (some ⟨c,m'⟩)) b→bA outer ρ h b)→pB w (bA outer ρ (cA h r (some ⟨c,m'⟩))) (XC w0 own) ρ (cA h r (some ⟨c,m'⟩))):
  EA w0 outer own ρ (cA h r (some ⟨c,m'⟩)) w∧∀u d,VR w ρ (bA outer ρ h) u d→VR w ρ (bA outer ρ (cA h r (some ⟨c,m'⟩))) u d:=by
 have hs:∀q row',cA h r (some ⟨c,m'⟩) q=some row'→∃row,h q=some row∧row.c=row'.c∧(row'.m.isRo=false→row.m.isRo=false):=λq row' hq=>by
  by_cases h1:q=r
  ·subst h1;rw[tA]at hq;cases hq;exact⟨_,hr,rfl,λ_=>hm⟩
  ·rw[kA _ _ _ _ h1]at hq;exact⟨row',hq,rfl,id⟩
 have uV:∀b,bA outer ρ (cA h r (some ⟨c,m'⟩)) b→bA outer ρ h b:=λb hb=>hb.mono λq row' h1 h2=>by
  obtain⟨row,h3,_,h4⟩:=hs q row' h1;exact⟨row,h3,h4 h2⟩
 have hv:∀u d,VR w ρ (bA outer ρ h) u d→VR w ρ (bA outer ρ (cA h r (some ⟨c,m'⟩))) u d:=λu d hu=>hu.mono (λ_ _ h=>h) (λ_ _ _=>rfl) λb hb=> .inl (uV b hb);refine⟨⟨hh.wx,hh.old,hh.outLt,λr row' hr=>?_,λq q' row row' qi qi' h1 h2 h3 h4 h5 h6 h7=>?_,hd uV⟩,hv⟩
 ·obtain⟨row,h1,h2,h6⟩:=hs r row' hr;obtain⟨ri,h3,h4,h5⟩:=hh.rows r row h1;exact⟨ri,h3,by rw[←h2];exact h4.keep (λ_=>rfl) hv,λhn=>⟨⟨(h5 hn).1.1,λhm=>(h5 hn).1.2 (h6 hm)⟩,(h5 hn).2⟩⟩
 ·obtain⟨z,hz,_⟩:=hs _ _ h1;obtain⟨z',kX,_⟩:=hs _ _ h2;exact hh.inj q q' z z' qi qi' hz kX h3 h4 h5 h6 h7
def EA.world(hh:EA w0 outer own ρ h w){w':World}(lW:Wx w w')(eW:w'.heap=w.heap):
  EA w0 outer own ρ h w'∧∀u d,VR w ρ (bA outer ρ h) u d→VR w' ρ (bA outer ρ h) u d:=by
 have hv:∀u d,VR w ρ (bA outer ρ h) u d→VR w' ρ (bA outer ρ h) u d:=λu d hu=>hu.mono (λ_ _ h=>h) (λ_ _ _=>by rw[eW]) λb hb=> .inl hb;refine⟨⟨hh.wx.trans lW,λb hb ho=>by rw[eW];exact hh.old b hb ho,hh.outLt,λr row hr=>?_,hh.inj,?_⟩,hv⟩
 rotate_right
 ·exact hh.dep.keep (λq t l m' qi h1 LW h2 _=>⟨q,m',h1,LW,h2,by rw[eW]⟩) (λ_ _ _=>by rw[eW]) (λ_ hb=> .inl hb) λ_ h=>h
 obtain⟨ri,h1,h2,h3⟩:=hh.rows r row hr;exact⟨ri,h1,h2.keep (λ_=>by rw[eW]) hv,λhn=>by rw[eW];exact h3 hn⟩
end
end Go.D
namespace Go.D
variable [aA]
section
variable {C:Cx} {w0:World} {outer:Nat→Prop} {own:Ow} {ρ:Nat→Option RI} {st:St} {a:Act} {w:World} {h:Nat→Option gA}
omit [aA]in
def pD:∀(ids:List Nat) (h:Nat→Option gA) (r:Nat),
  eB h ids r=if r∈ids then(h r).map (λrow=>{row with m:= .ro})else h r
 | [],h,r=>by simp[eB]
 | q :: qs,h,r=>by
  rw[eB,pD qs]
  by_cases hq:r=q
  ·subst hq;rw[tA]
   by_cases hm:r∈qs
   ·simp only[hm,if_true,List.mem_cons,or_true,if_true];cases h r<;>rfl
   ·simp[hm]
  ·rw[kA _ _ _ _ hq];simp[hq]
omit [aA]in
def EM(h:Nat→Option gA)(ids:List Nat):∀r row',eB h ids r=some row'→∃row,h r=some row∧row.c=row'.c∧(row'.m.isRo=false→row.m.isRo=false)∧(row'.m.isTre=true→row.m.isTre=true):=by
 intro r row' hr;rw[pD]at hr
 by_cases hm:r∈ids
 ·simp only[hm,if_true,Option.map_eq_some_iff]at hr;obtain⟨row,h1,rfl⟩:=hr;exact⟨row,h1,rfl,by simp[cB.isRo],λh=>by cases h⟩
 ·simp only[hm,if_false]at hr;exact⟨row',hr,rfl,id,id⟩
def EA.mark(hh:EA w0 outer own ρ h w)(ids:List Nat):EA w0 outer own ρ (eB h ids) w∧
  ∀u d,VR w ρ (bA outer ρ h) u d→VR w ρ (bA outer ρ (eB h ids)) u d:=hh.less (EM h ids)
omit [aA]in
def vR{i j:List Nat}(hs:∀r∈i,r∈j){b:Nat}(hb:bA outer ρ (eB h j) b):bA outer ρ (eB h i) b:=
 hb.mono λr row' h1 h2=>by
  rw[pD]at h1
  by_cases hm:r∈j
  ·simp only[hm,if_true,Option.map_eq_some_iff]at h1;obtain⟨row,_,rfl⟩:=h1;simp[cB.isRo]at h2
  ·simp only[hm,if_false]at h1;exact⟨row',by rw[pD,if_neg (λh=>hm (hs r h))];exact h1,h2⟩
def sM{i j:List Nat}(hs:∀r∈i,r∈j){u:Value}{d:V}(hv:VR w ρ (bA outer ρ (eB h i)) u d):VR w ρ (bA outer ρ (eB h j)) u d:=
 hv.mono (λ_ _ h=>h) (λ_ _ _=>rfl) λ_ hb=> .inl (vR hs hb)
def xM(hh:EA w0 outer own ρ h w){r:Nat}{row:gA}{ri:RI}(hr:h r=some row)(hρ:ρ r=some ri)(hn:ri.nl=false)
  {ids:List Nat} (hm:r∈ids):¬bA outer ρ (eB h ids) ri.b:=by
 obtain⟨ri',h1,_,h2⟩:=hh.rows r row hr;rw[hρ]at h1;cases h1;rintro(hb | ⟨q,row',qi,h3,h4,h5,h6,h7⟩)
 ·exact(h2 hn).1.1 hb
 ·rw[pD]at h3
  by_cases hq:q∈ids
  ·simp only[hq,if_true,Option.map_eq_some_iff]at h3;obtain⟨_,_,rfl⟩:=h3;simp[cB.isRo]at h4
  ·simp only[hq,if_false]at h3;exact hq (by rw[hh.inj q r row' row qi ri h3 hr h5 hρ h6 hn h7];exact hm)
def vB(d:V):Prop:=∀S:Nat→Prop,TA S d
omit [aA]in
def eH(t:TN)(l:List (El t)):vB (.sl t l):=λS=> .sl t l λi _ j _=>oH S t _ j
omit [aA]in
def nU(t:TN)(x:El t)(j:Nat)(hj:j<sz t):((enc t x).getD j .undef).leaf=true:=by
 have h1:=zaH t x;have h2:j<(enc t x).length:=by rw[WA];exact hj
 rw[List.getD_eq_getElem?_getD,List.getElem?_eq_getElem h2,Option.getD_some];exact List.all_eq_true.1 h1 _ (List.getElem_mem h2)
def zcc{bad:Nat→Prop}{ri:RI}{t:TN}{l:List (El t)}(hr:uC w ρ bad ri (.arr t l))(hn:ri.nl=false)(hb:¬bad ri.b)
  (off len cap:Nat) (tV:off+len≤l.length) (tX:len≤cap) (pY:cap≤maxLen):
  VR w ρ bad (.slice (some (iA ri.b (off *sz t))) len cap) (.sl t ((l.drop off).take len)):=by
 rcases hr.2 with h | ⟨h0,he,h1,h2,h3,h4⟩
 ·rw[hn]at h;cases h.1
 have hl:((l.drop off).take len).length=len:=by simp;omega
 have:=VR.slC (w:=w) (ρ:=ρ) (bad:=bad) t ((l.drop off).take len) ri.b (off *sz t) cap (λi j=>(w.cell? (iA ri.b (off *sz t+i *sz t+j))).getD undef) hb (by omega) pY (λ_=> .inr he)
  (fun i hi j hj=>by
   obtain⟨u,h5,h6⟩:=h4 (off+i) (by omega) j hj;rw[Nat.add_mul]at h5;rw[h5];rfl)
  (fun i hi j hj=>by
   obtain⟨u,h5,h6⟩:=h4 (off+i) (by omega) j hj;rw[Nat.add_mul]at h5;rw[h5,Option.getD_some];have:((l.drop off).take len)[i]=l[off+i]'(by omega):=by simp
   rw[this];exact h6)
 rw[hl]at this;exact this
omit [aA]in
def XF{t:TN}(e:t=t)(l:List (El t)):TN.cast e l=l:=by cases e;rfl
omit [aA]in
def bP:∀(n:Nat) (d:V),RD n d=true→vB d∧d.leaf=true
 | 0,d,h=>by simp[RD]at h
 | n+1,d,h=>by
  cases d<;>simp only[RD,List.all_eq_true]at h<;>try (cases h;done)
  ·exact⟨λ_=> .bool _,rfl⟩
  ·exact⟨λ_=> .int _ _,rfl⟩
  ·exact⟨λ_=> .str _,rfl⟩
  ·exact⟨λ_=> .nil,rfl⟩
  ·exact⟨eH _ _,rfl⟩
  ·exact⟨λS=> .fp _ _ λj hj=>(bP n _ (h _ (List.getElem_mem hj))).1 S,rfl⟩
  ·exact⟨λS=> .fn _ _ λj hj=>(bP n _ (h _ (List.getElem_mem hj))).1 S,rfl⟩
  ·exact⟨λ_=> .nili,rfl⟩
  ·exact⟨λ_=> .ifc _,rfl⟩
def MO(hh:EA w0 outer own ρ h w){v:Value}{d d':V}{ids:List Nat}(hv:VR w ρ (bA outer ρ h) v d)(hf:kC h d=some (d',ids)):
  VR w ρ (bA outer ρ (eB h ids)) v d'∧vB d'∧d'.leaf=true:=by
 unfold kC at hf;split at hf
 ·rename_i r;split at hf
  ·rename_i t l m hr;cases gZ:m.isLock<;>simp[gZ]at hf
   obtain⟨rfl,rfl⟩:=hf;refine⟨?_,eH _ _,rfl⟩;obtain⟨O7,V1⟩:=hh.mark [r];obtain⟨ri,hρ,FV,j0⟩:=hh.rows r _ hr;have o0:=FV.keep (λ_=>rfl) V1;cases hv with
   | ow _ ri' h1 h2 h3 h4=>
    rw[hρ]at h1;cases h1;have:=zcc o0 h4 (xM hh hr hρ h4 (by simp)) 0 ri.n ri.cap (by have:=FV.1;omega) h2 h3;have W1:l.length=ri.n:=FV.1.symm;rw[Nat.zero_mul,List.drop_zero, ←W1,List.take_length,W1]at this;exact this
   | owN _ ri' ao h1 h2 h3=>
    rw[hρ]at h1;cases h1
    rcases FV.2 with h | ⟨h,_⟩
    ·rw[h.2];exact .slE _ _ _ (Nat.zero_le _)
    ·rw[h3]at h;cases h
  ·cases hf
 ·rename_i r t off len;split at hf
  ·rename_i t' l m hr;cases gZ:m.isLock
   case true=>simp[gZ]at hf
   simp only[gZ,cond_false]at hf;split at hf
   case isFalse=>cases hf
   rename_i e;subst e;simp only[XF,Option.some.injEq,Prod.mk.injEq]at hf;obtain⟨rfl,rfl⟩:=hf;refine⟨?_,eH _ _,rfl⟩;obtain⟨O7,V1⟩:=hh.mark [r];obtain⟨ri,hρ,FV,j0⟩:=hh.rows r _ hr;have o0:=FV.keep (λ_=>rfl) V1;cases hv with
   | ov _ _ _ _ cap ao ri' h1 S1 ha hl hc=>
    rw[hρ]at h1;cases h1;have hn:=FV.1
    rcases ha with⟨rfl,_⟩ | ⟨rfl,CV,_⟩
    ·rw[List.take_zero];exact .slE _ _ _ hc
    ·exact zcc o0 CV (xM hh hr hρ CV (by simp)) off len cap (by omega) hl hc
  ·cases hf
 ·cases hb:RD 8 d<;>simp[hb]at hf
  obtain⟨rfl,rfl⟩:=hf;exact⟨hv,bP 8 _ hb⟩
def NM(hh:EA w0 outer own ρ h w):∀{ds ds':List V} {ids:List Nat} {vs:Nat→Value} (_:∀j (hj:j<ds.length),VR w ρ (bA outer ρ h) (vs j) ds[j])
  (_:ZC h ds=some (ds',ids)),ds'.length=ds.length∧∀j (hj:j<ds'.length),VR w ρ (bA outer ρ (eB h ids)) (vs j) ds'[j]∧vB ds'[j]∧(ds'[j]).leaf=true
 | [],ds',ids,vs,_,hf=>by
  simp[ZC]at hf;obtain⟨rfl,rfl⟩:=hf;exact⟨rfl,λj hj=>by simp at hj⟩
 | d :: ds,ds',ids,vs,hv,hf=>by
  simp only[ZC]at hf;split at hf
  ·cases hf
  ·rename_i d' i h1;split at hf
   ·cases hf
   ·rename_i ds'' j h2;simp only[Option.some.injEq,Prod.mk.injEq]at hf;obtain⟨rfl,rfl⟩:=hf;have h3:=MO hh (hv 0 (by simp)) h1;have h4:=NM hh (vs:=λj=>vs (j+1)) (λj hj=>hv (j+1) (by simp;omega)) h2;refine⟨by simp[h4.1],λk hk=>?_⟩;cases k with
    | zero=>exact⟨sM (λr hr=>by simp[hr]) h3.1,h3.2⟩
    | succ k=>
     have:=h4.2 k (by simpa using hk);exact⟨sM (λr hr=>by simp[hr]) this.1,this.2⟩
omit [aA]in
def zao{cs:List V}(h:∀j (hj:j<cs.length),vB cs[j]):vB (.agg cs):=λS=> .agg _ λj hj=>h j hj S
def wT(hh:EA w0 outer own ρ h w){v:Value}{d d':V}{ids:List Nat}(hv:VR w ρ (bA outer ρ h) v d)(hf:cE h d=some (d',ids)):
  VR w ρ (bA outer ρ (eB h ids)) v d'∧vB d':=by
 unfold cE at hf;split at hf
 ·rename_i cs;split at hf
  ·rename_i cs' i h1;simp only[Option.some.injEq,Prod.mk.injEq]at hf;obtain⟨rfl,rfl⟩:=hf;cases hv with
   | agg _ vs hs hv=>
    have:=NM hh (vs:=λj=>vs.getD j undef) hv h1;exact⟨.agg _ _ (by rw[hs,this.1]) λj hj=>(this.2 j hj).1,zao λj hj=>(this.2 j hj).2.1⟩
  ·cases hf
 ·rename_i r off;split at hf
  ·rename_i cs m hr;cases hb:(m.isLock||cs.isEmpty)
   case true=>simp[hb]at hf
   simp only[hb,cond_false]at hf;split at hf
   ·rename_i cs' i h1;simp only[Option.some.injEq,Prod.mk.injEq]at hf;obtain⟨rfl,rfl⟩:=hf;obtain⟨ri,hρ,FV,j0⟩:=hh.rows r _ hr;cases hv with
    | bp _ _ ri' h2 hn=>
     rw[hρ]at h2;cases h2
     have wV:∀j,j<cs.length→w.cell? (iA ri.b (0+j))=some ((w.cell? (iA ri.b (0+j))).getD undef):=λj hj=>by
      obtain⟨_,u,h3,_⟩:=FV.2 j hj;rw[Nat.zero_add,h3];rfl
     have h4:=NM hh (vs:=λj=>(w.cell? (iA ri.b (0+j))).getD undef) (λj hj=>by
      obtain⟨_,u,h3,h5⟩:=FV.2 j hj;rw[Nat.zero_add,h3];exact h5) h1
     have Y1:0<cs.length:=by
      cases cs with
      | nil=>simp at hb
      | cons=>simp
     have:=VR.fp (w:=w) (ρ:=ρ) (bad:=bA outer ρ (eB h (r :: i))) cs' off ri.b 0 (λj=>(w.cell? (iA ri.b (0+j))).getD undef) (by omega)
      (xM hh hr hρ hn (by simp)) (λj hj=>wV j (by omega)) (λj hj=>sM (λq hq=>by simp[hq]) (h4.2 j hj).1)
     rw[Nat.zero_add]at this;exact⟨this,λS=> .fp _ _ λj hj=>(h4.2 j hj).2.1 S⟩
   ·cases hf
  ·cases hf
 ·have:=MO hh hv hf;exact⟨this.1,this.2.1⟩
def KR(hh:EA w0 outer own ρ h w):∀{ds ds':List V} {ids:List Nat} {vs:Nat→Value} (_:∀j (hj:j<ds.length),VR w ρ (bA outer ρ h) (vs j) ds[j])
  (_:aF h ds=some (ds',ids)),ds'.length=ds.length∧∀j (hj:j<ds'.length),VR w ρ (bA outer ρ (eB h ids)) (vs j) ds'[j]∧vB ds'[j]
 | [],ds',ids,vs,_,hf=>by
  simp[aF]at hf;obtain⟨rfl,rfl⟩:=hf;exact⟨rfl,λj hj=>by simp at hj⟩
 | d :: ds,ds',ids,vs,hv,hf=>by
  simp only[aF]at hf;split at hf
  ·cases hf
  ·rename_i d' i h1;split at hf
   ·cases hf
   ·rename_i ds'' j h2;simp only[Option.some.injEq,Prod.mk.injEq]at hf;obtain⟨rfl,rfl⟩:=hf;have h3:=wT hh (hv 0 (by simp)) h1;have h4:=KR hh (vs:=λj=>vs (j+1)) (λj hj=>hv (j+1) (by simp;omega)) h2;refine⟨by simp[h4.1],λk hk=>?_⟩;cases k with
    | zero=>exact⟨sM (λr hr=>by simp[hr]) h3.1,h3.2⟩
    | succ k=>
     have:=h4.2 k (by simpa using hk);exact⟨sM (λr hr=>by simp[hr]) this.1,this.2⟩
def VR.noRef{bad:Nat→Prop}{u:Value}{d:V}(hv:VR w ρ bad u d)(hd:vB d)(ρ':Nat→Option RI):VR w ρ' bad u d:=
 hv.keep (S:=λ_=>False) (hd _) (λ_ _ h=>h.elim) (λ_ _ _=>rfl) λ_ h=> .inl h
end
end Go.D
namespace Go.D
variable [aA]
def JL(u:Value)(d:V):Prop:=∀(w:World) (ρ:Nat→Option RI) (bad:Nat→Prop),VR w ρ bad u d
def GO{t:TN}(h:t.flat=true){x:El t}{j:Nat}{w:World}{ρ:Nat→Option RI}{bad:Nat→Prop}{u:Value}(hv:VR w ρ bad u ((enc t x).getD j .undef))(hj:j<sz t):JL u ((enc t x).getD j .undef):=by
 have uX:∀c∈enc t x,(∃k n,c= .int k n)∨(∃b,c= .bool b)∨∃s,c= .str s:=by
  cases t<;>simp[TN.flat]at h<;>intro c hc<;>simp[enc,mN,TK,kN,lN]at hc<;>(repeat' (rcases hc with rfl | hc))<;>(try subst hc)<;>first | exact .inl ⟨_,_,rfl⟩ | exact .inr (.inl ⟨_,rfl⟩) | exact .inr (.inr ⟨_,rfl⟩)
 have hm:(enc t x).getD j .undef∈enc t x:=by
  have hl:j<(enc t x).length:=by rw[WA];exact hj
  rw[List.getD_eq_getElem?_getD,List.getElem?_eq_getElem hl];exact List.getElem_mem hl
 have:=uX _ hm;generalize (enc t x).getD j .undef=d at hv this;intro w' ρ' bad'
 rcases this with⟨k,n,rfl⟩ | ⟨b,rfl⟩ | ⟨s,rfl⟩
 ·cases hv with | int _ _ h=>exact .int _ _ h
 ·cases hv;exact .bool _
 ·cases hv with | str _ h=>exact .str _ h
inductive vI where
 | triv
 | row (r:Nat)
 | cell (r o:Nat)
section
variable {C:Cx} {w0:World} {outer:Nat→Prop} {own:Ow} {ρ ρ':Nat→Option RI} {w w':World} {h h':Nat→Option gA}
def zb9(w:World)(ρ:Nat→Option RI)(h:Nat→Option gA)(B:Nat)(u:Value)(d:V):vI→Prop
 | .triv=>JL u d
 | .row r=>∃t,∃l:List (El t),∃m ri cap,h r=some ⟨.arr t l,m⟩∧AB true t m=true∧ρ r=some ri∧d= .sl t l∧(l=[]∧JL u d∨ri.nl=false∧ri.b≠B∧ri.cap=cap∧u= .slice (some (iA ri.b 0)) l.length cap)
 | .cell r o=>∃t,∃l:List (El t),∃ri k j,∃hk:k<l.length,h r=some ⟨.arr t l, .tre⟩∧ρ r=some ri∧ri.nl=false∧j<sz t∧o=k *sz t+j∧w.cell? (iA ri.b o)=some u∧(d=(enc t l[k]).getD j .undef∨JL u d)
open Classical in
theorem pB.lay(hh:EA w0 outer own ρ h w){i B:Nat}{ri':RI}{t:TN}{L:List (El t)}(og:Nat→vI)(bad':Nat→Prop)(hi:h' i=some ⟨.arr t L, .tre⟩)(hρ:ρ' i=some ri')(hB:ri'.b=B)
  (bW:∀ q t1 (l1:List (El t1)) m1 qi,q≠i→h' q=some ⟨.arr t1 l1,m1⟩→m1.isTre=true→ρ' q=some qi→qi.nl=false→
   (∃m2,h q=some ⟨.arr t1 l1,m2⟩∧m2.isTre=true)∧ρ q=some qi∧qi.b≠B∧(∀o,og o≠ .row q)∧∀o o',og o≠ .cell q o')
  (C5:EB w B→bA outer ρ h B) (mW:∀c,c≠B→c<w.heap.size→w'.heap[c]?=w.heap[c]?) (uV:∀c,EB w c→bad' c→bA outer ρ h c)
  (wY:∀o r ri,og o= .row r→ρ r=some ri→ri.nl=false→¬bad' ri.b)
  (IV:∀k (hk:k<L.length) j,j<sz t→∃u,w'.cell? (iA B (k *sz t+j))=some u∧zb9 w ρ h B u ((enc t L[k]).getD j .undef) (og (k *sz t+j)))
  (sV:∀o r,og o= .row r→∃row,h r=some row∧row.m.isRo=false)
  (wV:∀o r o',og o= .cell r o'→∃t1,∃l1:List (El t1),h r=some ⟨.arr t1 l1, .tre⟩) (D5:∀o o2 r o',og o= .row r→og o2≠ .cell r o')
  (inj1:∀o o2 r,og o= .row r→og o2= .row r→o=o2) (inj2:∀o o2 r o',og o= .cell r o'→og o2= .cell r o'→o=o2):
  pB w' bad' (XC w0 own) ρ' h':=by
 obtain⟨par,sW⟩:=hh.dep
 -- a block that a cell takes over,whole
 let At:Nat→Nat→Prop:=λc o=>∃r ri,og o= .row r∧ρ r=some ri∧ri.nl=false∧ri.b=c
 -- a place that has moved
 let Mv:Nat×Nat→Nat→Prop:=λq o=>∃r ri,og o= .cell r q.2∧ρ r=some ri∧ri.nl=false∧ri.b=q.1;have rowBlk:∀r row ri,h r=some row→ρ r=some ri→row.m.isRo=false→ri.nl=false→bA outer ρ h ri.b:=λr row ri h1 h2 h3 h4=> .inr ⟨r,row,ri,h1,h3,h2,h4,rfl⟩
 have atBad:∀c o,At c o→bA outer ρ h c:=by
  rintro c o ⟨r,ri,h1,h2,h3,rfl⟩;obtain⟨row,h4,h5⟩:=sV o r h1;exact rowBlk r row ri h4 h2 h5 h3
 have atUniq:∀c o o2,At c o→At c o2→o=o2:=by
  rintro c o o2 ⟨r,ri,h1,h2,h3,h4⟩ ⟨r2,ri2,g1,g2,g3,g4⟩;obtain⟨row,h5,_⟩:=sV o r h1;obtain⟨row2,g5,_⟩:=sV o2 r2 g1;have:=hh.inj r r2 row row2 ri ri2 h5 g5 h2 g2 h3 g3 (h4.trans g4.symm);subst this;exact inj1 o o2 r h1 g1
 have mvUniq:∀q o o2,Mv q o→Mv q o2→o=o2:=by
  rintro q o o2 ⟨r,ri,h1,h2,h3,h4⟩ ⟨r2,ri2,g1,g2,g3,g4⟩;obtain⟨_,_,h5⟩:=wV o r _ h1;obtain⟨_,_,g5⟩:=wV o2 r2 _ g1;have:=hh.inj r r2 _ _ ri ri2 h5 g5 h2 g2 h3 g3 (h4.trans g4.symm);subst this;exact inj2 o o2 r _ h1 g1
 let par':Nat→Option (Nat×Nat):=λc=>if c=B then none else if h1:∃o,At c o then some (B,Classical.choose h1)else match par c with
  | some q=>if h2:∃o,Mv q o then some (B,Classical.choose h2)else some q
  | none=>none
 have parAt:∀c o,c≠B→At c o→par' c=some (B,o):=λc o hc ha=>by
  have h1:∃o,At c o:=⟨o,ha⟩;simp only[par',if_neg hc,dif_pos h1];rw[atUniq c _ o (Classical.choose_spec h1) ha]
 have parMv:∀c q o,c≠B→¬bA outer ρ h c→par c=some q→Mv q o→par' c=some (B,o):=λc q o hc hb hp hm=>by
  have h1:¬∃o,At c o:=λ⟨o,ho⟩=>hb (atBad c o ho);have h2:∃o,Mv q o:=⟨o,hm⟩;simp only[par',if_neg hc,dif_neg h1,hp,dif_pos h2];rw[mvUniq q _ o (Classical.choose_spec h2) hm]
 have parKeep:∀c q,c≠B→¬bA outer ρ h c→par c=some q→(∀o,¬Mv q o)→par' c=some q:=λc q hc hb hp hm=>by
  have h1:¬∃o,At c o:=λ⟨o,ho⟩=>hb (atBad c o ho);have h2:¬∃o,Mv q o:=λ⟨o,ho⟩=>hm o ho;simp only[par',if_neg hc,dif_neg h1,hp,dif_neg h2]
 have neB:∀c,¬bA outer ρ h c→EB w c→c≠B:=λc hb hc e=>hb (by subst e;exact C5 hc)
 have lt:∀r row ri,h r=some row→ρ r=some ri→ri.nl=false→ri.b<w.heap.size:=λr row ri h1 h2 h3=>by
  obtain⟨ri1,k1,_,k2⟩:=hh.rows r row h1;rw[h2]at k1;cases k1;exact(k2 h3).2
 -- below a block that is no row's
 have deep:∀c q,par q.1≠none→¬bA outer ρ h c→EB w c→par c=some q→par' c=some q:=λc q hq hb hc hp=>by
  refine parKeep c q (neB c hb hc) hb hp ?_;rintro o ⟨r,ri,h1,h2,h3,h4⟩;obtain⟨t1,l1,h5⟩:=wV o r _ h1;exact hq (by rw[←h4];exact(sW r t1 l1 _ ri h5 rfl h2 h3).1)
 have hw:∀b,¬bA outer ρ h b→EB w b→XC w0 own b→w'.heap[b]?=w.heap[b]?:=λb hb hc _=>mW b (neB b hb hc) hc.lt;have fY:∀b,EB w b→XC w0 own b→bad' b→bA outer ρ h b:=λb hc _ hb=>uV b hc hb;refine⟨par',λq t1 l1 m1 qi h1 cX h2 h3=>?_⟩
 by_cases hq:q=i
 ·subst hq;rw[hi]at h1;cases h1;rw[hρ]at h2;cases h2;refine⟨by rw[hB];simp only[par',if_true],λk hk j hj=>?_⟩;obtain⟨u,c1,c2⟩:=IV k hk j hj;rw[hB];refine⟨u,c1,?_⟩;cases ho:og (k *sz t+j)with
  | triv=>rw[ho]at c2;exact .triv _ _ _ c2
  | row r=>
   rw[ho]at c2;obtain⟨t2,l2,m,ri,cap,e1,e2,e3,e4,e5⟩:=c2;rw[e4]
   rcases e5 with⟨_,e5⟩ | ⟨e5,e6,rfl,e7⟩
   ·rw[e4]at e5;exact .triv _ _ _ e5
   obtain⟨ri1,k1,k2,k3⟩:=hh.rows r _ e1;rw[e3]at k1;cases k1
   rcases k2.2 with h | ⟨_,pZ,tX,GZ,d3,d4⟩
   ·rw[e5]at h;cases h.1
   have tV:=k2.1;have vV:=(k3 e5).2;have hm:m.isRo=false:=by cases m<;>first | rfl | simp[AB]at e2
   have hs:=mW ri.b e6 vV;have JV:l2.length *sz t2≤ri.cap *sz t2:=Nat.mul_le_mul_right _ (by omega);rw[e7]
   refine .sl _ t2 l2 ri.b ri.cap (λi j=>(w'.cell? (iA ri.b (i *sz t2+j))).getD undef) (wY _ r ri ho e3 e5) (((k3 e5).1.2 hm).imp id (own.ok _)) (parAt _ _ e6 ⟨r,ri,ho,e3,e5,rfl⟩) (pZ.same hs) (by omega) GZ
    (λj hj=>?_) (λa ha b hb=>?_) λa ha b hb=>?_
   ·rw[show w'.frozen? (iA ri.b j)=w.frozen? (iA ri.b j) by simp[World.frozen?,iA,hs],gD hs];exact d3 j hj
   ·obtain⟨x,f1,_⟩:=d4 a ha b hb;rw[gD hs,f1];rfl
   ·obtain⟨x,f1,f9⟩:=d4 a ha b hb;rw[gD hs,f1,Option.getD_some];cases m with
    | ro=>cases hm
    | lock | tlk=>simp[AB]at e2
    | own=>exact .triv _ _ _ (GO (by simpa[AB]using e2) f9 hb)
    | tre=>
     obtain⟨x2,f2,f3⟩:=(sW r t2 l2 _ ri e1 rfl e3 e5).2 a ha b hb;rw[f1]at f2;cases f2;refine f3.gen hw fY (λ_ h=>h) (λc NV hc _ hp=>?_) λc p NV hc _ eY hp=>deep c p eY NV hc hp;refine parKeep c _ (neB c NV hc) NV hp ?_;rintro o2 ⟨r2,ri2,g1,g2,g3,g4⟩;obtain⟨_,_,g5⟩:=wV o2 r2 _ g1;have:=hh.inj r2 r _ _ ri2 ri g5 e1 g2 e3 g3 e5 g4;subst this;exact D5 _ _ _ _ ho g1
  | cell r o'=>
   rw[ho]at c2;obtain⟨t2,l2,ri,k',j',SV,e1,e2,e3,e4,e5,e6,e7⟩:=c2;obtain⟨u2,f1,f2⟩:=(sW r t2 l2 _ ri e1 rfl e2 e3).2 k' SV j' e4;rw[←e5,e6]at f1;cases f1
   rcases e7 with e7 | e7
   case inr=>exact .triv _ _ _ e7
   rw[e7];rw[←e5]at f2;exact f2.gen hw fY (λ_ h=>h) (λc NV hc _ hp=>parMv c _ _ (neB c NV hc) NV hp ⟨r,ri,ho,e2,e3,rfl⟩) λc p NV hc _ eY hp=>deep c p eY NV hc hp
 ·obtain⟨⟨m2,a1,am⟩,a2,a3,a4,a5⟩:=bW q t1 l1 m1 qi hq h1 cX h2 h3;have hd:=sW q t1 l1 m2 qi a1 am a2 h3;refine hd.genT rfl (mW qi.b a3 (lt q _ qi a1 a2 h3)) (λb _=>hw b) (λb _=>fY b) (λ_ _ h=>h) ?_ λc p hT NV hc _ hp=>?_
  ·have h1:¬∃o,At qi.b o:=by
    rintro⟨o,r,ri,g1,g2,g3,g4⟩;obtain⟨row,g5,_⟩:=sV o r g1;have:=hh.inj r q row _ ri qi g5 a1 g2 a2 g3 h3 g4;subst this;exact a4 o g1
   simp only[par',if_neg a3,dif_neg h1,hd.1]
  ·refine parKeep c p (neB c NV hc) NV hp ?_;rintro o ⟨r,ri,g1,g2,g3,g4⟩;obtain⟨t5,l5,g5⟩:=wV o r _ g1;cases hT with
   | one _ o2 h=>
    rw[hp]at h;cases h;have:=hh.inj r q _ _ ri qi g5 a1 g2 a2 g3 h3 g4;subst this;exact a5 o _ g1
   | step _ c2 o2 h A5=>
    rw[hp]at h;cases h;have hn:=(sW r t5 l5 _ ri g5 rfl g2 g3).1;rw[g4]at hn;cases A5 with
    | one _ _ h2=>rw[hn]at h2;cases h2
    | step _ _ _ h2 _=>rw[hn]at h2;cases h2
omit [aA]in
def PI:∀(vs:List V) (seen:List Nat),vD h seen vs=true→
  (∀(j:Nat) (v:V),vs[j]?=some v→(∃r t,∃l:List (El t),∃m,v= .ow r∧h r=some ⟨.arr t l,m⟩∧AB true t m=true∧r∉seen)∨(RD 8 v=true∧(∀r,v≠ .ow r)∧(v= .nil∨(∃k n,v= .int k n)∨(∃b,v= .bool b)∨∃s,v= .str s)))∧
  ∀(i j r:Nat),vs[i]?=some (V.ow r)→vs[j]?=some (V.ow r)→i=j
 | [],seen,_=>⟨λj v hv=>by simp at hv,λi j r hi=>by simp at hi⟩
 | v :: vs,seen,ht=>by
  unfold vD at ht;split at ht
  ·rename_i r;split at ht
   case h_2=>cases ht
   rename_i t l m hr;cases EV:AB true t m
   case false=>simp[EV]at ht
   simp only[EV,cond_true]at ht;cases hs:seen.any (Nat.beq r)
   case true=>simp[hs]at ht
   simp only[hs,cond_false]at ht
   have qZ:r∉seen:=λhm=>by
    rw[List.any_eq_false]at hs;exact hs r hm (Nat.beq_refl r)
   obtain⟨i1,i2⟩:=PI vs (r :: seen) ht
   have nW:∀j,vs[j]?≠some (V.ow r):=λj hj=>by
    rcases i1 j _ hj with⟨r',_,_,_,e,_,_,hn⟩ | ⟨_,h2,_⟩
    ·cases e;exact hn (by simp)
    ·exact h2 r rfl
   refine⟨λj u hu=>?_,λi j q hi hj=>?_⟩
   ·cases j with
    | zero=>simp at hu;subst hu;exact .inl ⟨r,t,l,m,rfl,hr,EV,qZ⟩
    | succ j=>
     rcases i1 j u (by simpa using hu)with⟨r',t',l',m',e1,e2,e3,e4⟩ | h
     ·exact .inl ⟨r',t',l',m',e1,e2,e3,λhm=>e4 (by simp[hm])⟩
     ·exact .inr h
   ·cases i with
    | zero=>
     simp at hi;subst hi;cases j with
     | zero=>rfl
     | succ j=>exact absurd (by simpa using hj) (nW j)
    | succ i=>
     cases j with
     | zero=>simp at hj;subst hj;exact absurd (by simpa using hi) (nW i)
     | succ j=>rw[i2 i j q (by simpa using hi) (by simpa using hj)]
  all_goals first
   | cases ht
   | (obtain ⟨i1,i2⟩:=PI vs seen ht
      refine⟨λj u hu=>?_,λi j q hi hj=>?_⟩
      ·cases j with
       | zero=>simp at hu;subst hu;exact .inr ⟨rfl,(λr h=>by cases h),by simp⟩
       | succ j=>exact i1 j u (by simpa using hu)
      ·cases i with
       | zero=>simp at hi
       | succ i=>
        cases j with
        | zero=>simp at hj
        | succ j=>rw[i2 i j q (by simpa using hi) (by simpa using hj)])
omit [aA]in
def JR:∀{ds ds':List V} {ids:List Nat},ZC h ds=some (ds',ids)→ds'.length=ds.length∧∀j (hj:j<ds.length) (YV:j<ds'.length),∃i,kC h ds[j]=some (ds'[j],i)∧∀r∈i,r∈ids
 | [],ds',ids,hf=>by
  simp[ZC]at hf;obtain⟨rfl,rfl⟩:=hf;exact⟨rfl,λj hj=>by simp at hj⟩
 | d :: ds,ds',ids,hf=>by
  simp only[ZC]at hf;split at hf
  ·cases hf
  rename_i d' i h1;split at hf
  ·cases hf
  rename_i ds'' j h2;simp only[Option.some.injEq,Prod.mk.injEq]at hf;obtain⟨rfl,rfl⟩:=hf;obtain⟨k1,k2⟩:=JR h2;refine⟨by simp[k1],λq hq MW=>?_⟩;cases q with
  | zero=>exact⟨i,h1,λr hr=>by simp[hr]⟩
  | succ q=>
   obtain⟨i',e1,e2⟩:=k2 q (by simpa using hq) (by simpa using MW);exact⟨i',e1,λr hr=>by simp[e2 r hr]⟩
omit [aA]in
def NU:∀{ds ds':List V} {ids:List Nat},aF h ds=some (ds',ids)→ds'.length=ds.length∧∀j (hj:j<ds.length) (YV:j<ds'.length),∃i,cE h ds[j]=some (ds'[j],i)∧∀r∈i,r∈ids
 | [],ds',ids,hf=>by
  simp[aF]at hf;obtain⟨rfl,rfl⟩:=hf;exact⟨rfl,λj hj=>by simp at hj⟩
 | d :: ds,ds',ids,hf=>by
  simp only[aF]at hf;split at hf
  ·cases hf
  rename_i d' i h1;split at hf
  ·cases hf
  rename_i ds'' j h2;simp only[Option.some.injEq,Prod.mk.injEq]at hf;obtain⟨rfl,rfl⟩:=hf;obtain⟨k1,k2⟩:=NU h2;refine⟨by simp[k1],λq hq MW=>?_⟩;cases q with
  | zero=>exact⟨i,h1,λr hr=>by simp[hr]⟩
  | succ q=>
   obtain⟨i',e1,e2⟩:=k2 q (by simpa using hq) (by simpa using MW);exact⟨i',e1,λr hr=>by simp[e2 r hr]⟩
omit [aA]in
def cS{v v':V}{ids:List Nat}(hf:cE h v=some (v',ids))(hv:∀r off,v≠ .bp r off):(cellsOf v').length=(cellsOf v).length∧
  ∀j (hj:j<(cellsOf v).length) (YV:j<(cellsOf v').length),∃i,kC h (cellsOf v)[j]=some ((cellsOf v')[j],i)∧∀r∈i,r∈ids:=by
 unfold cE at hf;split at hf
 ·rename_i cs;split at hf
  ·rename_i cs' i h1;simp only[Option.some.injEq,Prod.mk.injEq]at hf;obtain⟨rfl,rfl⟩:=hf;exact JR h1
  ·cases hf
 ·exact absurd rfl (hv _ _)
 ·rename_i h1 h2;have e1:cellsOf v=[v]:=by cases v<;>first | rfl | exact absurd rfl (h1 _)
  have e2:cellsOf v'=[v']:=by
   unfold kC at hf;split at hf
   ·split at hf
    ·rename_i m _;cases hm:m.isLock<;>simp[hm]at hf
     obtain⟨rfl,_⟩:=hf;rfl
    ·cases hf
   ·split at hf
    ·rename_i m _;cases hm:m.isLock
     ·simp only[hm,cond_false]at hf;split at hf
      ·simp at hf;obtain⟨rfl,_⟩:=hf;rfl
      ·cases hf
     ·simp[hm]at hf
    ·cases hf
   ·cases hb:RD 8 v<;>simp[hb]at hf
    obtain⟨rfl,_⟩:=hf;exact e1
  simp only[e1,e2];refine⟨rfl,λj hj YV=>?_⟩;have:j=0:=by simpa using hj
  subst this;exact⟨ids,hf,λr hr=>hr⟩
def mI:V→vI
 | .ow r=> .row r
 | _=> .triv
def zbL{v d e:V}{i:List Nat}{u:Value}{B:Nat}(hh:EA w0 outer own ρ h w)(hv:VR w ρ (bA outer ρ h) u v)(hf:kC h v=some (d,i))(hs:dE d e)
  (ht:(∃r t,∃l:List (El t),∃m,v= .ow r∧h r=some ⟨.arr t l,m⟩∧AB true t m=true)∨(RD 8 v=true∧(∀r,v≠ .ow r)∧(v= .nil∨(∃k n,v= .int k n)∨(∃b,v= .bool b)∨∃s,v= .str s))) (hB:∀r row ri,h r=some row→ρ r=some ri→ri.nl=false→r∈i→ri.b≠B):
  zb9 w ρ h B u e (mI v):=by
 rcases ht with⟨r,t,l,m,rfl,hr,hm⟩ | ⟨h1,h2,h3⟩
 ·simp only[kC,hr]at hf;cases hl:m.isLock<;>simp[hl]at hf
  obtain⟨rfl,rfl⟩:=hf;cases hs;obtain⟨ri,hρ,FV,_⟩:=hh.rows r _ hr;refine⟨t,l,m,ri,ri.cap,hr,hm,hρ,rfl,?_⟩;have hn:=FV.1;cases hv with
  | ow _ ri' k1 k2 k3 k4=>
   rw[hρ]at k1;cases k1;exact .inr ⟨k4,hB r _ ri hr hρ k4 (by simp),rfl,by rw[←hn]⟩
  | owN _ ri' ao k1 k2 k3=>
   rw[hρ]at k1;cases k1;have SW:l=[]:=List.eq_nil_of_length_eq_zero (by omega);subst SW;exact .inl ⟨rfl,λ_ _ _=> .slE _ _ _ (Nat.zero_le _)⟩
 ·have e1:kC h v=some (v,[]):=by
   unfold kC;split
   ·exact absurd rfl (h2 _)
   ·simp[RD]at h1
   ·simp[h1]
  rw[e1]at hf;simp only[Option.some.injEq,Prod.mk.injEq]at hf;obtain⟨rfl,rfl⟩:=hf
  have:mI v= .triv:=by
   unfold mI;split
   ·exact absurd rfl (h2 _)
   ·rfl
  rw[this]
  have hp:JL u v:=λw' ρ' bad'=>by
   rcases h3 with rfl | ⟨k,n,rfl⟩ | ⟨b,rfl⟩ | ⟨s,rfl⟩
   ·cases hv;exact .nil
   ·cases hv with | int _ _ h=>exact .int _ _ h
   ·cases hv;exact .bool _
   ·cases hv with | str _ h=>exact .str _ h
  exact λw' ρ' bad'=>VR.sub hs (hp w' ρ' bad')
end
end Go.D
namespace Go.D
variable [aA]
section
variable {C:Cx} {w0:World} {outer:Nat→Prop} {own:Ow} {ρ:Nat→Option RI} {st st':St} {a:Act} {w:World} {h:Nat→Option gA}
def CL{bad:Nat→Prop}(v:Value):VR w ρ bad v (xH v):=by
 unfold xH;split
 ·exact .bool _
 ·rename_i k n;cases hb:(decide (k.min≤n)&&decide (n≤k.max))
  ·exact .undef _
  ·simp at hb;exact .int _ _ hb
 ·rename_i s;cases hb:Nat.ble s.data.toList.length 1000000
  ·exact .undef _
  ·have:=Nat.le_of_ble_eq_true hb;have h2:(⟨s.data.toList.toArray⟩:ByteArray)=s:=by cases s;simp
   have h3:=VR.str (w:=w) (ρ:=ρ) (bad:=bad) s.data.toList (by unfold maxLen;omega);rw[h2]at h3;exact h3
 ·exact .nil
 ·exact .nili
 ·exact .undef _
def AA.opd(hr:AA C w0 outer own ρ st a w)(x:Operand):VR w ρ (bA outer ρ st.h) (a.eval x) (opd st.s x):=by
 cases x with
 | tmp t=>exact hr.slots t
 | const v=>exact CL v
 | global g=>exact .undef _
 | func f=>exact .fn f [] #[] rfl λj hj=>by simp at hj
def yB(P:Program)(o:Oper)(a:Act)(w:World)(post:Act→World→Prop):Prop:=
 ∀next Q,(∀a' w',post a' w'→next a' w')→o.wp P a w next Q
omit [aA]in
def bB{P:Program}{o:Oper}{v:Value}{w':World}{post:Act→World→Prop}(qV:(execOp a.eval o).run P w= .ok (.value v) w')
  (hp:post (a.put o.dst v) w'):yB P o a w post:=λnext Q hn=>by
 unfold Oper.wp;rw[qV,Oper.upon_value];exact hn _ _ hp
omit [aA]in
def zal{P:Program}{o:Oper}{w':World}{post:Act→World→Prop}(qV:(execOp a.eval o).run P w= .ok .skip w')
  (hp:post (a.put o.dst undef) w'):yB P o a w post:=λnext Q hn=>by
 unfold Oper.wp;rw[qV,Oper.upon_skip];exact hn _ _ hp
def Ext(i:Nat)(ρ ρ':Nat→Option RI):Prop:=∀r,¬(i≤r∧r<i+128)→ρ' r=ρ r
def tB(C:Cx)(w0:World)(outer:Nat→Prop)(own:Ow)(i:Nat)(ρ:Nat→Option RI)(st':St)(a':Act)(w':World):Prop:=
 ∃ρ',AA C w0 outer own ρ' st' a' w'∧Ext i ρ ρ'∧∀r ri,ρ r=some ri→ρ' r=some ri
def AA.after(hr:AA C w0 outer own ρ st a w){i:Nat}{dst:Option Nat}{v:Value}{d:V}(hv:VR w ρ (bA outer ρ st.h) v d)
  (hk:DA C dst st d some=some st'):tB C w0 outer own i ρ st' (a.put dst v) w:=
 ⟨ρ,(hr.put hv hk).1,λ_ _=>rfl,λ_ _ h=>h⟩
def AA.turn(hr:AA C w0 outer own ρ st a w){ρ':Nat→Option RI}{h':Nat→Option gA}{w':World}(hh:EA w0 outer own ρ' h' w')
  (hv:∀u d,VR w ρ (bA outer ρ st.h) u d→VR w' ρ' (bA outer ρ' h') u d):AA C w0 outer own ρ' {st with h:=h'} a w':=
 ⟨hh,λi=>hv _ _ (hr.slots i),hr.size,hr.defers,hr.glob⟩
omit [aA]in
def vL(w:World)(o:Obj):Wx w (w.alloc o):=⟨rfl,rfl,rfl,by simp⟩
omit [aA]in
def zbP(w:World):Wx w w.drew:=⟨rfl,rfl,rfl,Nat.le_refl _⟩
omit [aA]in
def VG(w:World)(o:Obj)(b:Nat)(hb:b<w.heap.size):(w.alloc o).heap[b]?=w.heap[b]?:=by
 show(w.heap.push o)[b]?=_
 rw[Array.getElem?_push,if_neg (by omega)]
def AA.newRow(hr:AA C w0 outer own ρ st a w){i:Nat}(hi:ρ i=none)(ri:RI)(hb:ri.nl=false→ri.b=w.heap.size)(w':World)(lW:Wx w w')
  (hw:∀b,b<w.heap.size→w'.heap[b]?=w.heap[b]?) (xV:ri.nl=false→w.heap.size<w'.heap.size) {c:dD} {dst:Option Nat} {v:Value} {d:V}
  (hc:∀bad,(∀u d,VR w ρ (bA outer ρ st.h) u d→VR w' (cA ρ i (some ri)) bad u d)→uC w' (cA ρ i (some ri)) bad ri c)
  (hv:∀bad,VR w' (cA ρ i (some ri)) bad v d) (hk:yD C dst st i c d some=some st'):tB C w0 outer own i ρ st' (a.put dst v) w':=by
 obtain⟨h1,h2⟩:=hr.heap.alloc i hi ri hb w' lW hw xV c (hc _);refine⟨_,((hr.turn h1 h2).put (hv _) hk).1,λr hn=>kA _ _ _ _ ?_,λr qi hq=>?_⟩
 ·rintro rfl;exact hn ⟨Nat.le_refl _,by omega⟩
 ·rw[kA];exact hq;rintro rfl;simp[hi]at hq
def AA.newRowM(hr:AA C w0 outer own ρ st a w){i:Nat}(hi:ρ i=none)(ri:RI)(hb:ri.nl=false→ri.b=w.heap.size)(w':World)(lW:Wx w w')
  (hw:∀b,b<w.heap.size→w'.heap[b]?=w.heap[b]?) (xV:ri.nl=false→w.heap.size<w'.heap.size) {c:dD} {dst:Option Nat} {v:Value} {d:V} (m:cB)
  (hc:∀bad,(∀u d,VR w ρ (bA outer ρ st.h) u d→VR w' (cA ρ i (some ri)) bad u d)→uC w' (cA ρ i (some ri)) bad ri c)
  (hv:∀bad,VR w' (cA ρ i (some ri)) bad v d)
  (hm:m= .own∨m= .tre∧((∀ b,bA outer (cA ρ i (some ri)) (cA st.h i (some ⟨c, .tre⟩)) b→bA outer ρ st.h b∨w.heap.size≤b)→
   pB w' (bA outer (cA ρ i (some ri)) (cA st.h i (some ⟨c, .tre⟩))) (XC w0 own) (cA ρ i (some ri)) (cA st.h i (some ⟨c, .tre⟩))))
  (hk:yD C dst st i c d some m=some st'):tB C w0 outer own i ρ st' (a.put dst v) w':=by
 rcases hm with rfl | ⟨rfl,hm⟩
 ·exact hr.newRow hi ri hb w' lW hw xV hc hv hk
 obtain⟨h1,h2⟩:=hr.heap.alloc i hi ri hb w' lW hw xV c (hc _)
 have h3:=h1.turn (m':= .tre) (tA _ _ _) rfl λuV=>by
  rw[GG]at uV⊢;refine hm λb NV=>?_
  rcases uV b NV with h | ⟨q,row,qi,e1,e2,e3,e4,e5⟩
  ·exact .inl (.inl h)
  ·by_cases hq:q=i
   ·subst hq;rw[tA]at e3;cases e3;right;rw[←e5,hb e4];exact Nat.le_refl _
   ·rw[kA _ _ _ _ hq]at e1 e3;exact .inl (.inr ⟨q,row,qi,e1,e2,e3,e4,e5⟩)
 rw[GG]at h3;refine⟨_,((hr.turn h3.1 λu d hu=>h3.2 _ _ (h2 _ _ hu)).put (hv _) hk).1,λr hn=>kA _ _ _ _ ?_,λr qi hq=>?_⟩
 ·rintro rfl;exact hn ⟨Nat.le_refl _,by omega⟩
 ·rw[kA];exact hq;rintro rfl;simp[hi]at hq
def cN{bad:Nat→Prop}{v:Value}{d:V}(hv:VR w ρ bad v d)(hl:xE (cellsOf d)=true):
  v.cells.size=(cellsOf d).length∧(∀j (hj:j<(cellsOf d).length),VR w ρ bad (v.cells.getD j undef) (cellsOf d)[j])∧∀u∈v.cells.toList,u.oneCell'=true:=by
 by_cases ha:∃cs,d= .agg cs
 ·obtain⟨cs,rfl⟩:=ha;cases hv with
  | agg _ vs hs hv=>
   refine⟨hs,hv,λu hu=>?_⟩;obtain⟨j,hj,rfl⟩:=List.mem_iff_getElem.1 hu;have YV:j<vs.size:=by simpa[Value.cells]using hj
   have h1:=hv j (by omega);simp only[cellsOf]at hl;have h2:=List.all_eq_true.1 hl cs[j] (List.getElem_mem (by omega));have h3:=h1.one h2;rw[Array.getD_eq_getD_getElem?,Array.getElem?_eq_getElem YV]at h3;simpa[Value.cells]using h3
 ·have hc:cellsOf d=[d]:=by cases d<;>first | rfl | exact absurd ⟨_,rfl⟩ ha
  rw[hc]at hl⊢;have hd:d.leaf=true:=by simpa[xE]using hl
  have h1:=hv.one hd;have E5:v.cells= #[v]:=by cases v<;>first | rfl | (simp[Value.oneCell']at h1)
  rw[E5];refine⟨rfl,λj hj=>?_,λu hu=>?_⟩
  ·simp at hj;subst hj;exact hv
  ·simp at hu;subst hu;exact h1
omit [aA]in
def zG(w:World)(c:Array Value)(e:TypeId)(j:Nat)(hj:j<c.size):(w.alloc (.cells c e)).cell? (iA w.heap.size j)=some (c.getD j undef):=by
 rw[iA,World.cell?_alloc_new,Array.getD_eq_getD_getElem?,Array.getElem?_eq_getElem hj];rfl
def ziv{bad bad':Nat→Prop}{ρ':Nat→Option RI}{c:Array Value}{e:TypeId}{cs:List V}{ri:RI}(hn:ri.nl=false)(hb:ri.b=w.heap.size)(hs:c.size=cs.length)
  (hv:∀j (hj:j<cs.length),VR w ρ bad (c.getD j undef) cs[j]) (hk:∀u d,VR w ρ bad u d→VR (w.alloc (.cells c e)) ρ' bad' u d):
  uC (w.alloc (.cells c e)) ρ' bad' ri (.box cs):=by
 refine⟨hn,λj hj=>?_⟩;rw[hb];exact⟨World.frozen?_alloc_new _ _ _ _,_,zG w c e j (by omega),hk _ _ (hv j hj)⟩
def zca(hr:AA C w0 outer own ρ st a w){i:Nat}(hi:ρ i=none){v:Value}{e:TypeId}{cs:List V}(hs:v.cells.size=cs.length)
  (hv:∀j (hj:j<cs.length),VR w ρ (bA outer ρ st.h) (v.cells.getD j undef) cs[j]) {dst:Option Nat} (hk:yD C dst st i (.box cs) (.bp i 0) some=some st'):
  tB C w0 outer own i ρ st' (a.put dst (.pointer (some ⟨w.heap.size,0,none⟩))) (w.alloc (.cells v.cells e)):=
 hr.newRow hi ⟨w.heap.size,0,0,false⟩ (λ_=>rfl) _ (vL _ _) (λb hb=>VG _ _ _ hb) (λ_=>by simp)
  (λbad SV=>ziv rfl rfl hs hv SV) (λbad=> .bp i 0 ⟨w.heap.size,0,0,false⟩ (tA _ _ _) rfl) hk
variable {o:Oper} {i:Nat} (hr:AA C w0 outer own ρ st a w)
include hr
def zbw(x:Operand)(ho:o.op= .move x∨o.op= .assign x)(hk:DA C o.dst st (opd st.s x) some=some st'):
  yB C.P o a w (tB C w0 outer own i ρ st'):=
 bB (v:=a.eval x) (w':=w) (by rcases ho with ho | ho<;>simp[execOp,ho]) (hr.after (hr.opd x) hk)
def zhI(c x y:Operand)(ho:o.op= .pick c x y)(t p q:Bool)(hc:opd st.s c= .bool t)(hx:opd st.s x= .bool p)(hy:opd st.s y= .bool q)
  (hk:DA C o.dst st (.bool (cond t p q)) some=some st'):yB C.P o a w (tB C w0 outer own i ρ st'):=by
 have h1:=hr.opd c;rw[hc]at h1;have h2:=hr.opd x;rw[hx]at h2;have h3:=hr.opd y;rw[hy]at h3;generalize F5:a.eval c=vc at h1;generalize rZ:a.eval x=vx at h2;generalize F9:a.eval y=vy at h3;cases h1;cases h2;cases h3;refine bB (v:= .bool (cond t p q)) (w':=w) ?_ (hr.after (.bool _) hk);simp[execOp,ho,F5,rZ,F9,asBool]
def zhm(e:TypeId)(ho:o.op= .alloc e)(hi:ρ i=none)(cs:List V)(hz:PS C.P e=some cs)(hk:yD C o.dst st i (.box cs) (.bp i 0) some=some st'):
  yB C.P o a w (tB C w0 outer own i ρ st'):=by
 unfold PS at hz;cases kX:(C.P.info? e).bind (·.zero)with
 | none=>rw[kX]at hz;cases hz
 | some z=>
  rw[kX]at hz;simp only[Option.map_some,Option.some.injEq]at hz;subst hz;obtain⟨info,NW,hi2⟩:=Option.bind_eq_some_iff.1 kX;refine bB (w':=w.alloc (.cells z.cells e)) ?_ (zca hr hi (v:=z) (e:=e) (by simp) (λj hj=>?_) hk)
  ·simp[execOp,ho,Instr.alloc,zeroValue,typeInfo,NW,hi2,newVar,newRow]
  ·rw[List.getElem_map];have YV:j<z.cells.size:=by simpa using hj
   rw[Array.getD_eq_getD_getElem?,Array.getElem?_eq_getElem YV];exact CL _
def ziC(e:TypeId)(x:Operand)(ho:o.op= .box e x)(hi:ρ i=none)(hl:xE (cellsOf (opd st.s x))=true)
  (hk:yD C o.dst st i (.box (cellsOf (opd st.s x))) (.bp i 0) some=some st'):yB C.P o a w (tB C w0 outer own i ρ st'):=by
 obtain⟨h1,h2,h3⟩:=cN (hr.opd x) hl;refine bB (w':=w.alloc (.cells (a.eval x).cells e)) ?_ (zca hr hi (v:=a.eval x) (e:=e) h1 h2 hk);simp[execOp,ho,Instr.box,newVar,newRow]
omit hr
def qN(w:World)(ρ:Nat→Option RI)(bad:Nat→Prop)(b o:Nat)(cs:List V):Prop:=
 ∀j (hj:j<cs.length),∃u,w.cell? (iA b (o+j))=some u∧VR w ρ bad u cs[j]
omit [aA]in
def uD(b o n:Nat):(iA b o).add n=iA b (o+n):=Addr.add_lit b o n
omit [aA]in
def BD{P:Program}{t:TypeId}{d:TypeDesc}(h:P.underlying t=some d):(underlying t).run P w= .ok d w:=by
 simp[underlying,h]
omit [aA]in
def JH{P:Program}{t:TypeId}{ag:Bool}(h:MC P t=some ag):(isAgg t).run P w= .ok ag w:=by
 unfold MC at h;unfold isAgg;split at h
 ·rename_i hu;cases h;simp[underlying,hu]
 ·rename_i hu;cases h;simp[underlying,hu]
 ·rename_i d h1 h2 hu;cases h;rw[Sem.run_bind,BD hu,Result.andThen_ok];cases d<;>first | rfl | (exfalso;exact h1 _ rfl) | (exfalso;exact h2 _ _ rfl)
 ·cases h
omit [aA]in
def YF{P:Program}{t:TypeId}{n:Nat}(h:BC P t=some n):(sizeOf t).run P w= .ok n w:=by
 unfold BC at h;obtain⟨i,h1,h2⟩:=Option.map_eq_some_iff.1 h;simp[sizeOf,typeInfo,h1,h2]
def YS{P:Program}{bad:Nat→Prop}{t:TypeId}{ag:Bool}{n b o off:Nat}{cs:List V}{R:Type}{K:V→Option R}{r:R}(h1:MC P t=some ag)(h2:BC P t=some n)
  (hc:qN w ρ bad b o cs) (hk:uE ag n cs off K=some r):
  ∃d v,K d=some r∧VR w ρ bad v d∧(loadVar t (iA b (o+off))).run P w= .ok v w:=by
 unfold uE at hk;cases ag with
 | true=>
  simp only[iB]at hk;cases hb:Nat.ble (off+n) cs.length
  case false=>simp[hb]at hk
  simp only[hb,iB]at hk;have JV:=Nat.le_of_ble_eq_true hb
  have wV:∀j,j<n→w.cell? ((iA b (o+off)).add j)=some ((w.cell? (iA b (o+off+j))).getD undef):=λj hj=>by
   obtain⟨u,h3,_⟩:=hc (off+j) (by omega);rw[uD,show o+off+j=o+(off+j) by omega,h3];rfl
  refine⟨_, .agg ((List.range n).map λj=>(w.cell? (iA b (o+off+j))).getD undef).toArray,hk,?_,?_⟩
  ·refine .agg _ _ (by simp;omega) λj hj=>?_;have EY:j<n:=by simp at hj;omega
   obtain⟨u,h3,h4⟩:=hc (off+j) (by omega);have he:((cs.drop off).take n)[j]=cs[off+j]'(by omega):=by simp
   rw[he]
   have hg:(((List.range n).map λj=>(w.cell? (iA b (o+off+j))).getD undef).toArray.getD j undef)=u:=by
    simp[EY,show o+off+j=o+(off+j) by omega,h3]
   rw[hg];exact h4
  ·simp only[loadVar,Sem.run_bind,JH h1,Result.andThen_ok,Sem.run_ite,if_true,YF h2,run_loadCells w _ n _ wV,Sem.run_pure]
 | false=>
  simp only[aG]at hk;split at hk
  ·rename_i c r' hd
   have vV:off<cs.length:=by
    rcases Nat.lt_or_ge off cs.length with h | h
    ·exact h
    ·rw[List.drop_eq_nil_of_le h]at hd;cases hd
   have pZ:cs[off]=c:=by
    rw[List.drop_eq_getElem_cons vV]at hd;exact(List.cons.inj hd).1
   obtain⟨u,h3,h4⟩:=hc off vV;refine⟨c,u,hk,by rw[←pZ];exact h4,?_⟩;simp only[loadVar,Sem.run_bind,JH h1,Result.andThen_ok,Sem.run_ite,Bool.false_eq_true,if_false,run_load,h3]
  ·cases hk
omit [aA]in
def yU(w:World)(x:Addr)(u:Value)(b:Nat)(h:b≠x.block):(w.setCell x u).heap[b]?=w.heap[b]?:=by
 simp only[World.setCell,Array.getElem?_modify];rw[if_neg (by omega)]
omit [aA]in
def GJ:∀(vs:List Value) (o:Nat) (w:World) (b b':Nat),b'≠b→(w.setCells b o vs).heap[b']?=w.heap[b']?
 | [],_,_,_,_,_=>rfl
 | v :: vs,o,w,b,b',h=>by
  rw[World.setCells,GJ vs _ _ b b' h,yU _ _ _ _ (by simpa using h)]
def zea{w:World}{x:Addr}{u:Value}{b:Nat}{t:TN}(h:ID w b t):ID (w.setCell x u) b t:=by
 obtain⟨c,e,z,h1,h2⟩:=h
 by_cases hb:x.block=b
 ·refine⟨if x.spot.isSome then c else c.setIfInBounds x.off u,e,z,?_,h2⟩;simp only[World.setCell,Array.getElem?_modify,hb,if_true,h1,Option.map_some]
 ·exact⟨c,e,z,(yU w x u b (Ne.symm hb)).trans h1,h2⟩
def uR:∀(vs:List Value) (o:Nat) {w:World} {b b':Nat} {t:TN},ID w b' t→ID (w.setCells b o vs) b' t
 | [],_,_,_,_,_,h=>h
 | v :: vs,o,w,b,b',t,h=>by
  rw[World.setCells];exact uR vs _ (zea h)
omit [aA]in
def aO:∀(vs:List Value) (o:Nat) (w:World) (b:Nat),(w.setCells b o vs).heap.size=w.heap.size
 | [],_,_,_=>rfl
 | v :: vs,o,w,b=>by rw[World.setCells,aO vs];simp
omit [aA]in
def tO:∀(vs:List Value) (o:Nat) (w:World) (b:Nat),Wx w (w.setCells b o vs)
 | [],_,_,_=>Wx.refl _
 | v :: vs,o,w,b=>by
  rw[World.setCells];exact Wx.trans (b:=w.setCell ⟨b,o,none⟩ v) ⟨rfl,rfl,rfl,by simp⟩ (tO vs _ _ _)
omit [aA]in
def MK(cs:List V)(off:Nat)(vs:List V)(JV:off+vs.length≤cs.length):(MB cs off vs).length=cs.length∧
  ∀j (hj:j<cs.length) (YV:j<(MB cs off vs).length),(MB cs off vs)[j]=if h:off≤j∧j<off+vs.length then vs[j - off]'(by omega)else cs[j]:=by
 have tV:(MB cs off vs).length=cs.length:=by simp[MB];omega
 refine⟨tV,λj hj YV=>?_⟩;simp only[MB,List.append_assoc]
 by_cases h1:j<off
 ·rw[List.getElem_append_left (by simp;omega),dif_neg (by omega)];simp
 ·rw[List.getElem_append_right (by simp;omega)]
  by_cases h2:j<off+vs.length
  ·rw[List.getElem_append_left (by simp;omega),dif_pos ⟨by omega,h2⟩];congr 1;simp;omega
  ·rw[List.getElem_append_right (by simp;omega),dif_neg (by omega)];simp;congr 1;omega
omit [aA]in
def zaA{P:Program}{t:TypeId}{n b o:Nat}{v:Value}(h2:BC P t=some n)(hs:v.cells.size=n)(h1:∀u∈v.cells.toList,u.oneCell'=true)
  (hc:∀j,j<n→(w.cell? (iA b (o+j))).isSome=true) (hf:∀j,j<n→w.frozen? (iA b (o+j))=false):
  (storeVar t (iA b o) v).run P w= .ok () (w.setCells b o v.cells.toList):=by
 have hZ:=run_storeCells_cells (P:=P) b o v.cells.toList 0 w (λj hj=>by rw[Nat.add_zero];exact hc j (by simpa[hs]using hj)) (λj hj=>by rw[Nat.add_zero];exact hf j (by simpa[hs]using hj)) h1;simp only[Nat.add_zero]at hZ;simp[storeVar,YF h2,hs];exact hZ
end
end Go.D
namespace Go.D
variable [aA]
section
variable {C:Cx} {w0:World} {outer:Nat→Prop} {own:Ow} {ρ ρ':Nat→Option RI} {w w':World} {h h':Nat→Option gA}
omit [aA]in
def ZA.get{cs ds:List V}(h:ZA cs ds):∀(j:Nat) (hj:j<cs.length) (YV:j<ds.length),dE cs[j] ds[j]:=by
 induction h with
 | nil=>intro j hj;simp at hj
 | cons h1 h2 ih=>
  intro j hj YV;cases j with
  | zero=>exact h1
  | succ j=>exact ih j (by simpa using hj) (by simpa using YV)
omit [aA]in
def ZA.len{cs ds:List V}(h:ZA cs ds):cs.length=ds.length:=by
 induction h with
 | nil=>rfl
 | cons _ _ ih=>simp[ih]
omit [aA]in
def CU{α β:Type}(f:α→List β)(n:Nat):∀(l:List α),(∀k (hk:k<l.length),(f l[k]).length=n)→∀k (hk:k<l.length) j,j<n→(l.flatMap f)[k *n+j]?=(f l[k])[j]?
 | [],_,k,hk,_,_=>by simp at hk
 | a :: l,hl,k,hk,j,hj=>by
  have h0:(f a).length=n:=hl 0 (by simp);rw[List.flatMap_cons];cases k with
  | zero=>
   rw[Nat.zero_mul,Nat.zero_add,List.getElem?_append_left (by omega)];rfl
  | succ k=>
   have GW:(f a).length≤(k+1) *n+j:=by rw[h0,Nat.add_mul,Nat.one_mul];omega
   rw[List.getElem?_append_right GW,h0,show(k+1) *n+j - n=k *n+j by rw[Nat.add_mul,Nat.one_mul];omega];exact CU f n l (λk hk=>hl (k+1) (by simp;omega)) k (by simpa using hk) j hj
def uH(F:List V)(o:Nat):vI:=match F[o]? with
 | some v=>mI v
 | none=> .triv
omit [aA]in
def LI{F:List V}{o r:Nat}(h:uH F o= .row r):F[o]?=some (.ow r):=by
 unfold uH at h;split at h
 ·rename_i v hv;rw[hv];unfold mI at h;split at h
  ·cases h;rfl
  ·cases h
 ·cases h
omit [aA]in
def RM{F:List V}{o r o':Nat}(h:uH F o= .cell r o'):False:=by
 unfold uH at h;split at h
 ·unfold mI at h;split at h<;>cases h
 ·cases h
def pB.build(hh:EA w0 outer own ρ h w){i:Nat}{tn:TN}{l:List (El tn)}{vs vs':List V}{ids:List Nat}{f:Nat→Value}{cap:Nat}
  (hv:∀k (hk:k<vs.length) j (hj:j<(cellsOf vs[k]).length),VR w ρ (bA outer ρ h) (f (k *sz tn+j)) (cellsOf vs[k])[j])
  (lX:aF h vs=some (vs',ids)) (hl:l.length=vs.length) (hs:∀k (hk:k<vs'.length) (SV:k<l.length),ZA (cellsOf vs'[k]) (enc tn l[k])) (ht:vD h [] (vs.flatMap cellsOf)=true)
  (mW:∀b,b<w.heap.size→w'.heap[b]?=w.heap[b]?) (wV:∀o,o<l.length *sz tn→w'.cell? (iA w.heap.size o)=some (f o)) {n:Nat}
  (uV:∀b,bA outer (cA ρ i (some ⟨w.heap.size,n,cap,false⟩)) (cA (eB h ids) i (some ⟨.arr tn l, .tre⟩)) b→bA outer ρ (eB h ids) b∨w.heap.size≤b):
  pB w' (bA outer (cA ρ i (some ⟨w.heap.size,n,cap,false⟩)) (cA (eB h ids) i (some ⟨.arr tn l, .tre⟩))) (XC w0 own) (cA ρ i (some ⟨w.heap.size,n,cap,false⟩)) (cA (eB h ids) i (some ⟨.arr tn l, .tre⟩)):=by
 obtain⟨t1,t2⟩:=PI _ _ ht;obtain⟨a1,a2⟩:=NU lX
 have G9:∀k (hk:k<vs.length) (v:V),v∈cellsOf vs[k]→∃o,(vs.flatMap cellsOf)[o]?=some v:=λk hk v hm=>
  List.mem_iff_getElem?.1 (List.mem_flatMap.2 ⟨_,List.getElem_mem hk,hm⟩)
 have Z1:∀k (hk:k<vs.length) r off,vs[k]≠ .bp r off:=λk hk r off he=>by
  obtain⟨o,ho⟩:=G9 k hk (.bp r off) (by rw[he];simp[cellsOf])
  rcases t1 o _ ho with⟨_,_,_,_,e,_⟩ | ⟨e,_⟩
  ·cases e
  ·simp[RD]at e
 have hz:∀k (hk:k<vs.length),∃i1,cE h vs[k]=some (vs'[k]'(by omega),i1)∧∀r∈i1,r∈ids:=λk hk=>a2 k hk (by omega)
 have tV:∀k (hk:k<vs.length),(cellsOf vs[k]).length=sz tn:=λk hk=>by
  obtain⟨i1,h1,_⟩:=hz k hk;obtain⟨e1,_⟩:=cS h1 (Z1 k hk);rw[←e1,(hs k (by omega) (by omega)).len,WA]
 have hF:∀k (hk:k<vs.length) j (hj:j<sz tn),(vs.flatMap cellsOf)[k *sz tn+j]?=some ((cellsOf vs[k])[j]'(by rw[tV k hk];exact hj)):=λk hk j hj=>by
  rw[CU cellsOf (sz tn) vs tV k hk j hj,List.getElem?_eq_getElem (by rw[tV k hk];exact hj)]
 have CW:∀(o r:Nat),(vs.flatMap cellsOf)[o]?=some (V.ow r)→r∈ids:=λo r ho=>by
  have hm:=List.mem_iff_getElem?.2 ⟨o,ho⟩;obtain⟨v,FY,G5⟩:=List.mem_flatMap.1 hm;obtain⟨k,hk,rfl⟩:=List.mem_iff_getElem.1 FY;obtain⟨j,hj,I5⟩:=List.mem_iff_getElem.1 G5;obtain⟨i1,h1,h2⟩:=hz k hk;obtain⟨e1,e2⟩:=cS h1 (Z1 k hk);obtain⟨i2,e3,e4⟩:=e2 j hj (by omega);rw[I5]at e3;simp only[kC]at e3;split at e3
  ·rename_i m _;cases hm:m.isLock<;>simp[hm]at e3
   obtain⟨_,rfl⟩:=e3;exact h2 _ (e4 r (by simp))
  ·cases e3
 refine pB.lay hh (i:=i) (B:=w.heap.size) (ri':=⟨w.heap.size,n,cap,false⟩) (uH (vs.flatMap cellsOf)) _ (tA _ _ _) (tA _ _ _) rfl (λq t1' l1 m1 qi hq h1 cX h2 h3=>?_) (λhc=>?_) (λc _ hc=>mW c hc) (λc hc hb=>?_)
  (λo r ri ho hρ hn hb=>?_) (λk hk j hj=>?_) (λo r ho=>?_) (λo r o' ho=>(RM ho).elim) (λ_ _ _ _ _ ho=>RM ho) (λo o2 r h1 h2=>t2 o o2 r (LI h1) (LI h2)) λo o2 r o' h1 _=>(RM h1).elim
 ·rw[kA _ _ _ _ hq]at h1 h2;rw[pD]at h1
  by_cases hm:q∈ids
  ·rw[if_pos hm]at h1;cases z2:h q with
   | none=>rw[z2]at h1;cases h1
   | some row=>rw[z2]at h1;have:=congrArg (Option.map gA.m) h1;simp at this;subst this;cases cX
  ·rw[if_neg hm]at h1;obtain⟨ri,k1,_,k2⟩:=hh.rows q _ h1;rw[h2]at k1;cases k1;have:=(k2 h3).2;exact⟨⟨m1,h1,cX⟩,h2,by omega,λo ho=>hm (CW o q (LI ho)),λo o' ho=>RM ho⟩
 ·have:=hc.lt;omega
 ·rcases uV c hb with h | h
  ·exact vR (i:=[]) (by simp) h
  ·have:=hc.lt;omega
 ·obtain⟨row,sV,_⟩:∃row,h r=some row∧True:=by
   rcases t1 o _ (LI ho)with⟨r',t',l',m',e1,e2,_⟩ | ⟨_,e,_⟩
   ·cases e1;exact⟨_,e2,trivial⟩
   ·exact absurd rfl (e r)
  rcases uV _ hb with h | h
  ·exact xM hh sV hρ hn (CW o r (LI ho)) h
  ·obtain⟨ri1,k1,_,k2⟩:=hh.rows r _ sV;rw[hρ]at k1;cases k1;have:=(k2 hn).2;omega
 ·have sZ:k<vs.length:=by omega
  have GY:j<(cellsOf vs[k]).length:=by rw[tV k sZ];exact hj
  obtain⟨i1,h1,h2⟩:=hz k sZ;obtain⟨e1,e2⟩:=cS h1 (Z1 k sZ);obtain⟨i2,e3,e4⟩:=e2 j GY (by omega);have GV:=hs k (by omega) hk
  have vV:k *sz tn+j<l.length *sz tn:=by
   have:(k+1) *sz tn≤l.length *sz tn:=Nat.mul_le_mul_right _ hk;rw[Nat.add_mul,Nat.one_mul]at this;omega
  refine⟨f (k *sz tn+j),wV _ vV,?_⟩;have tZ:uH (vs.flatMap cellsOf) (k *sz tn+j)=mI (cellsOf vs[k])[j]:=by unfold uH;rw[hF k sZ j hj]
  rw[tZ,List.getD_eq_getElem?_getD,List.getElem?_eq_getElem (by rw[WA];exact hj),Option.getD_some];refine zbL hh (hv k sZ j GY) e3 (GV.get j (by omega) (by rw[WA];exact hj)) ?_ (λr row ri g1 g2 g3 g4=>?_)
  ·rcases t1 _ _ (hF k sZ j hj)with⟨r,t,l',m,f1,f2,f3,_⟩ | h
   ·exact .inl ⟨r,t,l',m,f1,f2,f3⟩
   ·exact .inr h
  ·obtain⟨ri1,k1,_,k2⟩:=hh.rows r _ g1;rw[g2]at k1;cases k1;have:=(k2 g3).2;omega
 ·rcases t1 o _ (LI ho)with⟨r',t',l',m',f1,f2,f3,_⟩ | ⟨_,e,_⟩
  ·cases f1;exact⟨_,f2,by cases m'<;>first | rfl | simp[AB]at f3⟩
  ·exact absurd rfl (e r)
def pB.made(hh:EA w0 outer own ρ h w){i:Nat}{ri':RI}{t:TN}{L:List (El t)}(hi:ρ i=none)(hB:ri'.b=w.heap.size)(mW:∀b,b<w.heap.size→w'.heap[b]?=w.heap[b]?)
  (IV:∀k (hk:k<L.length) j,j<sz t→∃u,w'.cell? (iA w.heap.size (k *sz t+j))=some u∧JL u ((enc t L[k]).getD j .undef))
  (uV:∀b,bA outer (cA ρ i (some ri')) (cA h i (some ⟨.arr t L, .tre⟩)) b→bA outer ρ h b∨w.heap.size≤b):
  pB w' (bA outer (cA ρ i (some ri')) (cA h i (some ⟨.arr t L, .tre⟩))) (XC w0 own) (cA ρ i (some ri')) (cA h i (some ⟨.arr t L, .tre⟩)):=by
 refine pB.lay hh (i:=i) (B:=w.heap.size) (λ_=> .triv) _ (tA _ _ _) (tA _ _ _) hB (λq t1' l1 m1 qi hq h1 cX h2 h3=>?_) (λhc=>?_) (λc _ hc=>mW c hc) (λc hc hb=>?_)
  (λo r ri ho=>by cases ho) (λk hk j hj=>?_) (λo r ho=>by cases ho) (λo r o' ho=>by cases ho) (λ_ _ _ _ ho=>by cases ho) (λo o2 r h1=>by cases h1) λo o2 r o' h1=>by cases h1
 ·rw[kA _ _ _ _ hq]at h1 h2;obtain⟨ri,k1,_,k2⟩:=hh.rows q _ h1;rw[h2]at k1;cases k1;have:=(k2 h3).2;exact⟨⟨m1,h1,cX⟩,h2,by omega,(λo ho=>by cases ho),(λo o' ho=>by cases ho)⟩
 ·have:=hc.lt;omega
 ·rcases uV c hb with h | h
  ·exact h
  ·have:=hc.lt;omega
 ·exact IV k hk j hj
def pB.store(hh:EA w0 outer own ρ h w){r k off n:Nat}{t:TN}{l:List (El t)}{y z:El t}{vs vs':List V}{ids:List Nat}{f:Nat→Value}{ri:RI}
  (hr:h r=some ⟨.arr t l, .tre⟩) (hρ:ρ r=some ri) (hn:ri.nl=false) (hk:l[k]?=some y) (hv:∀j (hj:j<vs.length),VR w ρ (bA outer ρ h) (f j) vs[j])
  (lX:ZC h vs=some (vs',ids)) (W1:vs.length=n) (xW:off+n≤sz t) (hs:ZA (MB (enc t y) off vs') (enc t z)) (ht:vD h [r] vs=true)
  (C1:∀j (hj:j<sz t),(MB (enc t y) off vs').getD j .undef=if h:off≤j∧j<off+n then vs'.getD (j - off) .undef else(enc t y).getD j .undef)
  (mW:∀c,c≠ri.b→c<w.heap.size→w'.heap[c]?=w.heap[c]?)
  (UV:∀j,j<n→w'.cell? (iA ri.b (k *sz t+off+j))=some (f j)) (VV:∀o,(o<k *sz t+off∨k *sz t+off+n≤o)→w'.cell? (iA ri.b o)=w.cell? (iA ri.b o))
  (uV:∀b,bA outer ρ (cA (eB h ids) r (some ⟨.arr t (l.set k z), .tre⟩)) b→bA outer ρ (eB h ids) b):
  pB w' (bA outer ρ (cA (eB h ids) r (some ⟨.arr t (l.set k z), .tre⟩))) (XC w0 own) ρ (cA (eB h ids) r (some ⟨.arr t (l.set k z), .tre⟩)):=by
 obtain⟨t1,t2⟩:=PI _ _ ht;obtain⟨a1,a2⟩:=JR lX;obtain⟨FX,P7⟩:=List.getElem?_eq_some_iff.1 hk
 have CW:∀(o q:Nat),vs[o]?=some (V.ow q)→q∈ids:=λo q ho=>by
  obtain⟨hj,I5⟩:=List.getElem?_eq_some_iff.1 ho;obtain⟨i2,e3,e4⟩:=a2 o hj (by omega);rw[I5]at e3;simp only[kC]at e3;split at e3
  ·rename_i m _;cases hm:m.isLock<;>simp[hm]at e3
   obtain⟨_,rfl⟩:=e3;exact e4 q (by simp)
  ·cases e3
 have iW:∀(o q:Nat),vs[o]?=some (V.ow q)→q≠r∧∃row,h q=some row∧row.m.isRo=false:=λo q ho=>by
  rcases t1 o _ ho with⟨q',t',l',m',f1,f2,f3,f4⟩ | ⟨_,e,_⟩
  ·cases f1;exact⟨λe=>f4 (by simp[e]),_,f2,by cases m'<;>first | rfl | simp[AB]at f3⟩
  ·exact absurd rfl (e q)
 let base:=k *sz t+off;let og:Nat→vI:=λo=>if base≤o∧o<base+n then uH vs (o - base)else .cell r o
 have ogr:∀o q,og o= .row q→base≤o∧o<base+n∧vs[o - base]?=some (V.ow q):=λo q ho=>by
  simp only[og]at ho;split at ho
  ·rename_i h;exact⟨h.1,h.2,LI ho⟩
  ·cases ho
 have ogc:∀o q o',og o= .cell q o'→q=r∧o'=o:=λo q o' ho=>by
  simp only[og]at ho;split at ho
  ·exact(RM ho).elim
  ·cases ho;exact⟨rfl,rfl⟩
 obtain⟨ri1,k1,k2,k3⟩:=hh.rows r _ hr;rw[hρ]at k1;cases k1
 refine pB.lay hh (i:=r) (B:=ri.b) (ri':=ri) og _ (tA _ _ _) hρ rfl (λq t1' l1 m1 qi hq h1 cX h2 h3=>?_) (λ_=> .inr ⟨r,_,ri,hr,rfl,hρ,hn,rfl⟩) mW (λc hc hb=>?_)
  (λo q qi ho OX z0 hb=>?_) (λk' SV j hj=>?_) (λo q ho=>?_) (λo q o' ho=>?_) (λo o2 q o' h1 h2=>?_) (λo o2 q h1 h2=>?_) λo o2 q o' h1 h2=>?_
 ·rw[kA _ _ _ _ hq]at h1;rw[pD]at h1
  by_cases hm:q∈ids
  ·rw[if_pos hm]at h1;cases z2:h q with
   | none=>rw[z2]at h1;cases h1
   | some row=>rw[z2]at h1;have:=congrArg (Option.map gA.m) h1;simp at this;subst this;cases cX
  ·rw[if_neg hm]at h1;exact⟨⟨m1,h1,cX⟩,h2,λe=>hq (hh.inj q r _ _ qi ri h1 hr h2 hρ h3 hn e),λo ho=>hm (CW _ q (ogr o q ho).2.2),λo o' ho=>hq (ogc o q o' ho).1⟩
 ·exact vR (i:=[]) (by simp) (uV c hb)
 ·obtain⟨_,_,h3⟩:=ogr o q ho;obtain⟨_,row,h4,_⟩:=iW _ q h3;exact xM hh h4 OX z0 (CW _ q h3) (uV _ hb)
 ·have fX:k'<l.length:=by simpa using SV
  have UW:base≤k' *sz t+j∧k' *sz t+j<base+n↔k'=k∧off≤j∧j<off+n:=by
   constructor
   ·rintro⟨h1,h2⟩;simp only[base]at h1 h2
    have:k'=k:=by
     rcases Nat.lt_trichotomy k' k with h | h | h
     ·have:(k'+1) *sz t≤k *sz t:=Nat.mul_le_mul_right _ h;rw[Nat.add_mul,Nat.one_mul]at this;omega
     ·exact h
     ·have:(k+1) *sz t≤k' *sz t:=Nat.mul_le_mul_right _ h;rw[Nat.add_mul,Nat.one_mul]at this;omega
    subst this;exact⟨rfl,by omega,by omega⟩
   ·rintro⟨rfl,h1,h2⟩;simp only[base];omega
  by_cases hi:k'=k∧off≤j∧j<off+n
  ·obtain⟨rfl,h1,h2⟩:=hi;have GY:j - off<vs.length:=by omega
   obtain⟨i2,e3,e4⟩:=a2 (j - off) GY (by omega)
   have tZ:og (k' *sz t+j)=mI vs[j - off]:=by
    simp only[og];rw[if_pos (UW.2 ⟨rfl,h1,h2⟩)];unfold uH;rw[show k' *sz t+j - base=j - off by simp only[base];omega,List.getElem?_eq_getElem GY]
   have PX:(l.set k' z)[k']=z:=by simp
   have tV:(MB (enc t y) off vs').length=sz t:=by rw[hs.len,WA]
   have GV:=hs.get j (by omega) (by rw[WA];exact hj);have qY:=C1 j hj;rw[dif_pos ⟨h1,h2⟩,List.getD_eq_getElem?_getD,List.getElem?_eq_getElem (by omega),List.getD_eq_getElem?_getD,List.getElem?_eq_getElem (by omega)]at qY;simp only[Option.getD_some]at qY;rw[qY]at GV;refine⟨f (j - off),by have:=UV (j - off) (by omega);rwa [show k' *sz t+off+(j - off)=k' *sz t+j by omega]at this,?_⟩;rw[tZ,PX,List.getD_eq_getElem?_getD,List.getElem?_eq_getElem (by rw[WA];exact hj),Option.getD_some];refine zbL hh (hv _ GY) e3 GV ?_ (λq row qi g1 g2 g3 g4 e=>?_)
   ·rcases t1 _ _ (List.getElem?_eq_getElem GY)with⟨q,t',l',m,f1,f2,f3,_⟩ | h
    ·exact .inl ⟨q,t',l',m,f1,f2,f3⟩
    ·exact .inr h
   ·have zV:=hh.inj q r _ _ qi ri g1 hr g2 hρ g3 hn e;subst zV
    rcases t1 _ _ (List.getElem?_eq_getElem GY)with⟨q',t',l',m,f1,f2,f3,f4⟩ | ⟨f1,f2,f3⟩
    ·rw[f1]at e3;simp only[kC,f2]at e3;cases hm:m.isLock<;>simp[hm]at e3
     obtain⟨_,rfl⟩:=e3;simp at g4;exact f4 (by simp[g4])
    ·have e1:kC h vs[j - off]=some (vs[j - off],[]):=by
      unfold kC;split
      ·rename_i J5;exact absurd J5 (f2 _)
      ·rename_i J5;rw[J5]at f1;simp[RD]at f1
      ·simp[f1]
     rw[e1]at e3;simp only[Option.some.injEq,Prod.mk.injEq]at e3;obtain⟨_,rfl⟩:=e3;simp at g4
  ·have tZ:og (k' *sz t+j)= .cell r (k' *sz t+j):=by simp only[og];rw[if_neg (λh=>hi (UW.1 h))]
   rcases k2.2 with h | ⟨_,_,_,_,_,d4⟩
   ·rw[hn]at h;cases h.1
   obtain⟨u,d5,d6⟩:=d4 k' fX j hj
   have ho:k' *sz t+j<base∨base+n≤k' *sz t+j:=by
    rcases Nat.lt_or_ge (k' *sz t+j) base with h | h
    ·exact .inl h
    ·rcases Nat.lt_or_ge (k' *sz t+j) (base+n)with h' | h'
     ·exact(hi (UW.1 ⟨h,h'⟩)).elim
     ·exact .inr h'
   refine⟨u,(VV _ ho).trans d5,?_⟩;rw[tZ];refine⟨t,l,ri,k',j,fX,hr,hρ,hn,hj,rfl,d5,?_⟩
   by_cases OW:k'=k
   ·subst OW;have PX:(l.set k' z)[k']=z:=by simp
    rw[PX];have tV:(MB (enc t y) off vs').length=sz t:=by rw[hs.len,WA]
    have GV:=hs.get j (by omega) (by rw[WA];exact hj);have qY:=C1 j hj;rw[dif_neg (λh=>hi ⟨rfl,h⟩),List.getD_eq_getElem?_getD,List.getElem?_eq_getElem (by omega),Option.getD_some]at qY;rw[qY]at GV;rw[show(enc t z).getD j .undef=(enc t z)[j]'(by rw[WA];exact hj) by rw[List.getD_eq_getElem?_getD,List.getElem?_eq_getElem (by rw[WA];exact hj),Option.getD_some],P7];rw[P7]at d6;generalize (enc t y).getD j .undef=c at GV d6⊢;generalize (enc t z)[j]'_=d at GV⊢;cases GV with
    | refl=>exact .inl rfl
    | byte m=>cases d6 with | int _ _ h=>exact .inr λ_ _ _=>VR.sub (.byte m) (.int _ _ h)
    | nil t'=>cases d6;exact .inr λ_ _ _=> .slE _ _ _ (Nat.zero_le _)
   ·left;rw[List.getElem_set_ne (Ne.symm OW)]
 ·obtain⟨_,_,h3⟩:=ogr o q ho;exact(iW _ q h3).2
 ·obtain⟨rfl,_⟩:=ogc o q o' ho;exact⟨t,l,hr⟩
 ·obtain⟨rfl,_⟩:=ogc o2 q o' h2;exact(iW _ q (ogr o q h1).2.2).1 rfl
 ·obtain⟨a,b,c⟩:=ogr o q h1;obtain⟨a',b',c'⟩:=ogr o2 q h2;have:=t2 _ _ q c c';omega
 ·obtain⟨_,e1⟩:=ogc o q o' h1;obtain⟨_,e2⟩:=ogc o2 q o' h2;omega
def JN:Option Nat→Nat→vI
 | some r,o=> .cell r o
 | none,_=> .triv
def pB.append(hh:EA w0 outer own ρ h w){r2 i B:Nat}{ro:Option Nat}{t:TN}{l m:List (El t)}{olds news:List Value}{ri' rj:RI}(hi:ρ i=none)(hB:ri'.b=B)
  (hx:l=[]∨∃r ri,ro=some r∧r≠r2∧h r=some ⟨.arr t l, .tre⟩∧ρ r=some ri∧ri.nl=false∧∀k,k<l.length *sz t→olds[k]?=w.cell? (iA ri.b k))
  (hy:h r2=some ⟨.arr t m, .tre⟩) (hyρ:ρ r2=some rj) (Z3:m=[]∨rj.nl=false∧∀k,k<m.length *sz t→news[k]?=w.cell? (iA rj.b k))
  (MX:olds.length=l.length *sz t) (W1:news.length=m.length *sz t)
  (bW:∀q t1 (l1:List (El t1)) m1,h' q=some ⟨.arr t1 l1,m1⟩→m1.isTre=true→(∃m2,h q=some ⟨.arr t1 l1,m2⟩∧m2.isTre=true)∧ro≠some q∧q≠r2)
  (C5:EB w B→bA outer ρ h B) (H9:∀q row qi,h q=some row→ρ q=some qi→qi.nl=false→ro≠some q→qi.b≠B)
  (mW:∀c,c≠B→c<w.heap.size→w'.heap[c]?=w.heap[c]?) (wV:∀(j:Nat) (u:Value),(olds++news)[j]?=some u→w'.cell? (iA B j)=some u)
  (uV:∀b,bA outer (cA ρ i (some ri')) (cA h' i (some ⟨.arr t (l++m), .tre⟩)) b→bA outer ρ h b∨w.heap.size≤b):
  pB w' (bA outer (cA ρ i (some ri')) (cA h' i (some ⟨.arr t (l++m), .tre⟩))) (XC w0 own) (cA ρ i (some ri')) (cA h' i (some ⟨.arr t (l++m), .tre⟩)):=by
 let L:=l.length *sz t;let og:Nat→vI:=λo=>if o<L then JN ro o else .cell r2 (o - L)
 have ogr:∀o q,og o≠ .row q:=λo q ho=>by
  simp only[og]at ho;split at ho
  ·cases ro<;>simp[JN]at ho
  ·cases ho
 have ogc:∀o q o',og o= .cell q o'→o<L∧ro=some q∧o'=o∨L≤o∧q=r2∧o'=o - L:=λo q o' ho=>by
  simp only[og]at ho;split at ho
  ·rename_i vV;cases ro with
   | none=>simp[JN]at ho
   | some r=>simp only[JN,vI.cell.injEq]at ho;exact .inl ⟨vV,by rw[ho.1],ho.2.symm⟩
  ·rename_i vV;cases ho;exact .inr ⟨by omega,rfl,rfl⟩
 have hr:∀o,o<L→∃r ri,ro=some r∧r≠r2∧h r=some ⟨.arr t l, .tre⟩∧ρ r=some ri∧ri.nl=false∧∀k,k<l.length *sz t→olds[k]?=w.cell? (iA ri.b k):=λo ho=>by
  rcases hx with rfl | h
  ·simp[L]at ho
  ·exact h
 refine pB.lay hh (i:=i) (B:=B) (ri':=ri') og _ (tA _ _ _) (tA _ _ _) hB (λq t1' l1 m1 qi hq h1 cX h2 h3=>?_) C5 mW (λc hc hb=>?_)
  (λo q qi ho=>absurd ho (ogr o q)) (λk hk j hj=>?_) (λo q ho=>absurd ho (ogr o q)) (λo q o' ho=>?_) (λo o2 q o' h1=>absurd h1 (ogr o q)) (λo o2 q h1=>absurd h1 (ogr o q)) λo o2 q o' h1 h2=>?_
 ·rw[kA _ _ _ _ hq]at h1 h2;obtain⟨⟨m2,e1,em⟩,e2,e3⟩:=bW q t1' l1 m1 h1 cX;refine⟨⟨m2,e1,em⟩,h2,H9 q _ qi e1 h2 h3 e2,λo=>ogr o q,λo o' ho=>?_⟩
  rcases ogc o q o' ho with⟨_,e,_⟩ | ⟨_,e,_⟩
  ·exact e2 e
  ·exact e3 e
 ·rcases uV c hb with h | h
  ·exact h
  ·have:=hc.lt;omega
 ·have gZ:∀n (a:List (El t)),a.length=n→∀k,k<n→k *sz t+j<n *sz t:=λn a _ k hk=>by
   have:(k+1) *sz t≤n *sz t:=Nat.mul_le_mul_right _ hk;rw[Nat.add_mul,Nat.one_mul]at this;omega
  by_cases FX:k<l.length
  ·have ho:k *sz t+j<L:=gZ _ l rfl k FX;obtain⟨r,ri,e1,e2,e3,e4,e5,e6⟩:=hr _ ho;have K5:(olds++news)[k *sz t+j]?=olds[k *sz t+j]?:=List.getElem?_append_left (by rw[MX];exact ho);have hu:olds[k *sz t+j]?=some (olds[k *sz t+j]'(by rw[MX];exact ho)):=List.getElem?_eq_getElem _;refine⟨_,wV _ _ (K5.trans hu),?_⟩;have tZ:og (k *sz t+j)= .cell r (k *sz t+j):=by simp only[og,if_pos ho,e1,JN]
   rw[tZ];refine⟨t,l,ri,k,j,FX,e3,e4,e5,hj,rfl,by rw[←e6 _ ho];exact hu, .inl ?_⟩;rw[List.getElem_append_left FX]
  ·have L5:k - l.length<m.length:=by simp at hk;omega
   have UW:k *sz t+j - L=(k - l.length) *sz t+j∧L≤k *sz t+j:=by
    have h5:l.length *sz t≤k *sz t:=Nat.mul_le_mul_right _ (by omega);simp only[L];rw[Nat.sub_mul];omega
   rcases Z3 with rfl | ⟨g1,g2⟩
   ·simp at L5
   have A0:(k - l.length) *sz t+j<m.length *sz t:=gZ _ m rfl _ L5
   have K5:(olds++news)[k *sz t+j]?=news[(k - l.length) *sz t+j]?:=by
    rw[List.getElem?_append_right (by rw[MX];exact UW.2),MX, ←UW.1]
   have hu:news[(k - l.length) *sz t+j]?=some (news[(k - l.length) *sz t+j]'(by rw[W1];exact A0)):=List.getElem?_eq_getElem _;refine⟨_,wV _ _ (K5.trans hu),?_⟩
   have tZ:og (k *sz t+j)= .cell r2 ((k - l.length) *sz t+j):=by
    have:¬k *sz t+j<L:=by omega
    simp only[og,if_neg this,UW.1]
   rw[tZ];refine⟨t,m,rj,k - l.length,j,L5,hy,hyρ,g1,hj,rfl,by rw[←g2 _ A0];exact hu, .inl ?_⟩;rw[List.getElem_append_right (by omega)]
 ·rcases ogc o q o' ho with⟨e,e1,_⟩ | ⟨_,rfl,_⟩
  ·obtain⟨r,ri,f1,_,f2,_⟩:=hr o e;rw[e1]at f1;cases f1;exact⟨t,l,f2⟩
  ·exact⟨t,m,hy⟩
 ·rcases ogc o q o' h1 with⟨e,e1,e2⟩ | ⟨e,e1,e2⟩<;>rcases ogc o2 q o' h2 with⟨f,f1,f2⟩ | ⟨f,f1,f2⟩
  ·omega
  ·obtain⟨r,ri,g1,g2,_⟩:=hr o e;rw[e1]at g1;cases g1;exact absurd f1 g2
  ·obtain⟨r,ri,g1,g2,_⟩:=hr o2 f;rw[f1]at g1;cases g1;exact absurd e1 g2
  ·omega
end
end Go.D
namespace Go.D
variable [aA]
section
variable {C:Cx} {w0:World} {outer:Nat→Prop} {own:Ow} {ρ:Nat→Option RI} {st st':St} {a:Act} {w:World} {h:Nat→Option gA}
def yS{bad:Nat→Prop}{r off:Nat}{cs:List V}{ri:RI}{v:Value}(hρ:ρ r=some ri)(FV:uC w ρ bad ri (.box cs)){bad':Nat→Prop}(hv:VR w ρ bad' v (.bp r off)):
  v= .pointer (some (iA ri.b (0+off)))∧qN w ρ bad ri.b 0 cs:=by
 cases hv with
 | bp _ _ ri' h1 h2=>
  rw[hρ]at h1;cases h1;refine⟨by rw[Nat.zero_add],λj hj=>?_⟩;obtain⟨_,u,h3,h4⟩:=FV.2 j hj;exact⟨u,by rw[Nat.zero_add];exact h3,h4⟩
omit [aA]in
def vE{α:Type}(l:List α)(j:Nat)(d:α)(hj:j<l.length):l.getD j d=l[j]:=by
 rw[List.getD_eq_getElem?_getD,List.getElem?_eq_getElem hj,Option.getD_some]
def za9{bad:Nat→Prop}{r k off:Nat}{t:TN}{l:List (El t)}{ri:RI}{v:Value}(hρ:ρ r=some ri)(FV:uC w ρ bad ri (.arr t l)){x:El t}(hx:l[k]?=some x)
  {bad':Nat→Prop} (hv:VR w ρ bad' v (.ep r t k off)):v= .pointer (some (iA ri.b (k *sz t+off)))∧qN w ρ bad ri.b (k *sz t) (enc t x)∧ri.nl=false:=by
 cases hv with
 | ep _ _ _ _ ri' h1 h2=>
  rw[hρ]at h1;cases h1;refine⟨rfl,λj hj=>?_,h2⟩
  rcases FV.2 with h | ⟨h0,_,_,_,_,h4⟩
  ·rw[h2]at h;cases h.1
  ·obtain⟨hk,rfl⟩:=List.getElem?_eq_some_iff.1 hx;have YV:j<sz t:=by rw[←WA t l[k]];exact hj
   obtain⟨u,h5,h6⟩:=h4 k hk j YV;rw[vE _ _ _ hj]at h6;exact⟨u,h5,h6⟩
def zgr{bad:Nat→Prop}{cs:List V}{off:Nat}{v:Value}(hv:VR w ρ bad v (.fp cs off)):
  ∃b o,v= .pointer (some (iA b (o+off)))∧qN w ρ bad b o cs:=by
 cases hv with
 | fp _ _ b o u h0 hb hu hv=>exact⟨b,o,rfl,λj hj=>⟨_,hu j hj,hv j hj⟩⟩
variable {o:Oper} {i:Nat} (hr:AA C w0 outer own ρ st a w)
include hr
def TR(t:TypeId)(x:Operand)(ho:o.op= .load t x){ag:Bool}{n b p off:Nat}{cs:List V}(h1:MC C.P t=some ag)(h2:BC C.P t=some n)
  (hx:a.eval x= .pointer (some (iA b (p+off)))) (hc:qN w ρ (bA outer ρ st.h) b p cs) (hk:uE ag n cs off (λv=>DA C o.dst st v some)=some st'):
  yB C.P o a w (tB C w0 outer own i ρ st'):=by
 obtain⟨d,v,h3,h4,h5⟩:=YS h1 h2 hc hk;refine bB (v:=v) (w':=w) ?_ (hr.after h4 h3);simp[execOp,ho,hx,Instr.loadAt,Instr.sureAddr,h5]
def jG{r:Nat}{c:dD}{m:cB}(h1:st.h r=some ⟨c,m⟩):∃ri,ρ r=some ri∧uC w ρ (bA outer ρ st.h) ri c:=by
 obtain⟨ri,h2,h3,_⟩:=hr.heap.rows r _ h1;exact⟨ri,h2,h3⟩
def zij(t:TypeId)(x:Operand)(ho:o.op= .load t x)(hk:OA C i o st some=some st'):yB C.P o a w (tB C w0 outer own i ρ st'):=by
 simp only[OA,ho]at hk;split at hk
 case h_2=>cases hk
 rename_i ag n h1 h2;have hx:=hr.opd x;split at hk
 ·rename_i r off HV;rw[HV]at hx;split at hk
  ·rename_i cs m sV;obtain⟨ri,hρ,FV⟩:=jG hr sV;obtain⟨e1,e2⟩:=yS hρ FV hx;exact TR hr t x ho h1 h2 e1 e2 hk
  ·cases hk
 ·rename_i r t' k off HV;rw[HV]at hx;split at hk
  ·rename_i t'' l m sV;obtain⟨ri,hρ,FV⟩:=jG hr sV
   by_cases ht:t''=t'
   ·subst ht;simp only[decide_true,iB,xI,Option.bind_eq_some_iff]at hk;obtain⟨y,hy,hk⟩:=hk;obtain⟨e1,e2,_⟩:=za9 hρ FV hy hx;exact TR hr t x ho h1 h2 e1 e2 hk
   ·simp[ht]at hk
  ·cases hk
 ·rename_i cs off HV;rw[HV]at hx;obtain⟨b,p,e1,e2⟩:=zgr hx;exact TR hr t x ho h1 h2 e1 e2 hk
 ·cases hk
def zgS(t:TypeId)(x y:Operand)(ho:o.op= .store t x y)(hk:OA C i o st some=some st'):yB C.P o a w (tB C w0 outer own i ρ st'):=by
 simp only[OA,ho]at hk;split at hk
 ·cases hk
 rename_i n h2;cases hb:(Nat.beq n (cellsOf (opd st.s y)).length&&xE (cellsOf (opd st.s y)))
 case false=>simp[hb]at hk
 simp only[hb,iB]at hk;simp only[Bool.and_eq_true]at hb;have hn:n=(cellsOf (opd st.s y)).length:=Nat.eq_of_beq_eq_true hb.1;obtain⟨hs,DW,HY⟩:=cN (hr.opd y) hb.2;have hx:=hr.opd x;split at hk
 ·rename_i r off HV;rw[HV]at hx;split at hk
  ·rename_i cs sV;cases JV:Nat.ble (off+n) cs.length
   case false=>simp[JV]at hk
   simp only[JV,iB]at hk;have JV:=Nat.le_of_ble_eq_true JV;obtain⟨ri,hρ,FV⟩:=jG hr sV;obtain⟨e1,e2⟩:=yS hρ FV hx;rw[Nat.zero_add]at e1
   have wV:∀j,j<n→(w.cell? (iA ri.b (off+j))).isSome=true:=λj hj=>by
    obtain⟨_,u,h3,_⟩:=FV.2 (off+j) (by omega);rw[h3];rfl
   have KV:∀j,j<n→w.frozen? (iA ri.b (off+j))=false:=λj hj=>(FV.2 (off+j) (by omega)).1;have qV:=zaA (P:=C.P) h2 (hs.trans hn.symm) HY wV KV;generalize hW:w.setCells ri.b off (a.eval y).cells.toList=W at qV
   have cW:=hr.heap.write sV rfl hρ FV.1 W (by rw[←hW];exact tO _ _ _ _) (by rw[←hW];exact aO _ _ _ _)
    (fun b hb=>by rw [← hW];exact GJ _ _ _ _ _ hb) (.box (MB cs off (cellsOf (opd st.s y)))) (fun SV=>by
     obtain⟨gY,QX⟩:=MK cs off (cellsOf (opd st.s y)) (by omega);refine⟨FV.1,λj hj=>?_⟩;have YV:j<cs.length:=by omega
     refine⟨by rw[←hW,World.frozen?_setCells];exact(FV.2 j YV).1,?_⟩;rw[QX j YV hj];split
     ·rename_i UV;have:=World.cell?_setCells_in ri.b (a.eval y).cells.toList off w (λj hj=>wV j (by simpa[hs,hn]using hj)) (j - off) (by simp[hs];omega);refine⟨_,by rw[←hW,show iA ri.b j=⟨ri.b,off+(j - off),none⟩ by rw[iA];congr 1;omega];exact this,?_⟩;have h4:=DW (j - off) (by omega);rw[Array.getD_eq_getD_getElem?,Array.getElem?_eq_getElem (by omega),Option.getD_some]at h4;exact SV _ _ (by simpa using h4)
     ·rename_i VV;obtain⟨_,u,h3,h4⟩:=FV.2 j YV;refine⟨u,?_,SV _ _ h4⟩;rw[←hW,World.cell?_setCells_out]
      ·exact h3
      ·intro _ _;simp only[iA,Array.length_toList,hs];omega)
   refine zal (w':=W) ?_ ⟨ρ,((hr.turn cW.1 cW.2).put (.undef _) hk).1,λ_ _=>rfl,λ_ _ h=>h⟩;simp[execOp,ho,e1,Instr.storeAt,Instr.sureAddr,qV]
  ·cases hk
 ·rename_i r t' k off HV;rw[HV]at hx;split at hk
  ·rename_i t'' l m sV;obtain⟨ri,hρ,FV⟩:=jG hr sV;cases M5:m.isOwn
   case false=>simp[M5]at hk
   by_cases ht:t''=t'
   case neg=>simp[ht]at hk
   subst ht;simp only[M5,decide_true,Bool.and_self,iB]at hk;split at hk
   ·cases hk
   rename_i vs' ids lX;cases CW:ids.any (Nat.beq r)
   case true=>simp[CW]at hk
   simp only[CW,aG,xI,eF,Option.bind_eq_some_iff]at hk;obtain⟨y0,vX,hk⟩:=hk;cases JV:Nat.ble (off+n) (sz t'')
   case false=>simp[JV]at hk
   simp only[JV,iB,Option.bind_eq_some_iff]at hk;have JV:=Nat.le_of_ble_eq_true JV;obtain⟨z,hz,hk⟩:=hk;obtain⟨e1,e2,CV⟩:=za9 hρ FV vX hx;obtain⟨FX,N5⟩:=List.getElem?_eq_some_iff.1 vX;obtain⟨uZ,FY⟩:=hr.heap.mark ids
   have IY:eB st.h ids r=some ⟨.arr t'' l,m⟩:=by
    rw[pD,if_neg,sV];intro hm;have:ids.any (Nat.beq r)=true:=List.any_eq_true.2 ⟨r,hm,Nat.beq_refl r⟩;rw[this]at CW;cases CW
   obtain⟨_,hρ1,JY,_⟩:=uZ.rows r _ IY;rw[hρ]at hρ1;cases hρ1;obtain⟨Q7,I9⟩:=NM hr.heap (vs:=λj=>(a.eval y).cells.getD j undef) DW lX
   rcases JY.2 with VW | ⟨_,ce,c1,c2,c3,c4⟩
   ·rw[CV]at VW;cases VW.1
   have RX:=JY.1;have R7:(k+1) *sz t''≤ri.cap *sz t'':=Nat.mul_le_mul_right _ (by omega);rw[Nat.add_mul,Nat.one_mul]at R7;have wV:∀j,j<n→(w.cell? (iA ri.b (k *sz t''+off+j))).isSome=true:=λj hj=>(c3 (k *sz t''+off+j) (by omega)).2;have KV:∀j,j<n→w.frozen? (iA ri.b (k *sz t''+off+j))=false:=λj hj=>(c3 (k *sz t''+off+j) (by omega)).1;have qV:=zaA (P:=C.P) h2 (hs.trans hn.symm) HY wV KV;generalize hW:w.setCells ri.b (k *sz t''+off) (a.eval y).cells.toList=W at qV
   have UV:∀j,j<n→W.cell? (iA ri.b (k *sz t''+off+j))=some ((a.eval y).cells.getD j undef):=λj hj=>by
    have:=World.cell?_setCells_in ri.b (a.eval y).cells.toList (k *sz t''+off) w (λj hj=>wV j (by simpa[hs,hn]using hj)) j (by simp[hs];omega);rw[hW]at this;refine this.trans ?_;rw[Array.getD_eq_getD_getElem?,Array.getElem?_eq_getElem (by omega)];simp
   have VV:∀j,(j<k *sz t''+off∨k *sz t''+off+n≤j)→W.cell? (iA ri.b j)=w.cell? (iA ri.b j):=λj hj=>by
    rw[←hW,World.cell?_setCells_out];intro _ _;simp only[iA,Array.length_toList,hs];omega
   have cW:=uZ.write IY (CN M5) hρ CV W (by rw[←hW];exact tO _ _ _ _) (by rw[←hW];exact aO _ _ _ _)
    (fun b hb=>by rw [← hW];exact GJ _ _ _ _ _ hb) (.arr t'' (l.set k z)) (fun SV=>by
     refine⟨by simpa using RX, .inr ⟨CV,by rw[←hW];exact uR _ _ ce,c1,c2,λj hj=>⟨by rw[←hW,World.frozen?_setCells];exact(c3 j hj).1,?_⟩,λi' BW j hj=>?_⟩⟩
     ·by_cases J9:k *sz t''+off≤j∧j<k *sz t''+off+n
      ·have:=UV (j - (k *sz t''+off)) (by omega);rw[show k *sz t''+off+(j - (k *sz t''+off))=j by omega]at this;rw[this];rfl
      ·rw[VV j (by omega)];exact(c3 j hj).2
     ·have hi2:i'<l.length:=by simpa using BW
      by_cases O5:i'=k
      ·subst O5;have GV:=LC t'' hz;obtain⟨gY,QX⟩:=MK (enc t'' y0) off vs' (by rw[WA];omega);have SX:j<(MB (enc t'' y0) off vs').length:=by rw[gY,WA];exact hj
       have PX:(l.set i' z)[i']=z:=by simp
       rw[PX,vE _ _ _ (by rw[WA];exact hj)];have t4:=(GV.get j SX (by rw[WA];exact hj));rw[QX j (by rw[WA];exact hj) SX]at t4;split at t4
       ·rename_i K9;refine⟨_,by have:=UV (j - off) (by omega);rw[show i' *sz t''+off+(j - off)=i' *sz t''+j by omega]at this;exact this,?_⟩;exact SV _ _ (VR.sub t4 (I9 (j - off) (by omega)).1)
       ·obtain⟨u,h5,h6⟩:=c4 i' hi2 j hj;rw[N5,vE _ _ _ (by rw[WA];exact hj)]at h6;exact⟨u,by rw[VV _ (by omega)];exact h5,SV _ _ (VR.sub t4 h6)⟩
      ·obtain⟨u,h5,h6⟩:=c4 i' hi2 j hj;have PX:(l.set k z)[i']=l[i']:=by rw[List.getElem_set_ne (Ne.symm O5)]
       rw[PX];refine⟨u,?_,SV _ _ h6⟩;rw[VV]
       ·exact h5
       ·rcases Nat.lt_or_gt_of_ne O5 with vV | BH
        ·left;have:(i'+1) *sz t''≤k *sz t'':=Nat.mul_le_mul_right _ vV;rw[Nat.add_mul,Nat.one_mul]at this;omega
        ·right;have:(k+1) *sz t''≤i' *sz t'':=Nat.mul_le_mul_right _ BH;rw[Nat.add_mul,Nat.one_mul]at this;omega)
   have GX:sJ m (vD st.h [r] (cellsOf (opd st.s y)))= .own∨sJ m (vD st.h [r] (cellsOf (opd st.s y)))= .tre∧m= .tre∧vD st.h [r] (cellsOf (opd st.s y))=true:=by
    cases vD st.h [r] (cellsOf (opd st.s y))<;>cases m<;>first | exact .inl rfl | exact .inr ⟨rfl,rfl,rfl⟩
   have dW:EA w0 outer own ρ (cA (eB st.h ids) r (some ⟨.arr t'' (l.set k z),sJ m (vD st.h [r] (cellsOf (opd st.s y)))⟩)) W∧
     ∀u d,VR w ρ (bA outer ρ (eB st.h ids)) u d→VR W ρ (bA outer ρ (cA (eB st.h ids) r (some ⟨.arr t'' (l.set k z),sJ m (vD st.h [r] (cellsOf (opd st.s y)))⟩))) u d:=by
    rcases GX with e | ⟨e,rfl,hb⟩
    ·rw[e];exact cW
    ·rw[e]
     have HZ:=cW.1.turn (m':= .tre) (tA _ _ _) rfl λuV=>by
      rw[GG]at uV⊢;obtain⟨gY,QX⟩:=MK (enc t'' y0) off vs' (by rw[WA,Q7];omega);rw[WA]at gY;refine pB.store hr.heap sV hρ CV vX DW lX hn.symm JV (LC t'' hz) hb (λj hj=>?_) (λc hc _=>by rw[←hW];exact GJ _ _ _ _ _ hc) UV VV λb NV=>(uV b NV).mono λq row' g1 g2=>?_
      ·rw[vE _ _ _ (by rw[gY];exact hj),QX j (by rw[WA];exact hj) (by rw[gY];exact hj)]
       by_cases EY:off≤j∧j<off+n
       ·rw[dif_pos EY,dif_pos ⟨EY.1,by omega⟩,vE _ _ _ (by omega)]
       ·rw[dif_neg EY,dif_neg (by omega),vE _ _ _ (by rw[WA];exact hj)]
      ·by_cases hq:q=r
       ·subst hq;exact⟨_,IY,rfl⟩
       ·rw[kA _ _ _ _ hq]at g1;exact⟨row',g1,g2⟩
     rw[GG]at HZ;exact⟨HZ.1,λu d hu=>HZ.2 _ _ (cW.2 u d hu)⟩
   have A2:AA C w0 outer own ρ {st with h:=cA (eB st.h ids) r (some ⟨.arr t'' (l.set k z),sJ m (vD st.h [r] (cellsOf (opd st.s y)))⟩)} a W:=
    hr.turn dW.1 λu d hu=>dW.2 u d (FY u d hu)
   refine zal (w':=W) ?_ ⟨ρ,(A2.put (.undef _) hk).1,λ_ _=>rfl,λ_ _ h=>h⟩;simp[execOp,ho,e1,Instr.storeAt,Instr.sureAddr,qV]
  ·cases hk
 ·cases hk
end
end Go.D
namespace Go.D
variable [aA]
section
variable {C:Cx} {w0:World} {outer:Nat→Prop} {own:Ow} {ρ:Nat→Option RI} {st st':St} {a:Act} {w:World} {h:Nat→Option gA}
omit [aA]in
def QK(k:IntKind)(n:Int):FB k (k.wrap n):=by
 cases k<;>simp only[FB,IntKind.wrap,IntKind.min,IntKind.max,IntKind.signed,IntKind.bits]<;>simp<;>(try split)<;>omega
variable {o:Oper} {i:Nat} (hr:AA C w0 outer own ρ st a w)
include hr
def zeC(x:Operand)(ho:o.op= .nilCheck x)(hk:OA C i o st some=some st'):yB C.P o a w (tB C w0 outer own i ρ st'):=by
 simp only[OA,ho]at hk;have hx:=hr.opd x
 have qV:∀v,a.eval x=v→(match v with | .pointer (some _)=>True | .func (.func _) _ _=>True | _=>False)→(execOp a.eval o).run C.P w= .ok (.value v) w:=λv e1 e2=>by
  unfold execOp;simp only[ho,e1];split at e2<;>first | rfl | cases e2
 split at hk
 ·rename_i r off HV;rw[HV]at hx;cases OV:a.eval x<;>rw[OV]at hx<;>cases hx
  exact bB (qV _ OV trivial) (hr.after (.bp _ _ _ (by assumption) (by assumption)) hk)
 ·rename_i r t k off HV;rw[HV]at hx;cases OV:a.eval x<;>rw[OV]at hx<;>cases hx
  exact bB (qV _ OV trivial) (hr.after (.ep _ _ _ _ _ (by assumption) (by assumption)) hk)
 ·rename_i cs off HV;rw[HV]at hx;cases OV:a.eval x<;>rw[OV]at hx<;>cases hx
  exact bB (qV _ OV trivial) (hr.after (.fp _ _ _ _ _ (by assumption) (by assumption) (by assumption) (by assumption)) hk)
 ·rename_i f cs HV;rw[HV]at hx;cases OV:a.eval x<;>rw[OV]at hx<;>cases hx
  exact bB (qV _ OV trivial) (hr.after (.fn _ _ _ (by assumption) (by assumption)) hk)
 ·cases hk
def zek(t:TypeId)(x:Operand)(f:Nat)(ho:o.op= .fieldAddr t x f)(hk:OA C i o st some=some st'):yB C.P o a w (tB C w0 outer own i ρ st'):=by
 simp only[OA,ho]at hk;split at hk
 ·cases hk
 rename_i off ft hf;unfold WI at hf;split at hf
 case h_2=>cases hf
 rename_i fs hu;split at hf
 case h_2=>cases hf
 rename_i fld KY;cases hf;split at hk
 case h_2=>cases hk
 rename_i n xV;have hx:=hr.opd x
 have qV:∀b p,a.eval x= .pointer (some (iA b p))→(execOp a.eval o).run C.P w= .ok (.value (.pointer (some (iA b (p+fld.offset))))) w:=λb p e1=>by
  simp[execOp,ho,e1,Instr.fieldAt,BD hu,KY,Instr.sureAddr,fieldPlace,YF xV,uD]
 split at hk
 ·rename_i r o1 HV;rw[HV]at hx;cases OV:a.eval x<;>rw[OV]at hx<;>cases hx
  rename_i ri h1 h2;exact bB (qV _ _ OV) (hr.after (.bp _ _ _ (by assumption) (by assumption)) hk)
 ·rename_i r t' k o1 HV;rw[HV]at hx;cases OV:a.eval x<;>rw[OV]at hx<;>cases hx
  rename_i ri h1 h2;refine bB (qV _ _ OV) (hr.after ?_ hk);rw[Nat.add_assoc];exact .ep _ _ _ _ _ (by assumption) (by assumption)
 ·rename_i cs o1 HV;rw[HV]at hx;cases OV:a.eval x<;>rw[OV]at hx<;>cases hx
  rename_i b p u h0 hb hu' IZ;refine bB (qV _ _ OV) (hr.after ?_ hk);rw[Nat.add_assoc];exact .fp _ _ _ _ _ (by assumption) (by assumption) (by assumption) (by assumption)
 ·cases hk
omit hr in
theorem zig{ag:Bool}{n off:Nat}{t:TypeId}{cs:List V}{vs:Array Value}{bad:Nat→Prop}{R:Type}{K:V→Option R}{r:R}(h1:MC C.P t=some ag)(h2:BC C.P t=some n)
  (hs:vs.size=cs.length) (hv:∀j (hj:j<cs.length),VR w ρ bad (vs.getD j undef) cs[j]) (hk:uE ag n cs off K=some r):
  ∃d v,K d=some r∧VR w ρ bad v d∧(part t vs off).run C.P w= .ok v w:=by
 unfold uE at hk;cases ag with
 | true=>
  simp only[iB]at hk;cases hb:Nat.ble (off+n) cs.length
  case false=>simp[hb]at hk
  simp only[hb,iB]at hk;have JV:=Nat.le_of_ble_eq_true hb;refine⟨_, .agg (vs.extract off (off+n)),hk,?_,?_⟩
  ·refine .agg _ _ (by simp;omega) λj hj=>?_;have EY:j<n:=by simp at hj;omega
   have he:((cs.drop off).take n)[j]=cs[off+j]'(by omega):=by simp
   rw[he];have:=hv (off+j) (by omega);rw[Array.getD_eq_getD_getElem?,Array.getElem?_eq_getElem (by omega)]at this;rw[Array.getD_eq_getD_getElem?,Array.getElem?_eq_getElem (by simp;omega)];simpa using this
  ·simp[part,JH h1,YF h2]
 | false=>
  simp only[aG]at hk;split at hk
  ·rename_i c r' hd
   have vV:off<cs.length:=by
    rcases Nat.lt_or_ge off cs.length with h | h
    ·exact h
    ·rw[List.drop_eq_nil_of_le h]at hd;cases hd
   have pZ:cs[off]=c:=by
    rw[List.drop_eq_getElem_cons vV]at hd;exact(List.cons.inj hd).1
   have h3:=hv off vV;refine⟨c,vs.getD off undef,hk,by rw[←pZ];exact h3,?_⟩;rw[Array.getD_eq_getD_getElem?,Array.getElem?_eq_getElem (by omega)];simp[part,JH h1,Array.getElem?_eq_getElem (show off<vs.size by omega)]
  ·cases hk
def zgH(t:TypeId)(x:Operand)(f:Nat)(ho:o.op= .field t x f)(hk:OA C i o st some=some st'):yB C.P o a w (tB C w0 outer own i ρ st'):=by
 simp only[OA,ho]at hk;have hx:=hr.opd x;split at hk
 case h_2=>cases hk
 rename_i off ft cs hf HV;rw[HV]at hx;unfold WI at hf;split at hf
 case h_2=>cases hf
 rename_i fs hu;split at hf
 case h_2=>cases hf
 rename_i fld KY;cases hf;split at hk
 case h_2=>cases hk
 rename_i ag n h1 h2;cases OV:a.eval x<;>rw[OV]at hx<;>cases hx
 rename_i vs hs hv;obtain⟨d,v,h3,h4,h5⟩:=zig (C:=C) (w:=w) h1 h2 hs hv hk;refine bB (v:=v) (w':=w) ?_ (hr.after h4 h3);simp[execOp,ho,OV,Instr.field,BD hu,KY,asAgg,h5]
def ze2(x:Operand)(ix:Nat)(ho:o.op= .extract x ix)(hk:OA C i o st some=some st'):yB C.P o a w (tB C w0 outer own i ρ st'):=by
 simp only[OA,ho]at hk;have hx:=hr.opd x;split at hk
 case h_2=>cases hk
 rename_i cs HV;rw[HV]at hx;split at hk
 case h_2=>cases hk
 rename_i c r' hd
 have vV:ix<cs.length:=by
  rcases Nat.lt_or_ge ix cs.length with h | h
  ·exact h
  ·rw[List.drop_eq_nil_of_le h]at hd;cases hd
 have pZ:cs[ix]=c:=by
  rw[List.drop_eq_getElem_cons vV]at hd;exact(List.cons.inj hd).1
 cases OV:a.eval x<;>rw[OV]at hx<;>cases hx
 rename_i vs hs hv;have h3:=hv ix vV;rw[pZ]at h3;refine bB (v:=vs.getD ix undef) (w':=w) ?_ (hr.after h3 hk);rw[Array.getD_eq_getD_getElem?,Array.getElem?_eq_getElem (by omega)];simp[execOp,ho,OV,Instr.extract,Array.getElem?_eq_getElem (show ix<vs.size by omega)]
def zil(op:UnOp)(t:TypeId)(x:Operand)(ho:o.op= .unOp op t x)(hk:OA C i o st some=some st'):yB C.P o a w (tB C w0 outer own i ρ st'):=by
 simp only[OA,ho]at hk;have hx:=hr.opd x;split at hk
 case h_2=>cases hk
 rename_i d hd;unfold unV at hd;split at hd
 ·rename_i k n HV;rw[HV]at hx;cases op<;>cases hd
  cases OV:a.eval x<;>rw[OV]at hx<;>cases hx
  refine bB (v:= .int k (k.wrap (0 - n))) (w':=w) ?_ (hr.after (.int _ _ (QK _ _)) hk);simp[execOp,ho,OV,Op.unary,Op.intArith]
 ·rename_i b HV;rw[HV]at hx;cases op<;>cases hd
  cases OV:a.eval x<;>rw[OV]at hx<;>cases hx
  refine bB (v:= .bool (!b)) (w':=w) ?_ (hr.after (.bool _) hk);simp[execOp,ho,OV,Op.unary]
 ·cases hd
end
end Go.D

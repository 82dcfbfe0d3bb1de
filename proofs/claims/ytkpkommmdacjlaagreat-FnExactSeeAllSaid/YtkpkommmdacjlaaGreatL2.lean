/-
 A plain semantics of the code: values without memory, what the call itself makes kept in rows. It is a function, so that the kernel can run it.
-/
import Derived.Test.YtkpkommmdacjlaaGreatL1
import Derived.Calls
import Derived.Deep.AppendSrc
set_option linter.all false
namespace Go.D
open Option renaming bind→ob
def iG(b:Bool):Bool:=b
def gd{α:Type _}(c:Bool)(a b:α):α:=match iG c with
 | true=>a
 | false=>b
def bnd{α β:Type _}(x:Option α)(f:α→Option β):Option β:=gd true (match x with
 | some a=>f a
 | none=>none) none
@[simp] theorem gB{α:Type _}(a b:α):gd true a b=a:=rfl
@[simp] theorem OE{α:Type _}(a b:α):gd false a b=b:=rfl
@[simp] theorem fE{α β:Type _}(x:Option α)(f:α→Option β):bnd x f=ob x f:=by cases x<;>rfl
def cA{α:Type}(f:Nat→α)(i:Nat)(v:α):Nat→α:=λj=>bif Nat.beq j i then v else f j
inductive aB where
 | own | ro | lock | tre | tlk
inductive KC where
 | box (cs:List V)
 | arr (t:TN) (l:List (El t))
structure fA where
 c:KC
 m:aB
structure St where
 s:Nat→V
 h:Nat→Option fA
 nx:Nat
inductive GA where
 | plain
 | ptr (own:List Nat)
 | mv (own:List Nat)
 | ms
structure KB where
 ks:List GA
 A:Type
 R:Type
 dA:List V→Option A
 F:A→Option R
 eR:R→List V
 shape:List (Bool×Nat)
 own:List Nat
 pb:Bool
structure Gl where
 K:Nat
 p:World→Prop
 stay:∀w w':World,(∀b,b<K→w'.heap[b]?=w.heap[b]?)→p w→p w'
 lt:∀w,p w→K≤w.heap.size
def CB:Gl:=⟨0,λ_=>True,λ_ _ _ h=>h,λ_ _=>Nat.zero_le _⟩
structure xJ[aA](g:Gl)(ow:Nat→Prop)(w:World):Prop where
 p:g.p w
 own:∀b,b<g.K→¬ow b
 base:aA.base≤w.heap.size
 low:∀b,b<aA.base→¬ow b
structure Ow where
 o:Nat→Prop
 k:Nat→Prop
 ok:∀b,o b→k b
instance:CoeFun Ow λ_=>Nat→Prop:=⟨Ow.o⟩
instance:Coe Ow (Nat→Prop):=⟨Ow.o⟩
def Ow.of(o:Nat→Prop):Ow:=⟨o,o,λ_ h=>h⟩
structure Cx where
 P:Program
 tn:TypeId→Option TN
 Φ:Nat→Option KB
 nt:Nat
 g:Gl
structure EC[aA](C:Cx):Prop where
 mixed:C.P.follows .mixedOrders=true
 ok:∀e t,C.tn e=some t→∃i z,C.P.info? e=some i∧i.size=sz t∧i.bytes≤1024∧i.zero=some z∧z.cells.size=sz t
 tys:∀e t,C.tn e=some t→aA.tn e=some t
def nA:Nat:=2^36
def eG:Value→V
 | .bool b=> .bool b
 | .int k n=>bif decide (k.min≤n)&&decide (n≤k.max)then .int k n else .undef
 | .string s=>bif Nat.ble s.data.toList.length 1000000 then .str s.data.toList else .undef
 | .slice none 0 0=> .nil
 | .nilIface=> .nili
 | _=> .undef
def opd(s:Nat→V):Operand→V
 | .tmp t=>s t
 | .const v=>eG v
 | .func f=> .fn f []
 | .global _=> .undef
section
variable (C:Cx) {R:Type}
def AA(dst:Option Nat)(st:St)(v:V)(K:St→Option R):Option R:=
 match dst with
 | none=>K st
 | some d=>gd (Nat.blt d C.nt) (K {st with s:=cA st.s d v}) none
def VC(dst:Option Nat)(st:St)(r:Nat)(c:KC)(v:V)(K:St→Option R)(m:aB:= .own):Option R:=
 AA C dst {st with h:=cA st.h r (some ⟨c,m⟩)} v K
def cellsOf:V→List V
 | .agg cs=>cs
 | v=>[v]
def FD(cs:List V):Bool:=cs.all V.leaf
def FB(cs:List V)(off:Nat)(vs:List V):List V:=cs.take off++vs++cs.drop (off+vs.length)
def dB(h:Nat→Option fA)(ids:List Nat):Nat→Option fA:=
 match ids with
 | []=>h
 | r :: rs=>dB (cA h r ((h r).map λrow=>{row with m:= .ro})) rs
def aB.isLock:aB→Bool
 | .lock=>true
 | .tlk=>true
 | _=>false
def aB.isOwn:aB→Bool
 | .own=>true
 | .tre=>true
 | _=>false
def aB.isTre:aB→Bool
 | .tre=>true
 | .tlk=>true
 | _=>false
def aB.locked:aB→aB
 | .own=> .lock
 | .tre=> .tlk
 | m=>m
def TN.flat:TN→Bool
 | .byte | .int | .bool | .str | .Addr | .Credit | .Timer | .Form=>true
 | _=>false
def noTre(ow:List Nat):Bool:=ow.all λp=>Nat.ble p 255
def qD(own:List Nat)(p:Nat):Bool:=own.any (Nat.beq (p+256))
def zC(own:List Nat)(p:Nat):aB:=bif qD own p then .tre else .own
def WC(tr:Bool):aB:=bif tr then .tre else .own
def rH(m:aB)(b:Bool):aB:=match m with
 | .tre=>WC b
 | _=> .own
def xB(tr:Bool)(t:TN):aB→Bool
 | .own=>bif tr then t.flat else true
 | .tre=>true
 | _=>false
def UC(h:Nat→Option fA):List Nat→List V→Bool
 | _,[]=>true
 | seen,v :: vs=>match v with
  | .ow r=>match h r with
   | some ⟨.arr t _,m⟩=>bif xB true t m then bif seen.any (Nat.beq r)then false else UC h (r :: seen) vs else false
   | _=>false
  | .nil | .int _ _ | .bool _ | .str _=>UC h seen vs
  | _=>false
def TN.beq(s t:TN):Bool:=Nat.beq s.ctorIdx t.ctorIdx
def lD:Nat→V→Bool
 | 0,_=>false
 | n+1, .fn _ cs=>cs.all (lD n)
 | n+1, .fp cs _=>cs.all (lD n)
 | _+1, .bool _ | _+1, .int _ _ | _+1, .str _ | _+1, .nil | _+1, .sl _ _ | _+1, .nili | _+1, .ifc _=>true
 | _+1,_=>false
def XB(h:Nat→Option fA):V→Option (V×List Nat)
 | .ow r=>match h r with
  | some ⟨.arr t l,m⟩=>bif m.isLock then none else some (.sl t l,[r])
  | _=>none
 | .ov r t off len=>match h r with
  | some ⟨.arr t' l,m⟩=>bif m.isLock then none else if e:t'=t then some (.sl t (((TN.cast e l).drop off).take len),[r])else none
  | _=>none
 | v=>bif lD 8 v then some (v,[])else none
def HC(h:Nat→Option fA):List V→Option (List V×List Nat)
 | []=>some ([],[])
 | v :: vs=>match XB h v with
  | none=>none
  | some (v',i)=>match HC h vs with
   | none=>none
   | some (vs',j)=>some (v' :: vs',i++j)
def sD(h:Nat→Option fA):V→Option (V×List Nat)
 | .agg cs=>match HC h cs with
  | some (cs',i)=>some (.agg cs',i)
  | none=>none
 | .bp r off=>match h r with
  | some ⟨.box cs,m⟩=>bif m.isLock||cs.isEmpty then none else match HC h cs with
   | some (cs',i)=>some (.fp cs' off,r :: i)
   | none=>none
  | _=>none
 | v=>XB h v
def eE(h:Nat→Option fA):List V→Option (List V×List Nat)
 | []=>some ([],[])
 | v :: vs=>match sD h v with
  | none=>none
  | some (v',i)=>match eE h vs with
   | none=>none
   | some (vs',j)=>some (v' :: vs',i++j)
def xC(P:Program)(t:TypeId):Option Bool:=
 match P.underlying t with
 | some (.struct _) | some (.array _ _)=>some true
 | some _=>some false
 | none=>none
def oC(P:Program)(t:TypeId):Option Nat:=(P.info? t).map (·.size)
def CD(agg:Bool)(n:Nat)(cs:List V)(off:Nat)(K:V→Option R):Option R:=
 gd agg (gd (Nat.ble (off+n) cs.length) (K (.agg ((cs.drop off).take n))) none) (match cs.drop off with
  | c :: _=>K c
  | []=>none)
def NA{α:Type}(l:List α)(i:Int):Option α:=if 0≤i then l[i.toNat]? else none
def IG{α:Type}(l:List α)(i:Nat)(K:α→Option R):Option R:=ob l[i]? K
def bH(P:Program)(t:TypeId)(f:Nat):Option (Nat×TypeId):=
 match P.underlying t with
 | some (.struct fs)=>match fs[f]? with
  | some x=>some (x.offset,x.type)
  | none=>none
 | _=>none
def jH(P:Program)(t:TypeId):Option TypeId:=
 match P.underlying t with
 | some (.slice e)=>some e
 | _=>none
def DM:TypeDesc→V→Bool
 | .string, .str _=>true
 | .slice _, .sl _ _ | .slice _, .nil | .slice _, .ow _ | .slice _, .ov _ _ _ _=>true
 | _,_=>false
def xG(h:Nat→Option fA):V→Option Nat
 | .sl _ l=>some l.length
 | .nil=>some 0
 | .str s=>some s.length
 | .ow r=>match h r with
  | some ⟨.arr _ l,_⟩=>some l.length
  | _=>none
 | .ov _ _ _ len=>some len
 | _=>none
def iJ(h:Nat→Option fA)(t:TN):V→Option (List (El t))
 | .sl t' l=>if e:t'=t then some (TN.cast e l)else none
 | .nil=>some []
 | .ow r=>match h r with
  | some ⟨.arr t' l,_⟩=>if e:t'=t then some (TN.cast e l)else none
  | _=>none
 | .ov r t0 off len=>match h r with
  | some ⟨.arr t' l,_⟩=>bif decide (t0=t)then if e:t'=t then some (((TN.cast e l).drop off).take len)else none else none
  | _=>none
 | _=>none
def NF(h:Nat→Option fA)(t:TN):V→Option (List (El t)×Option Nat)
 | .nil=>some ([],none)
 | .ow r=>match h r with
  | some ⟨.arr t' l,m⟩=>bif m.isOwn then if e:t'=t then some (TN.cast e l,some r)else none else none
  | _=>none
 | .ov r _ 0 len=>match h r with
  | some ⟨.arr t' l,m⟩=>bif m.isOwn then if e:t'=t then some ((TN.cast e l).take len,some r)else none else none
  | _=>none
 | _=>none
def nD(h:Nat→Option fA):Option Nat→Nat→Option fA
 | none=>h
 | some r=>cA h r none
def FE(h:Nat→Option fA)(x y:V):Bool:=match y with
 | .ow r2=>match h r2 with
  | some ⟨_, .tre⟩=>match x with
   | .nil=>true
   | .ow r=>match h r with
    | some ⟨_, .tre⟩=>bif Nat.beq r r2 then false else true
    | _=>false
   | _=>false
  | _=>false
 | _=>false
def OG(b:Bool)(h:Nat→Option fA)(y:V):Nat→Option fA:=bif b then match y with
 | .ow r2=>cA h r2 ((h r2).map λrow=>{row with m:= .own})
 | _=>h
else h
def vC:List Bool→List V→List V→Option Bool
 | [],[],[]=>some true
 | false :: ks, .int j a :: xs, .int k b :: ys=>bif decide (j=k)then(vC ks xs ys).map (λr=>bif a==b then r else false)else none
 | true :: ks, .bool a :: xs, .bool b :: ys=>(vC ks xs ys).map (λr=>bif a==b then r else false)
 | _,_,_=>none
def IP(op:BinOp):V→V→Option V
 | .int k a, .int k' b=>
  match op with
  | .shl=>if b<0 then none else some (.int k (k.wrap (a *2^(min b.toNat k.bits))))
  | .shr=>if b<0 then none else some (.int k (a.fdiv (2^(min b.toNat k.bits))))
  | .add=>bif decide (k=k')then some (.int k (k.wrap (a+b)))else none
  | .sub=>bif decide (k=k')then some (.int k (k.wrap (a - b)))else none
  | .mul=>bif decide (k=k')then some (.int k (k.wrap (a *b)))else none
  | .and=>bif decide (k=k')then some (.int k (k.wrap (BitVec.ofInt k.bits a&&&BitVec.ofInt k.bits b).toNat))else none
  | .or=>bif decide (k=k')then some (.int k (k.wrap (BitVec.ofInt k.bits a|||BitVec.ofInt k.bits b).toNat))else none
  | .xor=>bif decide (k=k')then some (.int k (k.wrap (BitVec.ofInt k.bits a^^^BitVec.ofInt k.bits b).toNat))else none
  | .andNot=>bif decide (k=k')then some (.int k (k.wrap (BitVec.ofInt k.bits a&&& ~~~ BitVec.ofInt k.bits b).toNat))else none
  | .eql=>bif decide (k=k')then some (.bool (a==b))else none
  | .neq=>bif decide (k=k')then some (.bool (a !=b))else none
  | .lss=>bif decide (k=k')then some (.bool (decide (a<b)))else none
  | .leq=>bif decide (k=k')then some (.bool (decide (a≤b)))else none
  | .gtr=>bif decide (k=k')then some (.bool (decide (a>b)))else none
  | .geq=>bif decide (k=k')then some (.bool (decide (a≥b)))else none
  | _=>none
 | .str a, .str b=>
  match op with
  | .eql=>some (.bool (a==b))
  | .neq=>some (.bool (!(a==b)))
  | _=>none
 | _,_=>none
def nF(P:Program):Nat→List Field→Option (List Bool)
 | _,[]=>some []
 | k, f :: fs => bif f.name != "_" && Nat.beq f.offset k then
   match P.underlying f.type,nF P (k+1) fs with
   | some .bool,some ks=>some (true :: ks)
   | some (.int _),some ks=>some (false :: ks)
   | _,_=>none
  else none
def lG(P:Program):Nat→List Field→Option (List Bool)
 | _,[]=>some []
 | k, f :: fs => bif f.name != "_" && Nat.beq f.offset k then
   match P.underlying f.type with
   | some .bool=>match lG P (k+1) fs with
    | some ks=>some (true :: ks)
    | none=>none
   | some (.int _)=>match lG P (k+1) fs with
    | some ks=>some (false :: ks)
    | none=>none
   | some (.struct gs)=>match nF P 0 gs.toList with
    | some k1=>bif !(P.stoodInHeld f.type)&&decide (oC P f.type=some k1.length)then match lG P (k+k1.length) fs with
      | some ks=>some (k1++ks)
      | none=>none
     else none
    | none=>none
   | _=>none
  else none
def IQ(P:Program)(t:TypeId):Option (List Bool):=
 match P.underlying t with
 | some (.struct fs)=>bif !(P.stoodInHeld t)&&!(P.eqGuardType P.depth t)then lG P 0 fs.toList else none
 | _=>none
def HG(op:BinOp)(x y:V)(K:V→Option R):Option R:=
 match op,x,y with
 | .quo, .int k a, .int k' b=>bif decide (k=k')then(bif b==0 then none else K (.int k (k.wrap (a.tdiv b))))else none
 | .rem, .int k a, .int k' b=>bif decide (k=k')then(bif b==0 then none else K (.int k (a.tmod b)))else none
 | .shl, .int k a, .int _ b=>bif decide (b<0)then none else K (.int k (k.wrap (a *2^(min b.toNat k.bits))))
 | .shr, .int k a, .int _ b=>bif decide (b<0)then none else K (.int k (a.fdiv (2^(min b.toNat k.bits))))
 | .add, .str a, .str b=>bif decide (a.length+b.length≤nA)then K (.str (a++b))else none
 | op,x,y=>match IP op x y with
  | some v=>K v
  | none=>none
def tU(op:UnOp):V→Option V
 | .int k n=>match op with
  | .neg=>some (.int k (k.wrap (0 - n)))
  | _=>none
 | .bool b=>match op with
  | .not=>some (.bool (!b))
  | _=>none
 | _=>none
def GK(t:TN):List (List V)→Option (List (El t))
 | []=>some []
 | cs :: r=>match vB t cs with
  | none=>none
  | some a=>match GK t r with
   | none=>none
   | some l=>some (a :: l)
def cC(own:List Nat):Nat→List V→(Nat→Option fA)→Option (List V×(Nat→Option fA))
 | _,[],h=>some ([],h)
 | p,c :: cs,h=>
  bif own.any (Nat.beq p)then
   match c with
   | .ow r=>match h r with
    | some ⟨.arr t l,m⟩=>bif xB (qD own p) t m then match cC own (p+1) cs (cA h r none)with
      | some (cs',h')=>some (.sl t l :: cs',h')
      | none=>none
     else none
    | _=>none
   | .nil=>match cC own (p+1) cs h with
    | some (cs',h')=>some (.nil :: cs',h')
    | none=>none
   | .ov r t 0 len=>match h r with
    | some ⟨.arr t' l,m⟩=>bif xB (qD own p) t' m then match decide (t'=t),cC own (p+1) cs (cA h r none)with
      | true,some (cs',h')=>some (.sl t' (l.take len) :: cs',h')
      | _,_=>none
     else none
    | _=>none
   | _=>none
  else match XB h c with
   | some (c',ids)=>match cC own (p+1) cs (dB h ids)with
    | some (cs',h')=>some (c' :: cs',h')
    | none=>none
   | none=>none
def wA(own:List Nat)(base:Nat):Nat→List V→List V
 | _,[]=>[]
 | p, .sl t l :: vs=>(bif own.any (Nat.beq p)then .ow (base+p)else .sl t l) :: wA own base (p+1) vs
 | p,v :: vs=>v :: wA own base (p+1) vs
def FA(own:List Nat)(base:Nat)(h:Nat→Option fA):Nat→List V→Nat→Option fA
 | _,[]=>h
 | p, .sl t l :: vs=>bif own.any (Nat.beq p)then cA (FA own base h (p+1) vs) (base+p) (some ⟨.arr t l,zC own p⟩)else FA own base h (p+1) vs
 | p,_ :: vs=>FA own base h (p+1) vs
def OC:List (Bool×Nat)→List V→List V
 | [],_=>[]
 | (agg,n) :: sh,vs=>(bif agg then .agg (vs.take n)else match vs with | v :: _=>v | []=> .undef) :: OC sh (vs.drop n)
def BE(sh:List (Bool×Nat))(vs:List V):V:=
 match OC sh vs with
 | [v]=>v
 | l=> .tup l
def nK(s:Nat→V):Nat→List (Nat×Operand)→Option (List V)
 | _,[]=>some []
 | i,(j,x) :: r=>bif Nat.beq i j then match nK s (i+1) r with
   | none=>none
   | some vs=>some (opd s x :: vs)
  else none
def SS(P:Program)(t:TypeId):Option (List (Nat×Nat)):=
 match P.underlying t with
 | some (.struct fs)=>fs.toList.mapM λf=>(P.info? f.type).map λi=>(f.offset,i.size)
 | some (.array n e)=>match P.info? e with
  | some i=>bif Nat.ble n 128 then some ((List.range n).map λk=>(k *i.size,i.size))else none
  | none=>none
 | _=>none
def yK(pl:List (Nat×Nat))(s:Nat→V)(cs:List V):List (Nat×Operand)→Option (List V)
 | []=>some cs
 | (f,x) :: r=>match pl[f]? with
  | none=>none
  | some (off,n)=>
   let vs:=cellsOf (opd s x)
   bif Nat.beq n vs.length&&FD vs&&Nat.ble (off+n) cs.length then yK pl s (FB cs off vs) r else none
def zeroCells(P:Program)(t:TypeId):Option (List V):=
 match(P.info? t).bind (·.zero)with
 | some z=>let cs:=z.cells.toList.map eG;bif FD cs then some cs else none
 | none=>none
def PO(P:Program)(t:TypeId):Option (List V):=((P.info? t).bind (·.zero)).map λz=>z.cells.toList.map eG
def TE(f:Nat→Option R)(i:Int):Nat→Nat→Option R
 | _,0=>none
 | k,n+1=>bif i==(k:Int)then f k else TE f i (k+1) n
def nJ(d:Int):Option V→Option Int
 | none=>some d
 | some (.int _ n)=>some n
 | _=>none
def oH(d:TypeDesc)(tnok:TypeId→TN→Bool)(h:Nat→Option fA)(x:V)(lo hi:Option V)(K:V→Option R):Option R:=
 match xG h x with
 | none=>none
 | some len=>
  match nJ 0 lo,nJ (len:Int) hi with
  | some a,some b=>
   bif decide (0≤a)&&decide (a≤b)&&decide (b≤(len:Int))then
    match d,x with
    | .slice e, .sl t l=>gd (tnok e t) (K (.sl t ((l.drop a.toNat).take (b - a).toNat))) none
    | .string, .str s=>K (.str ((s.drop a.toNat).take (b - a).toNat))
    | .slice e, .ow r=>match h r with
     | some ⟨.arr t _,_⟩=>gd (tnok e t) (K (.ov r t a.toNat (b - a).toNat)) none
     | _=>none
    | .slice e, .ov r t off _=>gd (tnok e t) (K (.ov r t (off+a.toNat) (b - a).toNat)) none
    | _,_=>none
   else none
  | _,_=>none
def mE(e:TypeId)(t:TN):Bool:=match C.tn e with
 | some t'=>decide (t'=t)
 | none=>false
def iB:List GA→List V→(Nat→Option fA)→Option (List V×(Nat→Option fA)×List Nat)
 | [],[],h=>some ([],h,[])
 | .plain :: ks,v :: vs,h=>match sD h v with
  | none=>none
  | some (v',ids)=>match iB ks vs (dB h ids)with
   | none=>none
   | some (as,h',bs)=>some (v' :: as,h',bs)
 | .ptr own :: ks, .bp r 0 :: vs,h=>match h r with
  | some ⟨.box cs, .own⟩=>bif Nat.ble cs.length 127 then match cC own 0 cs (cA h r none)with
   | none=>none
   | some (cs',h')=>match iB ks vs h' with
    | none=>none
    | some (as,C2,bs)=>some (.agg cs' :: as,C2,r :: bs)
   else none
  | _=>none
 | .mv own :: ks, .agg cs :: vs,h=>bif Nat.ble cs.length 127 then match cC own 0 cs h with
   | none=>none
   | some (cs',h')=>match iB ks vs h' with
    | none=>none
    | some (as,C2,bs)=>some (.agg cs' :: as,C2,bs)
  else none
 | .ms :: ks,v :: vs,h=>match cC [0] 0 [v] h with
  | some ([v'],h')=>match iB ks vs h' with
   | none=>none
   | some (as,C2,bs)=>some (v' :: as,C2,bs)
  | _=>none
 | _,_,_=>none
def GA.noTre:GA→Bool
 | .ptr ow | .mv ow=>D.noTre ow
 | _=>true
def uN(B:Nat):V→V
 | .sl _ _=> .ow B
 | v=>v
def lK(B:Nat)(v:V):wA [0] B 0 [v]=[uN B v]:=by cases v<;>rfl
def nH(h:Nat→Option fA):Nat→Option fA:=λr=>match h r with
 | some ⟨c, .lock⟩=>some ⟨c, .own⟩
 | some ⟨c, .tlk⟩=>some ⟨c, .tre⟩
 | x=>x
def SA:List GA→List V→List Nat→List V→(Nat→Option fA)→Nat→Option fA
 | .plain :: ks,_ :: as,bs,vs,h=>SA ks as bs vs h
 | .mv _ :: ks,_ :: as,bs,vs,h=>SA ks as bs vs h
 | .ms :: ks,_ :: as,bs,vs,h=>SA ks as bs vs h
 | .ptr _ :: ks, .agg cs :: as,b :: bs,vs,h=>cA (SA ks as bs (vs.drop cs.length) h) b (some ⟨.box (vs.take cs.length), .own⟩)
 | _,_,_,_,h=>h
def KF(sh:List (Bool×Nat)):Nat:=(sh.map (·.2)).sum
def FP(f:Nat)(as:List V):Nat:=match as with
 | [_, .fn g _]=>f+(g+1) *1048576
 | _=>f
def zbm(f:Nat)(as:List V)(h:f<1048576):FP f as % 1048576=f:=by
 unfold FP;split
 ·rw[Nat.add_mul_mod_self_right];exact Nat.mod_eq_of_lt h
 ·exact Nat.mod_eq_of_lt h
def ZD(ci:KB)(as:List V)(bs:List Nat)(i:Nat)(rs:List V)(h:Nat→Option fA):Nat→Option fA:=
 bif ci.pb then cA h i (some ⟨.box rs, .own⟩)else SA ci.ks as bs ((wA ci.own i 0 rs).drop (KF ci.shape)) (FA ci.own i h 0 rs)
def AE(ci:KB)(i:Nat)(rs:List V):V:=bif ci.pb then .bp i 0 else BE ci.shape (wA ci.own i 0 rs)
def rG:V→Bool
 | .int _ _ | .bool _ | .str _=>true
 | _=>false
def GA.isPlain:GA→Bool
 | .plain=>true
 | _=>false
def HK(own:List Nat):Nat→List V→Bool
 | _,[]=>true
 | p, .sl t _ :: vs=>own.any (Nat.beq p)&&t.flat&&HK own (p+1) vs
 | p,v :: vs=>rG v&&HK own (p+1) vs
def EG(ci:KB)(rs:List V):Bool:=!ci.pb&&ci.ks.all GA.isPlain&&HK ci.own 0 rs
def TN.rank:TN→Nat
 | .byte | .int | .bool | .str=>0
 | .Cand | .Op=>1
 | .Tab | .Server | .World=>4
 | _=>3
def NC(own:List Nat):Nat→List V→Option Nat
 | _,[]=>some 0
 | p, .sl t _ :: vs=>match NC own (p+1) vs with
  | some m=>some (Nat.max (bif own.any (Nat.beq p)then t.rank else t.rank+1) m)
  | none=>none
 | p, .nil :: vs=>NC own (p+1) vs
 | p,v :: vs=>bif rG v then NC own (p+1) vs else none
def bG(m:Nat)(h h':Nat→Option fA):Nat→Option fA:=λr=>match h r,h' r with
 | some ⟨.arr t l, .own⟩,some ⟨c, .ro⟩=>bif Nat.ble m t.rank then some ⟨.arr t l, .own⟩else some ⟨c, .ro⟩
 | _,x=>x
def WF(ci:KB)(rs:List V)(h h':Nat→Option fA):Nat→Option fA:=
 bif EG ci rs then h else bif ci.pb then h' else match NC ci.own 0 rs with
  | some m=>bG m h h'
  | none=>h'
def zF(i:Nat)(dst:Option Nat)(st:St)(f:Nat)(as:List V)(K:St→Option R):Option R:=
 match bif Nat.blt f 1048576 then C.Φ (FP f as)else none with
 | none=>none
 | some ci=>match iB ci.ks as st.h with
  | none=>match iB ci.ks as (nH st.h)with
   | none=>none
   | some (as',_,bs)=>
    bnd (ci.dA as') λa=>ob (ci.F a) λr=>
     gd (Nat.ble (ci.eR r).length 128&&EG ci (ci.eR r)) (
      AA C dst {st with h:=ZD ci as' bs i (ci.eR r) st.h} (AE ci i (ci.eR r)) K) none
  | some (as',h',bs)=>
   bnd (ci.dA as') λa=>ob (ci.F a) λr=>
    gd (Nat.ble (ci.eR r).length 128) (
     AA C dst {st with h:=ZD ci as' bs i (ci.eR r) (WF ci (ci.eR r) st.h h')} (AE ci i (ci.eR r)) K) none
def OA (i:Nat) (o:Oper) (st:St) (K:St→Option R):Option R:=
 match o.op with
 | .move x | .assign x=>AA C o.dst st (opd st.s x) K
 | .pick c a b=>match opd st.s c with
  | .bool t=>match opd st.s a,opd st.s b with
   | .bool x, .bool y=>AA C o.dst st (.bool (cond t x y)) K
   | x,y=>AA C o.dst st (cond t x y) K
  | _=>none
 | .alloc e=>match PO C.P e with
  | some cs=>VC C o.dst st i (.box cs) (.bp i 0) K
  | none=>none
 | .box e x=>
  let cs:=cellsOf (opd st.s x)
  gd (FD cs) (VC C o.dst st i (.box cs) (.bp i 0) K) none
 | .build t parts=>match zeroCells C.P t,SS C.P t with
  | some cs,some pl=>bnd (yK pl st.s cs parts.toList) λcs'=>AA C o.dst st (.agg cs') K
  | _,_=>none
 | .buildSlice t len parts=>match(jH C.P t).bind C.tn with
  | none=>none
  | some tn=>match nK st.s 0 parts.toList with
   | none=>none
   | some vs=>gd (Nat.beq vs.length len&&Nat.ble len 1000) (
     match eE st.h vs with
     | none=>none
     | some (vs',ids)=>bnd (GK tn (vs'.map cellsOf)) λl=>
       VC C o.dst {st with h:=dB st.h ids} i (.arr tn l) (.ow i) K (WC (!tn.flat&&UC st.h [] (vs.flatMap cellsOf)))) none
 | .load t a=>match xC C.P t,oC C.P t with
  | some ag,some n=>match opd st.s a with
   | .bp r off=>match st.h r with
    | some ⟨.box cs,_⟩=>CD ag n cs off λv=>AA C o.dst st v K
    | _=>none
   | .ep r t' k off=>match st.h r with
    | some ⟨.arr t'' l,_⟩=>gd (decide (t''=t')) (IG l k λx=>CD ag n (enc t'' x) off λv=>AA C o.dst st v K) none
    | _=>none
   | .fp cs off=>CD ag n cs off λv=>AA C o.dst st v K
   | _=>none
  | _,_=>none
 | .store t a x=>match oC C.P t with
  | none=>none
  | some n=>
   let vs:=cellsOf (opd st.s x)
   gd (Nat.beq n vs.length&&FD vs) (
    match opd st.s a with
    | .bp r off=>match st.h r with
     | some ⟨.box cs, .own⟩=>gd (Nat.ble (off+n) cs.length) (AA C o.dst {st with h:=cA st.h r (some ⟨.box (FB cs off vs), .own⟩)} .undef K) none
     | _=>none
    | .ep r t' k off=>match st.h r with
     | some ⟨.arr t'' l,m⟩=>gd (m.isOwn&&decide (t''=t')) (
       match HC st.h vs with
       | none=>none
       | some (vs',ids)=>gd (ids.any (Nat.beq r)) none (
        IG l k λx=>gd (Nat.ble (off+n) (sz t'')) (
         bnd (vB t'' (FB (enc t'' x) off vs')) λy=>
          AA C o.dst {st with h:=cA (dB st.h ids) r (some ⟨.arr t'' (l.set k y),rH m (UC st.h [r] vs)⟩)} .undef K) none)) none
     | _=>none
    | _=>none) none
 | .nilCheck x=>match opd st.s x with
  | .bp r off=>AA C o.dst st (.bp r off) K
  | .ep r t k off=>AA C o.dst st (.ep r t k off) K
  | .fp cs off=>AA C o.dst st (.fp cs off) K
  | .fn f cs=>AA C o.dst st (.fn f cs) K
  | _=>none
 | .binOp op t x y _=>match opd st.s x,opd st.s y with
  | .agg xs, .agg ys=>match IQ C.P t with
   | some ks=>match vC ks xs ys with
    | some b=>match op with
     | .eql=>AA C o.dst st (.bool b) K
     | .neq=>AA C o.dst st (.bool (!b)) K
     | _=>none
    | none=>none
   | none=>none
  | .bool p, .bool q=>match C.P.underlying t with
   | some .bool=>match op with
    | .eql=>AA C o.dst st (.bool (p==q)) K
    | .neq=>AA C o.dst st (.bool (!(p==q))) K
    | _=>none
   | _=>none
  | .ifc b, .nili=>match y,C.P.underlying t with
   | .const _,some (.interface _)=>match op with
    | .eql=>AA C o.dst st (.bool b) K
    | .neq=>AA C o.dst st (.bool (!b)) K
    | _=>none
   | _,_=>none
  | vx,vy=>HG op vx vy λv=>AA C o.dst st v K
 | .unOp op _ x=>match tU op (opd st.s x)with
  | some v=>AA C o.dst st v K
  | none=>none
 | .convert src d x=>match C.P.underlying src,C.P.underlying d,opd st.s x with
  | some (.int _),some (.int k), .int _ n=>AA C o.dst st (.int k (k.wrap n)) K
  | some .string,some (.slice e), .str s=>match C.tn e,C.P.underlying e with
   | some .byte,some (.int .u8)=>bif Nat.ble s.length nA then VC C o.dst st i (.arr .byte s) (.ow i) K else none
   | _,_=>none
  | some (.slice e),some .string,v=>match C.P.underlying e,iJ st.h .byte v with
   | some (.int .u8),some l=>bif Nat.ble l.length nA then AA C o.dst st (.str l) K else none
   | _,_=>none
  | some (.slice _),some (.slice e), .ow r=>match Nat.beq src d,C.P.underlying e,st.h r with
   | true,some (.int .u8),some ⟨.arr .byte (b :: l), .own⟩=>AA C o.dst {st with h:=cA st.h r none} (.sl .byte (b :: l)) K
   | _,_,_=>none
  | _,_,_=>none
 | .makeFunc (.func f) first captured=>gd (first.isEmpty) (match eE st.h (captured.toList.map (opd st.s))with
   | some (cs,ids)=>AA C o.dst {st with h:=dB st.h ids} (.fn f cs) K
   | none=>none) none
 | .makeSlice t n c=>match(jH C.P t).bind C.tn,(jH C.P t).bind (zeroCells C.P)with
  | some tn,some z=>match opd st.s n,opd st.s c with
   | .int .i64 n, .int .i64 c=>bif decide (0≤n)&&decide (n≤(nA:Int))&&(n==c)then
     bnd (vB tn z) λx=>VC C o.dst st i (.arr tn (List.replicate n.toNat x)) (.ow i) K (WC (!tn.flat))
    else none
   | _,_=>none
  | _,_=>none
 | .slice t x lo hi mx=>match mx,C.P.underlying t with
  | some _,_ | _,none=>none
  | none,some d=>oH d (mE C) st.h (opd st.s x) (lo.map (opd st.s)) (hi.map (opd st.s)) λv=>AA C o.dst st v K
 | .fieldAddr t x f=>match bH C.P t f with
  | none=>none
  | some (off,ft)=>match oC C.P ft with
   | some (_+1)=>match opd st.s x with
    | .bp r o1=>AA C o.dst st (.bp r (o1+off)) K
    | .ep r t' k o1=>AA C o.dst st (.ep r t' k (o1+off)) K
    | .fp cs o1=>AA C o.dst st (.fp cs (o1+off)) K
    | _=>none
   | _=>none
 | .field t x f=>match bH C.P t f,opd st.s x with
  | some (off,ft), .agg cs=>match xC C.P ft,oC C.P ft with
   | some ag,some n=>CD ag n cs off λv=>AA C o.dst st v K
   | _,_=>none
  | _,_=>none
 | .indexAddr t x ix=>match opd st.s ix with
  | .int _ n=>match C.P.underlying t,opd st.s x with
   | some (.slice e), .sl t' l=>gd (mE C e t') (ob (NA l n) λa=>AA C o.dst st (.fp (enc t' a) 0) K) none
   | some (.slice e), .ow r=>match st.h r with
    | some ⟨.arr t' l,_⟩=>gd (mE C e t') (bif decide (0≤n)&&decide (n<(l.length:Int))then AA C o.dst st (.ep r t' n.toNat 0) K else none) none
    | _=>none
   | some (.slice e), .ov r t' off len=>gd (mE C e t') (bif decide (0≤n)&&decide (n<(len:Int))then AA C o.dst st (.ep r t' (off+n.toNat) 0) K else none) none
   | some (.array m e), .bp r o1=>match oC C.P e with
    | some 1=>TE (λk=>AA C o.dst st (.bp r (o1+k)) K) n 0 m
    | _=>none
   | _,_=>none
  | _=>none
 | .index t x ix=>match opd st.s ix,C.P.underlying t,opd st.s x with
  | .int _ n,some .string, .str s=>ob (NA s n) λb=>AA C o.dst st (.int .u8 (b.toNat:Int)) K
  | .int _ n,some (.array m e), .agg cs=>match oC C.P e,xC C.P e with
   | some 1,some false=>TE (λk=>match cs.drop k with | c :: _=>AA C o.dst st c K | []=>none) n 0 m
   | _,_=>none
  | _,_,_=>none
 | .extract x ix=>match opd st.s x with
  | .tup vs=>match vs.drop ix with
   | v :: _=>AA C o.dst st v K
   | []=>none
  | _=>none
 | .call {callee:= .builtin .len,args,argTypes}=>match args.toList,argTypes.toList with
  | [x],[t]=>match C.P.underlying t,xG st.h (opd st.s x)with
   | some d,some n=>gd (DM d (opd st.s x)) (AA C o.dst st (.int .i64 (n:Int)) K) none
   | _,_=>none
  | _,_=>none
 | .call {callee:= .builtin .append,args,argTypes}=>match args.toList,argTypes.toList with
  | [x,y],[t,t']=>gd (Nat.beq t t') (match(jH C.P t).bind C.tn with
   | none=>none
   | some tn=>match NF st.h tn (opd st.s x),iJ st.h tn (opd st.s y)with
    | some (l,r),some m=>bif decide (l.length+m.length≤nA)then
      VC C o.dst {st with h:=OG (FE st.h (opd st.s x) (opd st.s y)) (nD st.h r) (opd st.s y)} i (.arr tn (l++m)) (.ow i) K (WC (FE st.h (opd st.s x) (opd st.s y)))
     else none
    | _,_=>none) none
  | _,_=>none
 | .call {callee:= .builtin .min,args,argTypes:=_}=>match args.toList.map (opd st.s)with
  | [.int k a, .int k' b]=>bif decide (k=k')then AA C o.dst st (.int k (if b<a then b else a)) K else none
  | _=>none
 | .call {callee:= .builtin .max,args,argTypes:=_}=>match args.toList.map (opd st.s)with
  | [.int k a, .int k' b]=>bif decide (k=k')then AA C o.dst st (.int k (if b>a then b else a)) K else none
  | _=>none
 | .call {callee:= .value x,args,argTypes:=_}=>match opd st.s x with
  | .fn f cs=>zF C i o.dst st f (args.toList.map (opd st.s)++cs) K
  | _=>none
 | _=>none
end
end Go.D
namespace Go.D
variable [aA]
def aB.isRo:aB→Bool
 | .ro=>true
 | _=>false
omit [aA]in
def FK{m:aB}(h:m.isOwn=true):m.isRo=false:=by cases m<;>first | rfl | cases h
structure Wx(w0 w:World):Prop where
 os:w.os=w0.os
 tape:w.tape=w0.tape
 output:w.output=w0.output
 size:w0.heap.size≤w.heap.size
omit [aA]in
def Wx.refl(w:World):Wx w w:=⟨rfl,rfl,rfl,Nat.le_refl _⟩
omit [aA]in
def Wx.trans{a b c:World}(h:Wx a b)(k:Wx b c):Wx a c:=⟨k.os.trans h.os,k.tape.trans h.tape,k.output.trans h.output,Nat.le_trans h.size k.size⟩
def iC(w:World)(ρ:Nat→Option RI)(bad:Nat→Prop)(ri:RI):KC→Prop
 | .box cs=>ri.nl=false∧∀j (h:j<cs.length),w.frozen? (gA ri.b j)=false∧∃u,w.cell? (gA ri.b j)=some u∧VR w ρ bad u cs[j]
 | .arr t l=>ri.n=l.length∧(ri.nl=true∧l=[]∨ri.nl=false∧dD w ri.b t∧ri.n≤ri.cap∧ri.cap≤maxLen∧
   (∀j,j<ri.cap *sz t→w.frozen? (gA ri.b j)=false∧(w.cell? (gA ri.b j)).isSome=true)∧
   ∀i (h:i<l.length) j,j<sz t→∃u,w.cell? (gA ri.b (i *sz t+j))=some u∧VR w ρ bad u ((enc t l[i]).getD j .undef))
def bA(outer:Nat→Prop)(ρ:Nat→Option RI)(h:Nat→Option fA)(b:Nat):Prop:=
 outer b∨∃r row ri,h r=some row∧row.m.isRo=false∧ρ r=some ri∧ri.nl=false∧ri.b=b
omit [aA]in
def AB.lt{w:World}{b:Nat}(h:AB w b):b<w.heap.size:=by
 obtain⟨_,_,h⟩:=h;exact pG h
def GC(w0:World)(own:Ow)(b:Nat):Prop:=w0.heap.size≤b∨own.k b
inductive DV(w:World)(bad fr:Nat→Prop)(par:Nat→Option (Nat×Nat)):Nat×Nat→Value→V→Prop where
 | triv (p:Nat×Nat) (v:Value) (d:V) (h:∀(w':World) (ρ':Nat→Option RI) (bad':Nat→Prop),VR w' ρ' bad' v d):DV w bad fr par p v d
 | sl (p:Nat×Nat) (t:TN) (l:List (El t)) (b cap:Nat) (u:Nat→Nat→Value) (hb:¬bad b) (hf:fr b) (hp:par b=some p)
   (he:dD w b t) (hl:l.length≤cap) (hc:cap≤maxLen) (hz:∀j,j<cap *sz t→w.frozen? (gA b j)=false∧(w.cell? (gA b j)).isSome=true)
   (hu:∀i,i<l.length→∀j,j<sz t→w.cell? (gA b (i *sz t+j))=some (u i j))
   (hv:∀i (h:i<l.length) j,j<sz t→DV w bad fr par (b,i *sz t+j) (u i j) ((enc t l[i]).getD j .undef)):
   DV w bad fr par p (.slice (some (gA b 0)) l.length cap) (.sl t l)
def cH(w:World)(bad fr:Nat→Prop)(par:Nat→Option (Nat×Nat))(ri:RI)(t:TN)(l:List (El t)):Prop:=
 par ri.b=none∧∀i (h:i<l.length) j,j<sz t→∃u,w.cell? (gA ri.b (i *sz t+j))=some u∧DV w bad fr par (ri.b,i *sz t+j) u ((enc t l[i]).getD j .undef)
def lB(w:World)(bad fr:Nat→Prop)(ρ:Nat→Option RI)(h:Nat→Option fA):Prop:=
 ∃par,∀r t (l:List (El t)) m ri,h r=some ⟨.arr t l,m⟩→m.isTre=true→ρ r=some ri→ri.nl=false→cH w bad fr par ri t l
section
variable {w w':World} {bad bad' fr fr':Nat→Prop} {par par':Nat→Option (Nat×Nat)} {ρ ρ':Nat→Option RI} {h h':Nat→Option fA}
inductive kE(par:Nat→Option (Nat×Nat))(a:Nat):Nat→Prop where
 | one (b o:Nat) (h:par b=some (a,o)):kE par a b
 | step (b c o:Nat) (h:par b=some (c,o)) (hc:kE par a c):kE par a b
omit [aA]in
def kE.root{a a' b:Nat}(h:kE par a b)(h':kE par a' b)(ha:par a=none)(G7:par a'=none):a=a':=by
 induction h with
 | one b o h=>
  cases h' with
  | one _ o' h1=>rw[h]at h1;cases h1;rfl
  | step _ c o' h1 hc=>
   rw[h]at h1;cases h1;cases hc with
   | one _ _ h2=>rw[ha]at h2;cases h2
   | step _ _ _ h2 _=>rw[ha]at h2;cases h2
 | step b c o h hc ih=>
  cases h' with
  | one _ o' h1=>
   rw[h]at h1;cases h1;cases hc with
   | one _ _ h2=>rw[G7]at h2;cases h2
   | step _ _ _ h2 _=>rw[G7]at h2;cases h2
  | step _ c' o' h1 lX=>rw[h]at h1;cases h1;exact ih lX
def DV.genT(T:Nat→Prop){p p':Nat×Nat}{v:Value}{d:V}(hd:DV w bad fr par p v d)(t0:∀b,par b=some p→T b)(ts:∀b q,T q.1→par b=some q→T b)
  (hw:∀b,T b→¬bad b→AB w b→fr b→w'.heap[b]?=w.heap[b]?)
  (hb:∀b,T b→AB w b→fr b→bad' b→bad b) (hf:∀b,T b→fr b→fr' b) (h1:∀b,T b→¬bad b→AB w b→fr b→par b=some p→par' b=some p')
  (h2:∀b q,T b→¬bad b→AB w b→fr b→par q.1≠none→par b=some q→par' b=some q):DV w' bad' fr' par' p' v d:=by
 induction hd generalizing p' with
 | triv p v d h=>exact .triv _ _ _ h
 | sl p t l b cap u OX qX hp he dX PX hz hu hv ih=>
  by_cases hl:l.length=0
  ·obtain rfl:=List.eq_nil_of_length_eq_zero hl;exact .triv _ _ _ λ_ _ _=> .slE _ _ _ PX
  have hc:AB w b:=⟨_,_,hu 0 (by omega) 0 (wE t)⟩;have hT:=t0 b hp;have hs:=hw b hT OX hc qX
  exact .sl p' t l b cap u (λh=>OX (hb b hT hc qX h)) (hf b hT qX) (h1 b hT OX hc qX hp) (he.same hs) dX PX (λj hj=>⟨by rw[←(hz j hj).1];simp[World.frozen?,gA,hs],by rw[←(hz j hj).2];exact congrArg Option.isSome (LC hs)⟩)
   (λi hi j hj=>(LC hs).trans (hu i hi j hj)) λi hi j hj=>ih i hi j hj (λc hc=>ts c _ hT hc) λc E5 hc XW p9 q9=>h2 c _ E5 hc XW p9 (by show par b≠none;rw[hp];simp) q9
def DV.vr{p:Nat×Nat}{v:Value}{d:V}(hd:DV w bad fr par p v d)(ρ:Nat→Option RI):VR w ρ bad v d:=by
 induction hd with
 | triv p v d h=>exact h _ _ _
 | sl p t l b cap u OX qX hp he dX PX hz hu hv ih=>
  exact .slC t l b 0 cap u OX dX PX (λ_=> .inr he) (λi hi j hj=>by rw[Nat.zero_add];exact hu i hi j hj) ih
def DV.gen{p p':Nat×Nat}{v:Value}{d:V}(hd:DV w bad fr par p v d)(hw:∀b,¬bad b→AB w b→fr b→w'.heap[b]?=w.heap[b]?)
  (hb:∀b,AB w b→fr b→bad' b→bad b) (hf:∀b,fr b→fr' b) (h1:∀b,¬bad b→AB w b→fr b→par b=some p→par' b=some p')
  (h2:∀b q,¬bad b→AB w b→fr b→par q.1≠none→par b=some q→par' b=some q):DV w' bad' fr' par' p' v d:=
 hd.genT (λ_=>True) (λ_ _=>trivial) (λ_ _ _ _=>trivial) (λb _=>hw b) (λb _=>hb b) (λb _=>hf b) (λb _=>h1 b) λb q _=>h2 b q
def cH.genT{ri ri':RI}{t:TN}{l:List (El t)}(hd:cH w bad fr par ri t l)(OX:ri'.b=ri.b)(F5:w'.heap[ri.b]?=w.heap[ri.b]?)(hw:∀b,kE par ri.b b→¬bad b→AB w b→fr b→w'.heap[b]?=w.heap[b]?)
  (hb:∀b,kE par ri.b b→AB w b→fr b→bad' b→bad b) (hf:∀b,kE par ri.b b→fr b→fr' b) (qY:par' ri.b=none)
  (hp:∀b q,kE par ri.b b→¬bad b→AB w b→fr b→par b=some q→par' b=some q):cH w' bad' fr' par' ri' t l:=by
 refine⟨by rw[OX];exact qY,λi hi j hj=>?_⟩;obtain⟨u,h1,h2⟩:=hd.2 i hi j hj;rw[OX];exact⟨u,(LC F5).trans h1,h2.genT (kE par ri.b) (λb h=> .one b _ h) (λb q h h'=> .step b q.1 q.2 h' h) hw hb hf (λb h3 h5 h6 h7 h4=>hp b _ h3 h5 h6 h7 h4) λb q h3 h5 h6 h7 _ h4=>hp b q h3 h5 h6 h7 h4⟩
def cH.gen{ri ri':RI}{t:TN}{l:List (El t)}(hd:cH w bad fr par ri t l)(OX:ri'.b=ri.b)(F5:w'.heap[ri.b]?=w.heap[ri.b]?)(hw:∀b,¬bad b→AB w b→fr b→w'.heap[b]?=w.heap[b]?)
  (hb:∀b,AB w b→fr b→bad' b→bad b) (hf:∀b,fr b→fr' b) (qY:par' ri.b=none)
  (hp:∀b q,¬bad b→AB w b→fr b→par b=some q→par' b=some q):cH w' bad' fr' par' ri' t l:=
 hd.genT OX F5 (λb _=>hw b) (λb _=>hb b) (λb _=>hf b) qY λb q _=>hp b q
def lB.keep(hd:lB w bad fr ρ h)
  (hr:∀r t (l:List (El t)) m ri,h' r=some ⟨.arr t l,m⟩→m.isTre=true→ρ' r=some ri→ri.nl=false→∃q m',h q=some ⟨.arr t l,m'⟩∧m'.isTre=true∧ρ q=some ri∧w'.heap[ri.b]?=w.heap[ri.b]?)
  (hw:∀b,¬bad b→b<w.heap.size→w'.heap[b]?=w.heap[b]?) (hb:∀b,bad' b→bad b∨w.heap.size≤b) (hf:∀b,fr b→fr' b):lB w' bad' fr' ρ' h':=by
 obtain⟨par,hd⟩:=hd;refine⟨par,λr t l m ri h1 hm h2 h3=>?_⟩;obtain⟨q,m',e1,em,e2,e3⟩:=hr r t l m ri h1 hm h2 h3;have:=hd q t l m' ri e1 em e2 h3;exact this.gen rfl e3 (λb h4 h5 _=>hw b h4 h5.lt) (λb h4 _ h5=>(hb b h5).elim id λh=>by have:=h4.lt;omega) hf this.1 λ_ _ _ _ _ h=>h
def lB.zero(hr:∀r t (l:List (El t)) m,h r=some ⟨.arr t l,m⟩→m.isTre=false):lB w bad fr ρ h:=⟨λ_=> .none,λr t l m ri h1 h2=>by rw[hr r t l m h1]at h2;cases h2⟩
end
structure BA(w0:World)(outer:Nat→Prop)(own:Ow)(ρ:Nat→Option RI)(h:Nat→Option fA)(w:World):Prop where
 wx:Wx w0 w
 old:∀b,b<w0.heap.size→¬own b→w.heap[b]?=w0.heap[b]?
 outLt:∀b,outer b→b<w0.heap.size∧¬own b
 rows:∀r row,h r=some row→∃ri,ρ r=some ri∧iC w ρ (bA outer ρ h) ri row.c∧
  (ri.nl=false→(¬outer ri.b∧(row.m.isRo=false→w0.heap.size≤ri.b∨own ri.b))∧ri.b<w.heap.size)
 inj:∀r r' row row' ri ri',h r=some row→h r'=some row'→ρ r=some ri→ρ r'=some ri'→ri.nl=false→ri'.nl=false→ri.b=ri'.b→r=r'
 dep:lB w (bA outer ρ h) (GC w0 own) ρ h
structure xA(C:Cx)(w0:World)(outer:Nat→Prop)(own:Ow)(ρ:Nat→Option RI)(st:St)(a:Act)(w:World):Prop where
 heap:BA w0 outer own ρ st.h w
 slots:∀i,VR w ρ (bA outer ρ st.h) (a.tmps.getD i undef) (st.s i)
 size:a.tmps.size=C.nt
 defers:a.defers=[]
 glob:xJ C.g own w0
section
variable {C:Cx} {w0:World} {outer:Nat→Prop} {own:Ow} {ρ:Nat→Option RI} {st:St} {a:Act} {w:World} {h:Nat→Option fA}
omit [aA]in
def qA{α:Type}(f:Nat→α)(i:Nat)(v:α):cA f i v i=v:=by simp[cA]
omit [aA]in
def jA{α:Type}(f:Nat→α)(i j:Nat)(v:α)(h:j≠i):cA f i v j=f j:=by
 simp only[cA]
 have:Nat.beq j i=false:=by
  cases hb:Nat.beq j i with
  | false=>rfl
  | true=>exact absurd (Nat.eq_of_beq_eq_true hb) h
 rw[this];rfl
omit [aA]in
def uF{α:Type}(f:Nat→α)(i:Nat)(a b:α):cA (cA f i a) i b=cA f i b:=by
 funext j
 by_cases h:j=i
 ·subst h;rw[qA,qA]
 ·rw[jA _ _ _ _ h,jA _ _ _ _ h,jA _ _ _ _ h]
omit [aA]in
def uC(a:Act)(d:Nat)(v:Value)(hd:d<a.tmps.size)(i:Nat):
  (a.put (some d) v).tmps.getD i undef=if i=d then v else a.tmps.getD i undef:=by
 simp only[Act.put,Array.getD_eq_getD_getElem?,Array.getElem?_setIfInBounds]
 by_cases h:d=i
 ·subst h;simp[hd]
 ·simp[h,Ne.symm h]
def xA.put(hr:xA C w0 outer own ρ st a w){dst:Option Nat}{v:Value}{d:V}(hv:VR w ρ (bA outer ρ st.h) v d){st':St}
  (hk:AA C dst st d some=some st'):xA C w0 outer own ρ st' (a.put dst v) w∧st'.h=st.h∧st'.nx=st.nx:=by
 cases dst with
 | none=>simp[AA]at hk;subst hk;exact⟨hr,rfl,rfl⟩
 | some k=>
  simp only[AA]at hk;cases hb:Nat.blt k C.nt with
  | false=>simp[hb]at hk
  | true=>
   simp[hb]at hk;subst hk;have HV:k<a.tmps.size:=by rw[hr.size];simpa[Nat.blt_eq]using hb
   refine⟨⟨hr.heap,λi=>?_,by simp[Act.put,hr.size],hr.defers,hr.glob⟩,rfl,rfl⟩;rw[uC a k v HV i];show VR w ρ _ _ (cA st.s k d i)
   by_cases h:i=k
   ·subst h;rw[if_pos rfl,qA];exact hv
   ·rw[if_neg h,jA _ _ _ _ h];exact hr.slots i
omit [aA]in
def bA.mono{h':Nat→Option fA}{b:Nat}(hs:∀r row',h' r=some row'→row'.m.isRo=false→∃row,h r=some row∧row.m.isRo=false)
  (hb:bA outer ρ h' b):bA outer ρ h b:=by
 rcases hb with hb | ⟨r,row',ri,h1,h2,h3,h4,h5⟩
 ·exact .inl hb
 ·obtain⟨row,h6,h7⟩:=hs r row' h1 h2;exact .inr ⟨r,row,ri,h6,h7,h3,h4,h5⟩
def tO{w:World}{c:Array Value}{e:TypeId}{t:TN}(h:aA.tn e=some t):dD (w.alloc (.cells c e)) w.heap.size t:=
 ⟨c,e,_,by show(w.heap.push _)[w.heap.size]?=_;rw[Array.getElem?_push_size],h⟩
def iC.keep{w':World}{ρ':Nat→Option RI}{bad bad':Nat→Prop}{ri:RI}{c:KC}(hr:iC w ρ bad ri c)
  (hw:ri.nl=false→w'.heap[ri.b]?=w.heap[ri.b]?)
  (hv:∀u d,VR w ρ bad u d→VR w' ρ' bad' u d):iC w' ρ' bad' ri c:=by
 cases c with
 | box cs=>
  refine⟨hr.1,λj hj=>?_⟩;obtain⟨h1,u,h2,h3⟩:=hr.2 j hj;have hb:=hw hr.1;exact⟨by rw[←h1];simp[World.frozen?,gA,hb],u,by rw[←h2];exact LC hb,hv _ _ h3⟩
 | arr t l=>
  refine⟨hr.1,?_⟩
  rcases hr.2 with h | ⟨h0,he,h1,h2,h3,h4⟩
  ·exact .inl h
  ·have hb:=hw h0;refine .inr ⟨h0,he.same hb,h1,h2,λj hj=>?_,λi hi j hj=>?_⟩
   ·have:=h3 j hj;exact⟨by rw[←this.1];simp[World.frozen?,gA,hb],by rw[←this.2];congr 1;exact LC hb⟩
   ·obtain⟨u,h5,h6⟩:=h4 i hi j hj;exact⟨u,by rw[←h5];exact LC hb,hv _ _ h6⟩
def BA.alloc(hh:BA w0 outer own ρ h w)(r:Nat)(hr:ρ r=none)(ri:RI)(hb:ri.nl=false→ri.b=w.heap.size)(w':World)(xW:Wx w w')
  (hw:∀b,b<w.heap.size→w'.heap[b]?=w.heap[b]?) (JV:ri.nl=false→w.heap.size<w'.heap.size) (c:KC)
  (hc:(∀ u d,VR w ρ (bA outer ρ h) u d→VR w' (cA ρ r (some ri)) (bA outer (cA ρ r (some ri)) (cA h r (some ⟨c, .own⟩))) u d)→
   iC w' (cA ρ r (some ri)) (bA outer (cA ρ r (some ri)) (cA h r (some ⟨c, .own⟩))) ri c):
  BA w0 outer own (cA ρ r (some ri)) (cA h r (some ⟨c, .own⟩)) w'∧
   ∀u d,VR w ρ (bA outer ρ h) u d→VR w' (cA ρ r (some ri)) (bA outer (cA ρ r (some ri)) (cA h r (some ⟨c, .own⟩))) u d:=by
 have hρ:∀q qi,ρ q=some qi→cA ρ r (some ri) q=some qi:=λq qi hq=>by
  rw[jA];exact hq;rintro rfl;simp[hr]at hq
 have H7:∀q row,h q=some row→q≠r:=λq row hq=>by
  rintro rfl;obtain⟨qi,h1,_⟩:=hh.rows q row hq;simp[hr]at h1
 have GV:∀b,bA outer (cA ρ r (some ri)) (cA h r (some ⟨c, .own⟩)) b→bA outer ρ h b∨w.heap.size≤b:=by
  rintro b (YV | ⟨q,row,qi,h1,h2,h3,h4,h5⟩)
  ·exact .inl (.inl YV)
  ·by_cases hq:q=r
   ·subst hq;rw[qA]at h3;cases h3;right;rw[←h5,hb h4];exact Nat.le_refl _
   ·rw[jA _ _ _ _ hq]at h1 h3;exact .inl (.inr ⟨q,row,qi,h1,h2,h3,h4,h5⟩)
 have hv:∀u d,VR w ρ (bA outer ρ h) u d→VR w' (cA ρ r (some ri)) (bA outer (cA ρ r (some ri)) (cA h r (some ⟨c, .own⟩))) u d:=λu d hu=>
  hu.mono hρ (λb _ hb=>hw b hb) GV
 refine⟨⟨hh.wx.trans xW,λb hb ho=>(hw b (Nat.lt_of_lt_of_le hb hh.wx.size)).trans (hh.old b hb ho),hh.outLt,?_,?_,?_⟩,hv⟩
 rotate_right
 ·refine hh.dep.keep (λq t l m' qi h1 YW h2 h3=>?_) (λb _ hb=>hw b hb) GV λ_ h=>h
  by_cases hq:q=r
  ·subst hq;rw[qA]at h1;cases h1;cases YW
  ·rw[jA _ _ _ _ hq]at h1 h2;obtain⟨qi',h4,_,h5⟩:=hh.rows q _ h1;rw[h2]at h4;cases h4;exact⟨q,m',h1,YW,h2,hw _ (h5 h3).2⟩
 ·intro q row hq
  by_cases LV:q=r
  ·subst LV;rw[qA]at hq;cases hq;refine⟨ri,qA _ _ _,hc hv,λhn=>?_⟩;rw[hb hn];exact⟨⟨λho=>by have:=(hh.outLt _ ho).1;have:=hh.wx.size;omega,λ_=> .inl hh.wx.size⟩,JV hn⟩
  ·rw[jA _ _ _ _ LV]at hq;obtain⟨qi,h1,h2,h3⟩:=hh.rows q row hq;refine⟨qi,hρ q qi h1,h2.keep (λhn=>hw _ (h3 hn).2) hv,λhn=>⟨(h3 hn).1,Nat.lt_of_lt_of_le (h3 hn).2 xW.size⟩⟩
 ·intro q q' row row' qi qi' h1 h2 h3 h4 h5 h6 h7
  by_cases hq:q=r<;>by_cases ZW:q'=r
  ·rw[hq,ZW]
  ·subst hq;rw[qA]at h3;cases h3;rw[jA _ _ _ _ ZW]at h2 h4;obtain⟨qi'',h8,_,h9⟩:=hh.rows q' row' h2;rw[h4]at h8;cases h8;have:=(h9 h6).2;rw[←h7,hb h5]at this;omega
  ·subst ZW;rw[qA]at h4;cases h4;rw[jA _ _ _ _ hq]at h1 h3;obtain⟨qi'',h8,_,h9⟩:=hh.rows q row h1;rw[h3]at h8;cases h8;have:=(h9 h5).2;rw[h7,hb h6]at this;omega
  ·rw[jA _ _ _ _ hq]at h1 h3;rw[jA _ _ _ _ ZW]at h2 h4;exact hh.inj q q' row row' qi qi' h1 h2 h3 h4 h5 h6 h7
def BA.write(hh:BA w0 outer own ρ h w){r:Nat}{c:KC}{m:aB}{ri:RI}(hr:h r=some ⟨c,m⟩)(hm:m.isRo=false)(hρ:ρ r=some ri)(hn:ri.nl=false)(w':World)
  (xW:Wx w w') (JV:w'.heap.size=w.heap.size) (hw:∀b,b≠ri.b→w'.heap[b]?=w.heap[b]?) (c':KC)
  (hc:(∀u d,VR w ρ (bA outer ρ h) u d→VR w' ρ (bA outer ρ (cA h r (some ⟨c', .own⟩))) u d)→iC w' ρ (bA outer ρ (cA h r (some ⟨c', .own⟩))) ri c'):
  BA w0 outer own ρ (cA h r (some ⟨c', .own⟩)) w'∧∀u d,VR w ρ (bA outer ρ h) u d→VR w' ρ (bA outer ρ (cA h r (some ⟨c', .own⟩))) u d:=by
 have NY:bA outer ρ h ri.b:= .inr ⟨r,_,ri,hr,hm,hρ,hn,rfl⟩
 have GV:∀b,bA outer ρ (cA h r (some ⟨c', .own⟩)) b→bA outer ρ h b:=λb hb=>hb.mono λq row' h1 h2=>by
  by_cases hq:q=r
  ·subst hq;exact⟨_,hr,hm⟩
  ·rw[jA _ _ _ _ hq]at h1;exact⟨row',h1,h2⟩
 have hv:∀u d,VR w ρ (bA outer ρ h) u d→VR w' ρ (bA outer ρ (cA h r (some ⟨c', .own⟩))) u d:=λu d hu=>
  hu.mono (λ_ _ h=>h) (λb hb _=>hw b λe=>hb (e▸NY)) λb hb=> .inl (GV b hb)
 obtain⟨ri',h6,_,h7⟩:=hh.rows r _ hr;rw[hρ]at h6;cases h6;refine⟨⟨hh.wx.trans xW,λb hb ho=>?_,hh.outLt,?_,?_,?_⟩,hv⟩
 rotate_right
 ·refine hh.dep.keep (λq t l m' qi h1 YW h2 h3=>?_) (λb hb _=>hw b λe=>hb (e▸NY)) (λb hb=> .inl (GV b hb)) λ_ h=>h
  by_cases hq:q=r
  ·subst hq;rw[qA]at h1;cases h1;cases YW
  ·rw[jA _ _ _ _ hq]at h1;exact⟨q,m',h1,YW,h2,hw _ λe=>hq (hh.inj q r _ _ qi ri h1 hr h2 hρ h3 hn e)⟩
 ·refine(hw b ?_).trans (hh.old b hb ho);rintro rfl
  rcases(h7 hn).1.2 hm with h8 | h8
  ·omega
  ·exact ho h8
 ·intro q row hq
  by_cases LV:q=r
  ·subst LV;rw[qA]at hq;cases hq;exact⟨ri,hρ,hc hv,λ_=>by rw[JV];exact⟨⟨(h7 hn).1.1,λ_=>(h7 hn).1.2 hm⟩,(h7 hn).2⟩⟩
  ·rw[jA _ _ _ _ LV]at hq;obtain⟨qi,h1,h2,h3⟩:=hh.rows q row hq;refine⟨qi,h1,h2.keep (λE0=>hw _ ?_) hv,λE0=>by rw[JV];exact h3 E0⟩;intro e;exact LV (hh.inj q r row _ qi ri hq hr h1 hρ E0 hn e)
 ·intro q q' row row' qi qi' h1 h2 h3 h4 h5 h6 h7
  have:∀x y,cA h r (some ⟨c', .own⟩) x=some y→∃z,h x=some z:=λx y hx=>by
   by_cases hq:x=r
   ·subst hq;exact⟨_,hr⟩
   ·rw[jA _ _ _ _ hq]at hx;exact⟨_,hx⟩
  obtain⟨z,hz⟩:=this _ _ h1;obtain⟨z',vX⟩:=this _ _ h2;exact hh.inj q q' z z' qi qi' hz vX h3 h4 h5 h6 h7
def BA.less(hh:BA w0 outer own ρ h w){h':Nat→Option fA}(hs:∀r row',h' r=some row'→∃row,h r=some row∧row.c=row'.c∧(row'.m.isRo=false→row.m.isRo=false)∧(row'.m.isTre=true→row.m.isTre=true)):
  BA w0 outer own ρ h' w∧∀u d,VR w ρ (bA outer ρ h) u d→VR w ρ (bA outer ρ h') u d:=by
 have GV:∀b,bA outer ρ h' b→bA outer ρ h b:=λb hb=>hb.mono λq row' h1 h2=>by
  obtain⟨row,h3,_,h4,_⟩:=hs q row' h1;exact⟨row,h3,h4 h2⟩
 have hv:∀u d,VR w ρ (bA outer ρ h) u d→VR w ρ (bA outer ρ h') u d:=λu d hu=>hu.mono (λ_ _ h=>h) (λ_ _ _=>rfl) λb hb=> .inl (GV b hb);refine⟨⟨hh.wx,hh.old,hh.outLt,λr row' hr=>?_,λq q' row row' qi qi' h1 h2 h3 h4 h5 h6 h7=>?_,?_⟩,hv⟩
 rotate_right
 ·refine hh.dep.keep (λq t l m' qi h1 YW h2 h3=>?_) (λ_ _ _=>rfl) (λb hb=> .inl (GV b hb)) λ_ h=>h;obtain⟨⟨c,m⟩,h4,h5,_,h6⟩:=hs q _ h1;simp only at h5;subst h5;exact⟨q,m,h4,h6 YW,h2,rfl⟩
 ·obtain⟨row,h1,h2,h6,_⟩:=hs r row' hr;obtain⟨ri,h3,h4,h5⟩:=hh.rows r row h1;exact⟨ri,h3,by rw[←h2];exact h4.keep (λ_=>rfl) hv,λhn=>⟨⟨(h5 hn).1.1,λhm=>(h5 hn).1.2 (h6 hm)⟩,(h5 hn).2⟩⟩
 ·obtain⟨z,hz,_⟩:=hs _ _ h1;obtain⟨z',vX,_⟩:=hs _ _ h2;exact hh.inj q q' z z' qi qi' hz vX h3 h4 h5 h6 h7
def BA.turn(hh:BA w0 outer own ρ h w){r:Nat}{c:KC}{m m':aB}(hr:h r=some ⟨c,m⟩)(hm:m.isRo=false)(hd:(∀b,bA outer ρ (cA h r (some ⟨c,m'⟩)) b→bA outer ρ h b)→lB w (bA outer ρ (cA h r (some ⟨c,m'⟩))) (GC w0 own) ρ (cA h r (some ⟨c,m'⟩))):
  BA w0 outer own ρ (cA h r (some ⟨c,m'⟩)) w∧∀u d,VR w ρ (bA outer ρ h) u d→VR w ρ (bA outer ρ (cA h r (some ⟨c,m'⟩))) u d:=by
 have hs:∀q row',cA h r (some ⟨c,m'⟩) q=some row'→∃row,h q=some row∧row.c=row'.c∧(row'.m.isRo=false→row.m.isRo=false):=λq row' hq=>by
  by_cases h1:q=r
  ·subst h1;rw[qA]at hq;cases hq;exact⟨_,hr,rfl,λ_=>hm⟩
  ·rw[jA _ _ _ _ h1]at hq;exact⟨row',hq,rfl,id⟩
 have GV:∀b,bA outer ρ (cA h r (some ⟨c,m'⟩)) b→bA outer ρ h b:=λb hb=>hb.mono λq row' h1 h2=>by
  obtain⟨row,h3,_,h4⟩:=hs q row' h1;exact⟨row,h3,h4 h2⟩
 have hv:∀u d,VR w ρ (bA outer ρ h) u d→VR w ρ (bA outer ρ (cA h r (some ⟨c,m'⟩))) u d:=λu d hu=>hu.mono (λ_ _ h=>h) (λ_ _ _=>rfl) λb hb=> .inl (GV b hb);refine⟨⟨hh.wx,hh.old,hh.outLt,λr row' hr=>?_,λq q' row row' qi qi' h1 h2 h3 h4 h5 h6 h7=>?_,hd GV⟩,hv⟩
 ·obtain⟨row,h1,h2,h6⟩:=hs r row' hr;obtain⟨ri,h3,h4,h5⟩:=hh.rows r row h1;exact⟨ri,h3,by rw[←h2];exact h4.keep (λ_=>rfl) hv,λhn=>⟨⟨(h5 hn).1.1,λhm=>(h5 hn).1.2 (h6 hm)⟩,(h5 hn).2⟩⟩
 ·obtain⟨z,hz,_⟩:=hs _ _ h1;obtain⟨z',vX,_⟩:=hs _ _ h2;exact hh.inj q q' z z' qi qi' hz vX h3 h4 h5 h6 h7
def BA.world(hh:BA w0 outer own ρ h w){w':World}(xW:Wx w w')(rW:w'.heap=w.heap):
  BA w0 outer own ρ h w'∧∀u d,VR w ρ (bA outer ρ h) u d→VR w' ρ (bA outer ρ h) u d:=by
 have hv:∀u d,VR w ρ (bA outer ρ h) u d→VR w' ρ (bA outer ρ h) u d:=λu d hu=>hu.mono (λ_ _ h=>h) (λ_ _ _=>by rw[rW]) λb hb=> .inl hb;refine⟨⟨hh.wx.trans xW,λb hb ho=>by rw[rW];exact hh.old b hb ho,hh.outLt,λr row hr=>?_,hh.inj,?_⟩,hv⟩
 rotate_right
 ·exact hh.dep.keep (λq t l m' qi h1 YW h2 _=>⟨q,m',h1,YW,h2,by rw[rW]⟩) (λ_ _ _=>by rw[rW]) (λ_ hb=> .inl hb) λ_ h=>h
 obtain⟨ri,h1,h2,h3⟩:=hh.rows r row hr;exact⟨ri,h1,h2.keep (λ_=>by rw[rW]) hv,λhn=>by rw[rW];exact h3 hn⟩
end
end Go.D
namespace Go.D
variable [aA]
section
variable {C:Cx} {w0:World} {outer:Nat→Prop} {own:Ow} {ρ:Nat→Option RI} {st:St} {a:Act} {w:World} {h:Nat→Option fA}
omit [aA]in
def SC:∀(ids:List Nat) (h:Nat→Option fA) (r:Nat),
  dB h ids r=if r∈ids then(h r).map (λrow=>{row with m:= .ro})else h r
 | [],h,r=>by simp[dB]
 | q :: qs,h,r=>by
  rw[dB,SC qs]
  by_cases hq:r=q
  ·subst hq;rw[qA]
   by_cases hm:r∈qs
   ·simp only[hm,if_true,List.mem_cons,or_true,if_true];cases h r<;>rfl
   ·simp[hm]
  ·rw[jA _ _ _ _ hq];simp[hq]
omit [aA]in
def dK(h:Nat→Option fA)(ids:List Nat):∀r row',dB h ids r=some row'→∃row,h r=some row∧row.c=row'.c∧(row'.m.isRo=false→row.m.isRo=false)∧(row'.m.isTre=true→row.m.isTre=true):=by
 intro r row' hr;rw[SC]at hr
 by_cases hm:r∈ids
 ·simp only[hm,if_true,Option.map_eq_some_iff]at hr;obtain⟨row,h1,rfl⟩:=hr;exact⟨row,h1,rfl,by simp[aB.isRo],λh=>by cases h⟩
 ·simp only[hm,if_false]at hr;exact⟨row',hr,rfl,id,id⟩
def BA.mark(hh:BA w0 outer own ρ h w)(ids:List Nat):BA w0 outer own ρ (dB h ids) w∧
  ∀u d,VR w ρ (bA outer ρ h) u d→VR w ρ (bA outer ρ (dB h ids)) u d:=hh.less (dK h ids)
omit [aA]in
def MN{i j:List Nat}(hs:∀r∈i,r∈j){b:Nat}(hb:bA outer ρ (dB h j) b):bA outer ρ (dB h i) b:=
 hb.mono λr row' h1 h2=>by
  rw[SC]at h1
  by_cases hm:r∈j
  ·simp only[hm,if_true,Option.map_eq_some_iff]at h1;obtain⟨row,_,rfl⟩:=h1;simp[aB.isRo]at h2
  ·simp only[hm,if_false]at h1;exact⟨row',by rw[SC,if_neg (λh=>hm (hs r h))];exact h1,h2⟩
def WJ{i j:List Nat}(hs:∀r∈i,r∈j){u:Value}{d:V}(hv:VR w ρ (bA outer ρ (dB h i)) u d):VR w ρ (bA outer ρ (dB h j)) u d:=
 hv.mono (λ_ _ h=>h) (λ_ _ _=>rfl) λ_ hb=> .inl (MN hs hb)
def aK(hh:BA w0 outer own ρ h w){r:Nat}{row:fA}{ri:RI}(hr:h r=some row)(hρ:ρ r=some ri)(hn:ri.nl=false)
  {ids:List Nat} (hm:r∈ids):¬bA outer ρ (dB h ids) ri.b:=by
 obtain⟨ri',h1,_,h2⟩:=hh.rows r row hr;rw[hρ]at h1;cases h1;rintro(hb | ⟨q,row',qi,h3,h4,h5,h6,h7⟩)
 ·exact(h2 hn).1.1 hb
 ·rw[SC]at h3
  by_cases hq:q∈ids
  ·simp only[hq,if_true,Option.map_eq_some_iff]at h3;obtain⟨_,_,rfl⟩:=h3;simp[aB.isRo]at h4
  ·simp only[hq,if_false]at h3;exact hq (by rw[hh.inj q r row' row qi ri h3 hr h5 hρ h6 hn h7];exact hm)
def tB(d:V):Prop:=∀S:Nat→Prop,TA S d
omit [aA]in
def IF(t:TN)(l:List (El t)):tB (.sl t l):=λS=> .sl t l λi _ j _=>TF S t _ j
omit [aA]in
def aQ(t:TN)(x:El t)(j:Nat)(hj:j<sz t):((enc t x).getD j .undef).leaf=true:=by
 have h1:=rR t x;have h2:j<(enc t x).length:=by rw[WA];exact hj
 rw[List.getD_eq_getElem?_getD,List.getElem?_eq_getElem h2,Option.getD_some];exact List.all_eq_true.1 h1 _ (List.getElem_mem h2)
def YS{bad:Nat→Prop}{ri:RI}{t:TN}{l:List (El t)}(hr:iC w ρ bad ri (.arr t l))(hn:ri.nl=false)(hb:¬bad ri.b)
  (off len cap:Nat) (FV:off+len≤l.length) (EX:len≤cap) (AY:cap≤maxLen):
  VR w ρ bad (.slice (some (gA ri.b (off *sz t))) len cap) (.sl t ((l.drop off).take len)):=by
 rcases hr.2 with h | ⟨h0,he,h1,h2,h3,h4⟩
 ·rw[hn]at h;cases h.1
 have hl:((l.drop off).take len).length=len:=by simp;omega
 have:=VR.slC (w:=w) (ρ:=ρ) (bad:=bad) t ((l.drop off).take len) ri.b (off *sz t) cap (λi j=>(w.cell? (gA ri.b (off *sz t+i *sz t+j))).getD undef) hb (by omega) AY (λ_=> .inr he)
  (fun i hi j hj=>by
   obtain⟨u,h5,h6⟩:=h4 (off+i) (by omega) j hj;rw[Nat.add_mul]at h5;rw[h5];rfl)
  (fun i hi j hj=>by
   obtain⟨u,h5,h6⟩:=h4 (off+i) (by omega) j hj;rw[Nat.add_mul]at h5;rw[h5,Option.getD_some];have:((l.drop off).take len)[i]=l[off+i]'(by omega):=by simp
   rw[this];exact h6)
 rw[hl]at this;exact this
omit [aA]in
def LE{t:TN}(e:t=t)(l:List (El t)):TN.cast e l=l:=by cases e;rfl
omit [aA]in
def ZL:∀(n:Nat) (d:V),lD n d=true→tB d∧d.leaf=true
 | 0,d,h=>by simp[lD]at h
 | n+1,d,h=>by
  cases d<;>simp only[lD,List.all_eq_true]at h<;>try (cases h;done)
  ·exact⟨λ_=> .bool _,rfl⟩
  ·exact⟨λ_=> .int _ _,rfl⟩
  ·exact⟨λ_=> .str _,rfl⟩
  ·exact⟨λ_=> .nil,rfl⟩
  ·exact⟨IF _ _,rfl⟩
  ·exact⟨λS=> .fp _ _ λj hj=>(ZL n _ (h _ (List.getElem_mem hj))).1 S,rfl⟩
  ·exact⟨λS=> .fn _ _ λj hj=>(ZL n _ (h _ (List.getElem_mem hj))).1 S,rfl⟩
  ·exact⟨λ_=> .nili,rfl⟩
  ·exact⟨λ_=> .ifc _,rfl⟩
def UL(hh:BA w0 outer own ρ h w){v:Value}{d d':V}{ids:List Nat}(hv:VR w ρ (bA outer ρ h) v d)(hf:XB h d=some (d',ids)):
  VR w ρ (bA outer ρ (dB h ids)) v d'∧tB d'∧d'.leaf=true:=by
 unfold XB at hf;split at hf
 ·rename_i r;split at hf
  ·rename_i t l m hr;cases rZ:m.isLock<;>simp[rZ]at hf
   obtain⟨rfl,rfl⟩:=hf;refine⟨?_,IF _ _,rfl⟩;obtain⟨H7,D2⟩:=hh.mark [r];obtain⟨ri,hρ,PV,F0⟩:=hh.rows r _ hr;have G0:=PV.keep (λ_=>rfl) D2;cases hv with
   | ow _ ri' h1 h2 h3 h4=>
    rw[hρ]at h1;cases h1;have:=YS G0 h4 (aK hh hr hρ h4 (by simp)) 0 ri.n ri.cap (by have:=PV.1;omega) h2 h3;have E2:l.length=ri.n:=PV.1.symm;rw[Nat.zero_mul,List.drop_zero, ←E2,List.take_length,E2]at this;exact this
   | owN _ ri' ao h1 h2 h3=>
    rw[hρ]at h1;cases h1
    rcases PV.2 with h | ⟨h,_⟩
    ·rw[h.2];exact .slE _ _ _ (Nat.zero_le _)
    ·rw[h3]at h;cases h
  ·cases hf
 ·rename_i r t off len;split at hf
  ·rename_i t' l m hr;cases rZ:m.isLock
   case true=>simp[rZ]at hf
   simp only[rZ,cond_false]at hf;split at hf
   case isFalse=>cases hf
   rename_i e;subst e;simp only[LE,Option.some.injEq,Prod.mk.injEq]at hf;obtain⟨rfl,rfl⟩:=hf;refine⟨?_,IF _ _,rfl⟩;obtain⟨H7,D2⟩:=hh.mark [r];obtain⟨ri,hρ,PV,F0⟩:=hh.rows r _ hr;have G0:=PV.keep (λ_=>rfl) D2;cases hv with
   | ov _ _ _ _ cap ao ri' h1 A2 ha hl hc=>
    rw[hρ]at h1;cases h1;have hn:=PV.1
    rcases ha with⟨rfl,_⟩ | ⟨rfl,OV,_⟩
    ·rw[List.take_zero];exact .slE _ _ _ hc
    ·exact YS G0 OV (aK hh hr hρ OV (by simp)) off len cap (by omega) hl hc
  ·cases hf
 ·cases hb:lD 8 d<;>simp[hb]at hf
  obtain⟨rfl,rfl⟩:=hf;exact⟨hv,ZL 8 _ hb⟩
def fK(hh:BA w0 outer own ρ h w):∀{ds ds':List V} {ids:List Nat} {vs:Nat→Value} (_:∀j (hj:j<ds.length),VR w ρ (bA outer ρ h) (vs j) ds[j])
  (_:HC h ds=some (ds',ids)),ds'.length=ds.length∧∀j (hj:j<ds'.length),VR w ρ (bA outer ρ (dB h ids)) (vs j) ds'[j]∧tB ds'[j]∧(ds'[j]).leaf=true
 | [],ds',ids,vs,_,hf=>by
  simp[HC]at hf;obtain⟨rfl,rfl⟩:=hf;exact⟨rfl,λj hj=>by simp at hj⟩
 | d :: ds,ds',ids,vs,hv,hf=>by
  simp only[HC]at hf;split at hf
  ·cases hf
  ·rename_i d' i h1;split at hf
   ·cases hf
   ·rename_i ds'' j h2;simp only[Option.some.injEq,Prod.mk.injEq]at hf;obtain⟨rfl,rfl⟩:=hf;have h3:=UL hh (hv 0 (by simp)) h1;have h4:=fK hh (vs:=λj=>vs (j+1)) (λj hj=>hv (j+1) (by simp;omega)) h2;refine⟨by simp[h4.1],λk hk=>?_⟩;cases k with
    | zero=>exact⟨WJ (λr hr=>by simp[hr]) h3.1,h3.2⟩
    | succ k=>
     have:=h4.2 k (by simpa using hk);exact⟨WJ (λr hr=>by simp[hr]) this.1,this.2⟩
omit [aA]in
def XQ{cs:List V}(h:∀j (hj:j<cs.length),tB cs[j]):tB (.agg cs):=λS=> .agg _ λj hj=>h j hj S
def rP(hh:BA w0 outer own ρ h w){v:Value}{d d':V}{ids:List Nat}(hv:VR w ρ (bA outer ρ h) v d)(hf:sD h d=some (d',ids)):
  VR w ρ (bA outer ρ (dB h ids)) v d'∧tB d':=by
 unfold sD at hf;split at hf
 ·rename_i cs;split at hf
  ·rename_i cs' i h1;simp only[Option.some.injEq,Prod.mk.injEq]at hf;obtain⟨rfl,rfl⟩:=hf;cases hv with
   | agg _ vs hs hv=>
    have:=fK hh (vs:=λj=>vs.getD j undef) hv h1;exact⟨.agg _ _ (by rw[hs,this.1]) λj hj=>(this.2 j hj).1,XQ λj hj=>(this.2 j hj).2.1⟩
  ·cases hf
 ·rename_i r off;split at hf
  ·rename_i cs m hr;cases hb:(m.isLock||cs.isEmpty)
   case true=>simp[hb]at hf
   simp only[hb,cond_false]at hf;split at hf
   ·rename_i cs' i h1;simp only[Option.some.injEq,Prod.mk.injEq]at hf;obtain⟨rfl,rfl⟩:=hf;obtain⟨ri,hρ,PV,F0⟩:=hh.rows r _ hr;cases hv with
    | bp _ _ ri' h2 hn=>
     rw[hρ]at h2;cases h2
     have IV:∀j,j<cs.length→w.cell? (gA ri.b (0+j))=some ((w.cell? (gA ri.b (0+j))).getD undef):=λj hj=>by
      obtain⟨_,u,h3,_⟩:=PV.2 j hj;rw[Nat.zero_add,h3];rfl
     have h4:=fK hh (vs:=λj=>(w.cell? (gA ri.b (0+j))).getD undef) (λj hj=>by
      obtain⟨_,u,h3,h5⟩:=PV.2 j hj;rw[Nat.zero_add,h3];exact h5) h1
     have F2:0<cs.length:=by
      cases cs with
      | nil=>simp at hb
      | cons=>simp
     have:=VR.fp (w:=w) (ρ:=ρ) (bad:=bA outer ρ (dB h (r :: i))) cs' off ri.b 0 (λj=>(w.cell? (gA ri.b (0+j))).getD undef) (by omega)
      (aK hh hr hρ hn (by simp)) (λj hj=>IV j (by omega)) (λj hj=>WJ (λq hq=>by simp[hq]) (h4.2 j hj).1)
     rw[Nat.zero_add]at this;exact⟨this,λS=> .fp _ _ λj hj=>(h4.2 j hj).2.1 S⟩
   ·cases hf
  ·cases hf
 ·have:=UL hh hv hf;exact⟨this.1,this.2.1⟩
def XN(hh:BA w0 outer own ρ h w):∀{ds ds':List V} {ids:List Nat} {vs:Nat→Value} (_:∀j (hj:j<ds.length),VR w ρ (bA outer ρ h) (vs j) ds[j])
  (_:eE h ds=some (ds',ids)),ds'.length=ds.length∧∀j (hj:j<ds'.length),VR w ρ (bA outer ρ (dB h ids)) (vs j) ds'[j]∧tB ds'[j]
 | [],ds',ids,vs,_,hf=>by
  simp[eE]at hf;obtain⟨rfl,rfl⟩:=hf;exact⟨rfl,λj hj=>by simp at hj⟩
 | d :: ds,ds',ids,vs,hv,hf=>by
  simp only[eE]at hf;split at hf
  ·cases hf
  ·rename_i d' i h1;split at hf
   ·cases hf
   ·rename_i ds'' j h2;simp only[Option.some.injEq,Prod.mk.injEq]at hf;obtain⟨rfl,rfl⟩:=hf;have h3:=rP hh (hv 0 (by simp)) h1;have h4:=XN hh (vs:=λj=>vs (j+1)) (λj hj=>hv (j+1) (by simp;omega)) h2;refine⟨by simp[h4.1],λk hk=>?_⟩;cases k with
    | zero=>exact⟨WJ (λr hr=>by simp[hr]) h3.1,h3.2⟩
    | succ k=>
     have:=h4.2 k (by simpa using hk);exact⟨WJ (λr hr=>by simp[hr]) this.1,this.2⟩
def VR.noRef{bad:Nat→Prop}{u:Value}{d:V}(hv:VR w ρ bad u d)(hd:tB d)(ρ':Nat→Option RI):VR w ρ' bad u d:=
 hv.keep (S:=λ_=>False) (hd _) (λ_ _ h=>h.elim) (λ_ _ _=>rfl) λ_ h=> .inl h
end
end Go.D
namespace Go.D
variable [aA]
def qJ(u:Value)(d:V):Prop:=∀(w:World) (ρ:Nat→Option RI) (bad:Nat→Prop),VR w ρ bad u d
def RL{t:TN}(h:t.flat=true){x:El t}{j:Nat}{w:World}{ρ:Nat→Option RI}{bad:Nat→Prop}{u:Value}(hv:VR w ρ bad u ((enc t x).getD j .undef))(hj:j<sz t):qJ u ((enc t x).getD j .undef):=by
 have FX:∀c∈enc t x,(∃k n,c= .int k n)∨(∃b,c= .bool b)∨∃s,c= .str s:=by
  cases t<;>simp[TN.flat]at h<;>intro c hc<;>simp[enc,wK,XI,uK,vK]at hc<;>(repeat' (rcases hc with rfl | hc))<;>(try subst hc)<;>first | exact .inl ⟨_,_,rfl⟩ | exact .inr (.inl ⟨_,rfl⟩) | exact .inr (.inr ⟨_,rfl⟩)
 have hm:(enc t x).getD j .undef∈enc t x:=by
  have hl:j<(enc t x).length:=by rw[WA];exact hj
  rw[List.getD_eq_getElem?_getD,List.getElem?_eq_getElem hl];exact List.getElem_mem hl
 have:=FX _ hm;generalize (enc t x).getD j .undef=d at hv this;intro w' ρ' bad'
 rcases this with⟨k,n,rfl⟩ | ⟨b,rfl⟩ | ⟨s,rfl⟩
 ·cases hv with | int _ _ h=>exact .int _ _ h
 ·cases hv;exact .bool _
 ·cases hv with | str _ h=>exact .str _ h
inductive GG where
 | triv
 | row (r:Nat)
 | cell (r o:Nat)
section
variable {C:Cx} {w0:World} {outer:Nat→Prop} {own:Ow} {ρ ρ':Nat→Option RI} {w w':World} {h h':Nat→Option fA}
def WS(w:World)(ρ:Nat→Option RI)(h:Nat→Option fA)(B:Nat)(u:Value)(d:V):GG→Prop
 | .triv=>qJ u d
 | .row r=>∃t,∃l:List (El t),∃m ri cap,h r=some ⟨.arr t l,m⟩∧xB true t m=true∧ρ r=some ri∧d= .sl t l∧(l=[]∧qJ u d∨ri.nl=false∧ri.b≠B∧ri.cap=cap∧u= .slice (some (gA ri.b 0)) l.length cap)
 | .cell r o=>∃t,∃l:List (El t),∃ri k j,∃hk:k<l.length,h r=some ⟨.arr t l, .tre⟩∧ρ r=some ri∧ri.nl=false∧j<sz t∧o=k *sz t+j∧w.cell? (gA ri.b o)=some u∧(d=(enc t l[k]).getD j .undef∨qJ u d)
open Classical in
theorem lB.lay(hh:BA w0 outer own ρ h w){i B:Nat}{ri':RI}{t:TN}{L:List (El t)}(og:Nat→GG)(bad':Nat→Prop)(hi:h' i=some ⟨.arr t L, .tre⟩)(hρ:ρ' i=some ri')(hB:ri'.b=B)
  (oW:∀ q t1 (l1:List (El t1)) m1 qi,q≠i→h' q=some ⟨.arr t1 l1,m1⟩→m1.isTre=true→ρ' q=some qi→qi.nl=false→
   (∃m2,h q=some ⟨.arr t1 l1,m2⟩∧m2.isTre=true)∧ρ q=some qi∧qi.b≠B∧(∀o,og o≠ .row q)∧∀o o',og o≠ .cell q o')
  (G5:AB w B→bA outer ρ h B) (yW:∀c,c≠B→c<w.heap.size→w'.heap[c]?=w.heap[c]?) (GV:∀c,AB w c→bad' c→bA outer ρ h c)
  (GY:∀o r ri,og o= .row r→ρ r=some ri→ri.nl=false→¬bad' ri.b)
  (UV:∀k (hk:k<L.length) j,j<sz t→∃u,w'.cell? (gA B (k *sz t+j))=some u∧WS w ρ h B u ((enc t L[k]).getD j .undef) (og (k *sz t+j)))
  (EV:∀o r,og o= .row r→∃row,h r=some row∧row.m.isRo=false)
  (IV:∀o r o',og o= .cell r o'→∃t1,∃l1:List (El t1),h r=some ⟨.arr t1 l1, .tre⟩) (I5:∀o o2 r o',og o= .row r→og o2≠ .cell r o')
  (inj1:∀o o2 r,og o= .row r→og o2= .row r→o=o2) (inj2:∀o o2 r o',og o= .cell r o'→og o2= .cell r o'→o=o2):
  lB w' bad' (GC w0 own) ρ' h':=by
 obtain⟨par,FW⟩:=hh.dep
 -- a block that a cell takes over,whole
 let At:Nat→Nat→Prop:=λc o=>∃r ri,og o= .row r∧ρ r=some ri∧ri.nl=false∧ri.b=c
 -- a place that has moved
 let Mv:Nat×Nat→Nat→Prop:=λq o=>∃r ri,og o= .cell r q.2∧ρ r=some ri∧ri.nl=false∧ri.b=q.1;have rowBlk:∀r row ri,h r=some row→ρ r=some ri→row.m.isRo=false→ri.nl=false→bA outer ρ h ri.b:=λr row ri h1 h2 h3 h4=> .inr ⟨r,row,ri,h1,h3,h2,h4,rfl⟩
 have atBad:∀c o,At c o→bA outer ρ h c:=by
  rintro c o ⟨r,ri,h1,h2,h3,rfl⟩;obtain⟨row,h4,h5⟩:=EV o r h1;exact rowBlk r row ri h4 h2 h5 h3
 have atUniq:∀c o o2,At c o→At c o2→o=o2:=by
  rintro c o o2 ⟨r,ri,h1,h2,h3,h4⟩ ⟨r2,ri2,g1,g2,g3,g4⟩;obtain⟨row,h5,_⟩:=EV o r h1;obtain⟨row2,g5,_⟩:=EV o2 r2 g1;have:=hh.inj r r2 row row2 ri ri2 h5 g5 h2 g2 h3 g3 (h4.trans g4.symm);subst this;exact inj1 o o2 r h1 g1
 have mvUniq:∀q o o2,Mv q o→Mv q o2→o=o2:=by
  rintro q o o2 ⟨r,ri,h1,h2,h3,h4⟩ ⟨r2,ri2,g1,g2,g3,g4⟩;obtain⟨_,_,h5⟩:=IV o r _ h1;obtain⟨_,_,g5⟩:=IV o2 r2 _ g1;have:=hh.inj r r2 _ _ ri ri2 h5 g5 h2 g2 h3 g3 (h4.trans g4.symm);subst this;exact inj2 o o2 r _ h1 g1
 let par':Nat→Option (Nat×Nat):=λc=>if c=B then none else if h1:∃o,At c o then some (B,Classical.choose h1)else match par c with
  | some q=>if h2:∃o,Mv q o then some (B,Classical.choose h2)else some q
  | none=>none
 have parAt:∀c o,c≠B→At c o→par' c=some (B,o):=λc o hc ha=>by
  have h1:∃o,At c o:=⟨o,ha⟩;simp only[par',if_neg hc,dif_pos h1];rw[atUniq c _ o (Classical.choose_spec h1) ha]
 have parMv:∀c q o,c≠B→¬bA outer ρ h c→par c=some q→Mv q o→par' c=some (B,o):=λc q o hc hb hp hm=>by
  have h1:¬∃o,At c o:=λ⟨o,ho⟩=>hb (atBad c o ho);have h2:∃o,Mv q o:=⟨o,hm⟩;simp only[par',if_neg hc,dif_neg h1,hp,dif_pos h2];rw[mvUniq q _ o (Classical.choose_spec h2) hm]
 have parKeep:∀c q,c≠B→¬bA outer ρ h c→par c=some q→(∀o,¬Mv q o)→par' c=some q:=λc q hc hb hp hm=>by
  have h1:¬∃o,At c o:=λ⟨o,ho⟩=>hb (atBad c o ho);have h2:¬∃o,Mv q o:=λ⟨o,ho⟩=>hm o ho;simp only[par',if_neg hc,dif_neg h1,hp,dif_neg h2]
 have neB:∀c,¬bA outer ρ h c→AB w c→c≠B:=λc hb hc e=>hb (by subst e;exact G5 hc)
 have lt:∀r row ri,h r=some row→ρ r=some ri→ri.nl=false→ri.b<w.heap.size:=λr row ri h1 h2 h3=>by
  obtain⟨ri1,k1,_,k2⟩:=hh.rows r row h1;rw[h2]at k1;cases k1;exact(k2 h3).2
 -- below a block that is no row's
 have deep:∀c q,par q.1≠none→¬bA outer ρ h c→AB w c→par c=some q→par' c=some q:=λc q hq hb hc hp=>by
  refine parKeep c q (neB c hb hc) hb hp ?_;rintro o ⟨r,ri,h1,h2,h3,h4⟩;obtain⟨t1,l1,h5⟩:=IV o r _ h1;exact hq (by rw[←h4];exact(FW r t1 l1 _ ri h5 rfl h2 h3).1)
 have hw:∀b,¬bA outer ρ h b→AB w b→GC w0 own b→w'.heap[b]?=w.heap[b]?:=λb hb hc _=>yW b (neB b hb hc) hc.lt;have rY:∀b,AB w b→GC w0 own b→bad' b→bA outer ρ h b:=λb hc _ hb=>GV b hc hb;refine⟨par',λq t1 l1 m1 qi h1 mX h2 h3=>?_⟩
 by_cases hq:q=i
 ·subst hq;rw[hi]at h1;cases h1;rw[hρ]at h2;cases h2;refine⟨by rw[hB];simp only[par',if_true],λk hk j hj=>?_⟩;obtain⟨u,c1,c2⟩:=UV k hk j hj;rw[hB];refine⟨u,c1,?_⟩;cases ho:og (k *sz t+j)with
  | triv=>rw[ho]at c2;exact .triv _ _ _ c2
  | row r=>
   rw[ho]at c2;obtain⟨t2,l2,m,ri,cap,e1,e2,e3,e4,e5⟩:=c2;rw[e4]
   rcases e5 with⟨_,e5⟩ | ⟨e5,e6,rfl,e7⟩
   ·rw[e4]at e5;exact .triv _ _ _ e5
   obtain⟨ri1,k1,k2,k3⟩:=hh.rows r _ e1;rw[e3]at k1;cases k1
   rcases k2.2 with h | ⟨_,zZ,EX,PZ,d3,d4⟩
   ·rw[e5]at h;cases h.1
   have FV:=k2.1;have HV:=(k3 e5).2;have hm:m.isRo=false:=by cases m<;>first | rfl | simp[xB]at e2
   have hs:=yW ri.b e6 HV;have WV:l2.length *sz t2≤ri.cap *sz t2:=Nat.mul_le_mul_right _ (by omega);rw[e7]
   refine .sl _ t2 l2 ri.b ri.cap (λi j=>(w'.cell? (gA ri.b (i *sz t2+j))).getD undef) (GY _ r ri ho e3 e5) (((k3 e5).1.2 hm).imp id (own.ok _)) (parAt _ _ e6 ⟨r,ri,ho,e3,e5,rfl⟩) (zZ.same hs) (by omega) PZ
    (λj hj=>?_) (λa ha b hb=>?_) λa ha b hb=>?_
   ·rw[show w'.frozen? (gA ri.b j)=w.frozen? (gA ri.b j) by simp[World.frozen?,gA,hs],LC hs];exact d3 j hj
   ·obtain⟨x,f1,_⟩:=d4 a ha b hb;rw[LC hs,f1];rfl
   ·obtain⟨x,f1,f9⟩:=d4 a ha b hb;rw[LC hs,f1,Option.getD_some];cases m with
    | ro=>cases hm
    | lock | tlk=>simp[xB]at e2
    | own=>exact .triv _ _ _ (RL (by simpa[xB]using e2) f9 hb)
    | tre=>
     obtain⟨x2,f2,f3⟩:=(FW r t2 l2 _ ri e1 rfl e3 e5).2 a ha b hb;rw[f1]at f2;cases f2;refine f3.gen hw rY (λ_ h=>h) (λc YV hc _ hp=>?_) λc p YV hc _ qY hp=>deep c p qY YV hc hp;refine parKeep c _ (neB c YV hc) YV hp ?_;rintro o2 ⟨r2,ri2,g1,g2,g3,g4⟩;obtain⟨_,_,g5⟩:=IV o2 r2 _ g1;have:=hh.inj r2 r _ _ ri2 ri g5 e1 g2 e3 g3 e5 g4;subst this;exact I5 _ _ _ _ ho g1
  | cell r o'=>
   rw[ho]at c2;obtain⟨t2,l2,ri,k',j',eW,e1,e2,e3,e4,e5,e6,e7⟩:=c2;obtain⟨u2,f1,f2⟩:=(FW r t2 l2 _ ri e1 rfl e2 e3).2 k' eW j' e4;rw[←e5,e6]at f1;cases f1
   rcases e7 with e7 | e7
   case inr=>exact .triv _ _ _ e7
   rw[e7];rw[←e5]at f2;exact f2.gen hw rY (λ_ h=>h) (λc YV hc _ hp=>parMv c _ _ (neB c YV hc) YV hp ⟨r,ri,ho,e2,e3,rfl⟩) λc p YV hc _ qY hp=>deep c p qY YV hc hp
 ·obtain⟨⟨m2,a1,am⟩,a2,a3,a4,a5⟩:=oW q t1 l1 m1 qi hq h1 mX h2 h3;have hd:=FW q t1 l1 m2 qi a1 am a2 h3;refine hd.genT rfl (yW qi.b a3 (lt q _ qi a1 a2 h3)) (λb _=>hw b) (λb _=>rY b) (λ_ _ h=>h) ?_ λc p hT YV hc _ hp=>?_
  ·have h1:¬∃o,At qi.b o:=by
    rintro⟨o,r,ri,g1,g2,g3,g4⟩;obtain⟨row,g5,_⟩:=EV o r g1;have:=hh.inj r q row _ ri qi g5 a1 g2 a2 g3 h3 g4;subst this;exact a4 o g1
   simp only[par',if_neg a3,dif_neg h1,hd.1]
  ·refine parKeep c p (neB c YV hc) YV hp ?_;rintro o ⟨r,ri,g1,g2,g3,g4⟩;obtain⟨t5,l5,g5⟩:=IV o r _ g1;cases hT with
   | one _ o2 h=>
    rw[hp]at h;cases h;have:=hh.inj r q _ _ ri qi g5 a1 g2 a2 g3 h3 g4;subst this;exact a5 o _ g1
   | step _ c2 o2 h E5=>
    rw[hp]at h;cases h;have hn:=(FW r t5 l5 _ ri g5 rfl g2 g3).1;rw[g4]at hn;cases E5 with
    | one _ _ h2=>rw[hn]at h2;cases h2
    | step _ _ _ h2 _=>rw[hn]at h2;cases h2
omit [aA]in
def XG:∀(vs:List V) (seen:List Nat),UC h seen vs=true→
  (∀(j:Nat) (v:V),vs[j]?=some v→(∃r t,∃l:List (El t),∃m,v= .ow r∧h r=some ⟨.arr t l,m⟩∧xB true t m=true∧r∉seen)∨(lD 8 v=true∧(∀r,v≠ .ow r)∧(v= .nil∨(∃k n,v= .int k n)∨(∃b,v= .bool b)∨∃s,v= .str s)))∧
  ∀(i j r:Nat),vs[i]?=some (V.ow r)→vs[j]?=some (V.ow r)→i=j
 | [],seen,_=>⟨λj v hv=>by simp at hv,λi j r hi=>by simp at hi⟩
 | v :: vs,seen,ht=>by
  unfold UC at ht;split at ht
  ·rename_i r;split at ht
   case h_2=>cases ht
   rename_i t l m hr;cases QV:xB true t m
   case false=>simp[QV]at ht
   simp only[QV,cond_true]at ht;cases hs:seen.any (Nat.beq r)
   case true=>simp[hs]at ht
   simp only[hs,cond_false]at ht
   have AZ:r∉seen:=λhm=>by
    rw[List.any_eq_false]at hs;exact hs r hm (Nat.beq_refl r)
   obtain⟨i1,i2⟩:=XG vs (r :: seen) ht
   have zW:∀j,vs[j]?≠some (V.ow r):=λj hj=>by
    rcases i1 j _ hj with⟨r',_,_,_,e,_,_,hn⟩ | ⟨_,h2,_⟩
    ·cases e;exact hn (by simp)
    ·exact h2 r rfl
   refine⟨λj u hu=>?_,λi j q hi hj=>?_⟩
   ·cases j with
    | zero=>simp at hu;subst hu;exact .inl ⟨r,t,l,m,rfl,hr,QV,AZ⟩
    | succ j=>
     rcases i1 j u (by simpa using hu)with⟨r',t',l',m',e1,e2,e3,e4⟩ | h
     ·exact .inl ⟨r',t',l',m',e1,e2,e3,λhm=>e4 (by simp[hm])⟩
     ·exact .inr h
   ·cases i with
    | zero=>
     simp at hi;subst hi;cases j with
     | zero=>rfl
     | succ j=>exact absurd (by simpa using hj) (zW j)
    | succ i=>
     cases j with
     | zero=>simp at hj;subst hj;exact absurd (by simpa using hi) (zW i)
     | succ j=>rw[i2 i j q (by simpa using hi) (by simpa using hj)]
  all_goals first
   | cases ht
   | (obtain ⟨i1,i2⟩:=XG vs seen ht
      refine⟨λj u hu=>?_,λi j q hi hj=>?_⟩
      ·cases j with
       | zero=>simp at hu;subst hu;exact .inr ⟨rfl,(λr h=>by cases h),by simp⟩
       | succ j=>exact i1 j u (by simpa using hu)
      ·cases i with
       | zero=>simp at hi
       | succ i=>
        cases j with
        | zero=>simp at hj
        | succ j=>rw[i2 i j q (by simpa using hi) (by simpa using hj)])
omit [aA]in
def WN:∀{ds ds':List V} {ids:List Nat},HC h ds=some (ds',ids)→ds'.length=ds.length∧∀j (hj:j<ds.length) (kW:j<ds'.length),∃i,XB h ds[j]=some (ds'[j],i)∧∀r∈i,r∈ids
 | [],ds',ids,hf=>by
  simp[HC]at hf;obtain⟨rfl,rfl⟩:=hf;exact⟨rfl,λj hj=>by simp at hj⟩
 | d :: ds,ds',ids,hf=>by
  simp only[HC]at hf;split at hf
  ·cases hf
  rename_i d' i h1;split at hf
  ·cases hf
  rename_i ds'' j h2;simp only[Option.some.injEq,Prod.mk.injEq]at hf;obtain⟨rfl,rfl⟩:=hf;obtain⟨k1,k2⟩:=WN h2;refine⟨by simp[k1],λq hq ZW=>?_⟩;cases q with
  | zero=>exact⟨i,h1,λr hr=>by simp[hr]⟩
  | succ q=>
   obtain⟨i',e1,e2⟩:=k2 q (by simpa using hq) (by simpa using ZW);exact⟨i',e1,λr hr=>by simp[e2 r hr]⟩
omit [aA]in
def rQ:∀{ds ds':List V} {ids:List Nat},eE h ds=some (ds',ids)→ds'.length=ds.length∧∀j (hj:j<ds.length) (kW:j<ds'.length),∃i,sD h ds[j]=some (ds'[j],i)∧∀r∈i,r∈ids
 | [],ds',ids,hf=>by
  simp[eE]at hf;obtain⟨rfl,rfl⟩:=hf;exact⟨rfl,λj hj=>by simp at hj⟩
 | d :: ds,ds',ids,hf=>by
  simp only[eE]at hf;split at hf
  ·cases hf
  rename_i d' i h1;split at hf
  ·cases hf
  rename_i ds'' j h2;simp only[Option.some.injEq,Prod.mk.injEq]at hf;obtain⟨rfl,rfl⟩:=hf;obtain⟨k1,k2⟩:=rQ h2;refine⟨by simp[k1],λq hq ZW=>?_⟩;cases q with
  | zero=>exact⟨i,h1,λr hr=>by simp[hr]⟩
  | succ q=>
   obtain⟨i',e1,e2⟩:=k2 q (by simpa using hq) (by simpa using ZW);exact⟨i',e1,λr hr=>by simp[e2 r hr]⟩
omit [aA]in
def oO{v v':V}{ids:List Nat}(hf:sD h v=some (v',ids))(hv:∀r off,v≠ .bp r off):(cellsOf v').length=(cellsOf v).length∧
  ∀j (hj:j<(cellsOf v).length) (kW:j<(cellsOf v').length),∃i,XB h (cellsOf v)[j]=some ((cellsOf v')[j],i)∧∀r∈i,r∈ids:=by
 unfold sD at hf;split at hf
 ·rename_i cs;split at hf
  ·rename_i cs' i h1;simp only[Option.some.injEq,Prod.mk.injEq]at hf;obtain⟨rfl,rfl⟩:=hf;exact WN h1
  ·cases hf
 ·exact absurd rfl (hv _ _)
 ·rename_i h1 h2;have e1:cellsOf v=[v]:=by cases v<;>first | rfl | exact absurd rfl (h1 _)
  have e2:cellsOf v'=[v']:=by
   unfold XB at hf;split at hf
   ·split at hf
    ·rename_i m _;cases hm:m.isLock<;>simp[hm]at hf
     obtain⟨rfl,_⟩:=hf;rfl
    ·cases hf
   ·split at hf
    ·rename_i m _;cases hm:m.isLock
     ·simp only[hm,cond_false]at hf;split at hf
      ·simp at hf;obtain⟨rfl,_⟩:=hf;rfl
      ·cases hf
     ·simp[hm]at hf
    ·cases hf
   ·cases hb:lD 8 v<;>simp[hb]at hf
    obtain⟨rfl,_⟩:=hf;exact e1
  simp only[e1,e2];refine⟨rfl,λj hj kW=>?_⟩;have:j=0:=by simpa using hj
  subst this;exact⟨ids,hf,λr hr=>hr⟩
def CG:V→GG
 | .ow r=> .row r
 | _=> .triv
def CS{v d e:V}{i:List Nat}{u:Value}{B:Nat}(hh:BA w0 outer own ρ h w)(hv:VR w ρ (bA outer ρ h) u v)(hf:XB h v=some (d,i))(hs:tD d e)
  (ht:(∃r t,∃l:List (El t),∃m,v= .ow r∧h r=some ⟨.arr t l,m⟩∧xB true t m=true)∨(lD 8 v=true∧(∀r,v≠ .ow r)∧(v= .nil∨(∃k n,v= .int k n)∨(∃b,v= .bool b)∨∃s,v= .str s))) (hB:∀r row ri,h r=some row→ρ r=some ri→ri.nl=false→r∈i→ri.b≠B):
  WS w ρ h B u e (CG v):=by
 rcases ht with⟨r,t,l,m,rfl,hr,hm⟩ | ⟨h1,h2,h3⟩
 ·simp only[XB,hr]at hf;cases hl:m.isLock<;>simp[hl]at hf
  obtain⟨rfl,rfl⟩:=hf;cases hs;obtain⟨ri,hρ,PV,_⟩:=hh.rows r _ hr;refine⟨t,l,m,ri,ri.cap,hr,hm,hρ,rfl,?_⟩;have hn:=PV.1;cases hv with
  | ow _ ri' k1 k2 k3 k4=>
   rw[hρ]at k1;cases k1;exact .inr ⟨k4,hB r _ ri hr hρ k4 (by simp),rfl,by rw[←hn]⟩
  | owN _ ri' ao k1 k2 k3=>
   rw[hρ]at k1;cases k1;have dX:l=[]:=List.eq_nil_of_length_eq_zero (by omega);subst dX;exact .inl ⟨rfl,λ_ _ _=> .slE _ _ _ (Nat.zero_le _)⟩
 ·have e1:XB h v=some (v,[]):=by
   unfold XB;split
   ·exact absurd rfl (h2 _)
   ·simp[lD]at h1
   ·simp[h1]
  rw[e1]at hf;simp only[Option.some.injEq,Prod.mk.injEq]at hf;obtain⟨rfl,rfl⟩:=hf
  have:CG v= .triv:=by
   unfold CG;split
   ·exact absurd rfl (h2 _)
   ·rfl
  rw[this]
  have hp:qJ u v:=λw' ρ' bad'=>by
   rcases h3 with rfl | ⟨k,n,rfl⟩ | ⟨b,rfl⟩ | ⟨s,rfl⟩
   ·cases hv;exact .nil
   ·cases hv with | int _ _ h=>exact .int _ _ h
   ·cases hv;exact .bool _
   ·cases hv with | str _ h=>exact .str _ h
  exact λw' ρ' bad'=>VR.sub hs (hp w' ρ' bad')
end
end Go.D
namespace Go.D
variable [aA]
section
variable {C:Cx} {w0:World} {outer:Nat→Prop} {own:Ow} {ρ:Nat→Option RI} {st st':St} {a:Act} {w:World} {h:Nat→Option fA}
def kJ{bad:Nat→Prop}(v:Value):VR w ρ bad v (eG v):=by
 unfold eG;split
 ·exact .bool _
 ·rename_i k n;cases hb:(decide (k.min≤n)&&decide (n≤k.max))
  ·exact .undef _
  ·simp at hb;exact .int _ _ hb
 ·rename_i s;cases hb:Nat.ble s.data.toList.length 1000000
  ·exact .undef _
  ·have:=Nat.le_of_ble_eq_true hb;have h2:(⟨s.data.toList.toArray⟩:ByteArray)=s:=by cases s;simp
   have h3:=VR.str (w:=w) (ρ:=ρ) (bad:=bad) s.data.toList (by unfold maxLen;omega);rw[h2]at h3;exact h3
 ·exact .nil
 ·exact .nili
 ·exact .undef _
def xA.opd(hr:xA C w0 outer own ρ st a w)(x:Operand):VR w ρ (bA outer ρ st.h) (a.eval x) (opd st.s x):=by
 cases x with
 | tmp t=>exact hr.slots t
 | const v=>exact kJ v
 | global g=>exact .undef _
 | func f=>exact .fn f [] #[] rfl λj hj=>by simp at hj
def uB(P:Program)(o:Oper)(a:Act)(w:World)(post:Act→World→Prop):Prop:=
 ∀next Q,(∀a' w',post a' w'→next a' w')→o.wp P a w next Q
omit [aA]in
def ZA{P:Program}{o:Oper}{v:Value}{w':World}{post:Act→World→Prop}(BV:(execOp a.eval o).run P w= .ok (.value v) w')
  (hp:post (a.put o.dst v) w'):uB P o a w post:=λnext Q hn=>by
 unfold Oper.wp;rw[BV,Oper.upon_value];exact hn _ _ hp
omit [aA]in
def UQ{P:Program}{o:Oper}{w':World}{post:Act→World→Prop}(BV:(execOp a.eval o).run P w= .ok .skip w')
  (hp:post (a.put o.dst undef) w'):uB P o a w post:=λnext Q hn=>by
 unfold Oper.wp;rw[BV,Oper.upon_skip];exact hn _ _ hp
def Ext(i:Nat)(ρ ρ':Nat→Option RI):Prop:=∀r,¬(i≤r∧r<i+128)→ρ' r=ρ r
def qB(C:Cx)(w0:World)(outer:Nat→Prop)(own:Ow)(i:Nat)(ρ:Nat→Option RI)(st':St)(a':Act)(w':World):Prop:=
 ∃ρ',xA C w0 outer own ρ' st' a' w'∧Ext i ρ ρ'∧∀r ri,ρ r=some ri→ρ' r=some ri
def xA.after(hr:xA C w0 outer own ρ st a w){i:Nat}{dst:Option Nat}{v:Value}{d:V}(hv:VR w ρ (bA outer ρ st.h) v d)
  (hk:AA C dst st d some=some st'):qB C w0 outer own i ρ st' (a.put dst v) w:=
 ⟨ρ,(hr.put hv hk).1,λ_ _=>rfl,λ_ _ h=>h⟩
def xA.turn(hr:xA C w0 outer own ρ st a w){ρ':Nat→Option RI}{h':Nat→Option fA}{w':World}(hh:BA w0 outer own ρ' h' w')
  (hv:∀u d,VR w ρ (bA outer ρ st.h) u d→VR w' ρ' (bA outer ρ' h') u d):xA C w0 outer own ρ' {st with h:=h'} a w':=
 ⟨hh,λi=>hv _ _ (hr.slots i),hr.size,hr.defers,hr.glob⟩
omit [aA]in
def fJ(w:World)(o:Obj):Wx w (w.alloc o):=⟨rfl,rfl,rfl,by simp⟩
omit [aA]in
def HS(w:World):Wx w w.drew:=⟨rfl,rfl,rfl,Nat.le_refl _⟩
omit [aA]in
def GF(w:World)(o:Obj)(b:Nat)(hb:b<w.heap.size):(w.alloc o).heap[b]?=w.heap[b]?:=by
 show(w.heap.push o)[b]?=_
 rw[Array.getElem?_push,if_neg (by omega)]
def xA.newRow(hr:xA C w0 outer own ρ st a w){i:Nat}(hi:ρ i=none)(ri:RI)(hb:ri.nl=false→ri.b=w.heap.size)(w':World)(xW:Wx w w')
  (hw:∀b,b<w.heap.size→w'.heap[b]?=w.heap[b]?) (JV:ri.nl=false→w.heap.size<w'.heap.size) {c:KC} {dst:Option Nat} {v:Value} {d:V}
  (hc:∀bad,(∀u d,VR w ρ (bA outer ρ st.h) u d→VR w' (cA ρ i (some ri)) bad u d)→iC w' (cA ρ i (some ri)) bad ri c)
  (hv:∀bad,VR w' (cA ρ i (some ri)) bad v d) (hk:VC C dst st i c d some=some st'):qB C w0 outer own i ρ st' (a.put dst v) w':=by
 obtain⟨h1,h2⟩:=hr.heap.alloc i hi ri hb w' xW hw JV c (hc _);refine⟨_,((hr.turn h1 h2).put (hv _) hk).1,λr hn=>jA _ _ _ _ ?_,λr qi hq=>?_⟩
 ·rintro rfl;exact hn ⟨Nat.le_refl _,by omega⟩
 ·rw[jA];exact hq;rintro rfl;simp[hi]at hq
def xA.newRowM(hr:xA C w0 outer own ρ st a w){i:Nat}(hi:ρ i=none)(ri:RI)(hb:ri.nl=false→ri.b=w.heap.size)(w':World)(xW:Wx w w')
  (hw:∀b,b<w.heap.size→w'.heap[b]?=w.heap[b]?) (JV:ri.nl=false→w.heap.size<w'.heap.size) {c:KC} {dst:Option Nat} {v:Value} {d:V} (m:aB)
  (hc:∀bad,(∀u d,VR w ρ (bA outer ρ st.h) u d→VR w' (cA ρ i (some ri)) bad u d)→iC w' (cA ρ i (some ri)) bad ri c)
  (hv:∀bad,VR w' (cA ρ i (some ri)) bad v d)
  (hm:m= .own∨m= .tre∧((∀ b,bA outer (cA ρ i (some ri)) (cA st.h i (some ⟨c, .tre⟩)) b→bA outer ρ st.h b∨w.heap.size≤b)→
   lB w' (bA outer (cA ρ i (some ri)) (cA st.h i (some ⟨c, .tre⟩))) (GC w0 own) (cA ρ i (some ri)) (cA st.h i (some ⟨c, .tre⟩))))
  (hk:VC C dst st i c d some m=some st'):qB C w0 outer own i ρ st' (a.put dst v) w':=by
 rcases hm with rfl | ⟨rfl,hm⟩
 ·exact hr.newRow hi ri hb w' xW hw JV hc hv hk
 obtain⟨h1,h2⟩:=hr.heap.alloc i hi ri hb w' xW hw JV c (hc _)
 have h3:=h1.turn (m':= .tre) (qA _ _ _) rfl λGV=>by
  rw[uF]at GV⊢;refine hm λb YV=>?_
  rcases GV b YV with h | ⟨q,row,qi,e1,e2,e3,e4,e5⟩
  ·exact .inl (.inl h)
  ·by_cases hq:q=i
   ·subst hq;rw[qA]at e3;cases e3;right;rw[←e5,hb e4];exact Nat.le_refl _
   ·rw[jA _ _ _ _ hq]at e1 e3;exact .inl (.inr ⟨q,row,qi,e1,e2,e3,e4,e5⟩)
 rw[uF]at h3;refine⟨_,((hr.turn h3.1 λu d hu=>h3.2 _ _ (h2 _ _ hu)).put (hv _) hk).1,λr hn=>jA _ _ _ _ ?_,λr qi hq=>?_⟩
 ·rintro rfl;exact hn ⟨Nat.le_refl _,by omega⟩
 ·rw[jA];exact hq;rintro rfl;simp[hi]at hq
def qK{bad:Nat→Prop}{v:Value}{d:V}(hv:VR w ρ bad v d)(hl:FD (cellsOf d)=true):
  v.cells.size=(cellsOf d).length∧(∀j (hj:j<(cellsOf d).length),VR w ρ bad (v.cells.getD j undef) (cellsOf d)[j])∧∀u∈v.cells.toList,u.oneCell'=true:=by
 by_cases ha:∃cs,d= .agg cs
 ·obtain⟨cs,rfl⟩:=ha;cases hv with
  | agg _ vs hs hv=>
   refine⟨hs,hv,λu hu=>?_⟩;obtain⟨j,hj,rfl⟩:=List.mem_iff_getElem.1 hu;have kW:j<vs.size:=by simpa[Value.cells]using hj
   have h1:=hv j (by omega);simp only[cellsOf]at hl;have h2:=List.all_eq_true.1 hl cs[j] (List.getElem_mem (by omega));have h3:=h1.one h2;rw[Array.getD_eq_getD_getElem?,Array.getElem?_eq_getElem kW]at h3;simpa[Value.cells]using h3
 ·have hc:cellsOf d=[d]:=by cases d<;>first | rfl | exact absurd ⟨_,rfl⟩ ha
  rw[hc]at hl⊢;have hd:d.leaf=true:=by simpa[FD]using hl
  have h1:=hv.one hd;have J5:v.cells= #[v]:=by cases v<;>first | rfl | (simp[Value.oneCell']at h1)
  rw[J5];refine⟨rfl,λj hj=>?_,λu hu=>?_⟩
  ·simp at hj;subst hj;exact hv
  ·simp at hu;subst hu;exact h1
omit [aA]in
def oF(w:World)(c:Array Value)(e:TypeId)(j:Nat)(hj:j<c.size):(w.alloc (.cells c e)).cell? (gA w.heap.size j)=some (c.getD j undef):=by
 rw[gA,World.cell?_alloc_new,Array.getD_eq_getD_getElem?,Array.getElem?_eq_getElem hj];rfl
def zdW{bad bad':Nat→Prop}{ρ':Nat→Option RI}{c:Array Value}{e:TypeId}{cs:List V}{ri:RI}(hn:ri.nl=false)(hb:ri.b=w.heap.size)(hs:c.size=cs.length)
  (hv:∀j (hj:j<cs.length),VR w ρ bad (c.getD j undef) cs[j]) (hk:∀u d,VR w ρ bad u d→VR (w.alloc (.cells c e)) ρ' bad' u d):
  iC (w.alloc (.cells c e)) ρ' bad' ri (.box cs):=by
 refine⟨hn,λj hj=>?_⟩;rw[hb];exact⟨World.frozen?_alloc_new _ _ _ _,_,oF w c e j (by omega),hk _ _ (hv j hj)⟩
def XS(hr:xA C w0 outer own ρ st a w){i:Nat}(hi:ρ i=none){v:Value}{e:TypeId}{cs:List V}(hs:v.cells.size=cs.length)
  (hv:∀j (hj:j<cs.length),VR w ρ (bA outer ρ st.h) (v.cells.getD j undef) cs[j]) {dst:Option Nat} (hk:VC C dst st i (.box cs) (.bp i 0) some=some st'):
  qB C w0 outer own i ρ st' (a.put dst (.pointer (some ⟨w.heap.size,0,none⟩))) (w.alloc (.cells v.cells e)):=
 hr.newRow hi ⟨w.heap.size,0,0,false⟩ (λ_=>rfl) _ (fJ _ _) (λb hb=>GF _ _ _ hb) (λ_=>by simp)
  (λbad eW=>zdW rfl rfl hs hv eW) (λbad=> .bp i 0 ⟨w.heap.size,0,0,false⟩ (qA _ _ _) rfl) hk
variable {o:Oper} {i:Nat} (hr:xA C w0 outer own ρ st a w)
include hr
def lS(x:Operand)(ho:o.op= .move x∨o.op= .assign x)(hk:AA C o.dst st (opd st.s x) some=some st'):
  uB C.P o a w (qB C w0 outer own i ρ st'):=
 ZA (v:=a.eval x) (w':=w) (by rcases ho with ho | ho<;>simp[execOp,ho]) (hr.after (hr.opd x) hk)
def zdi(c x y:Operand)(ho:o.op= .pick c x y)(t p q:Bool)(hc:opd st.s c= .bool t)(hx:opd st.s x= .bool p)(hy:opd st.s y= .bool q)
  (hk:AA C o.dst st (.bool (cond t p q)) some=some st'):uB C.P o a w (qB C w0 outer own i ρ st'):=by
 have h1:=hr.opd c;rw[hc]at h1;have h2:=hr.opd x;rw[hx]at h2;have h3:=hr.opd y;rw[hy]at h3;generalize K5:a.eval c=vc at h1;generalize BZ:a.eval x=vx at h2;generalize s9:a.eval y=vy at h3;cases h1;cases h2;cases h3;refine ZA (v:= .bool (cond t p q)) (w':=w) ?_ (hr.after (.bool _) hk);simp[execOp,ho,K5,BZ,s9,asBool]
def zcY(e:TypeId)(ho:o.op= .alloc e)(hi:ρ i=none)(cs:List V)(hz:PO C.P e=some cs)(hk:VC C o.dst st i (.box cs) (.bp i 0) some=some st'):
  uB C.P o a w (qB C w0 outer own i ρ st'):=by
 unfold PO at hz;cases vX:(C.P.info? e).bind (·.zero)with
 | none=>rw[vX]at hz;cases hz
 | some z=>
  rw[vX]at hz;simp only[Option.map_some,Option.some.injEq]at hz;subst hz;obtain⟨info,SW,EW⟩:=Option.bind_eq_some_iff.1 vX;refine ZA (w':=w.alloc (.cells z.cells e)) ?_ (XS hr hi (v:=z) (e:=e) (by simp) (λj hj=>?_) hk)
  ·simp[execOp,ho,Instr.alloc,zeroValue,typeInfo,SW,EW,newVar,newRow]
  ·rw[List.getElem_map];have kW:j<z.cells.size:=by simpa using hj
   rw[Array.getD_eq_getD_getElem?,Array.getElem?_eq_getElem kW];exact kJ _
def zd4(e:TypeId)(x:Operand)(ho:o.op= .box e x)(hi:ρ i=none)(hl:FD (cellsOf (opd st.s x))=true)
  (hk:VC C o.dst st i (.box (cellsOf (opd st.s x))) (.bp i 0) some=some st'):uB C.P o a w (qB C w0 outer own i ρ st'):=by
 obtain⟨h1,h2,h3⟩:=qK (hr.opd x) hl;refine ZA (w':=w.alloc (.cells (a.eval x).cells e)) ?_ (XS hr hi (v:=a.eval x) (e:=e) h1 h2 hk);simp[execOp,ho,Instr.box,newVar,newRow]
omit hr
def xK(w:World)(ρ:Nat→Option RI)(bad:Nat→Prop)(b o:Nat)(cs:List V):Prop:=
 ∀j (hj:j<cs.length),∃u,w.cell? (gA b (o+j))=some u∧VR w ρ bad u cs[j]
omit [aA]in
def TC(b o n:Nat):(gA b o).add n=gA b (o+n):=Addr.add_lit b o n
omit [aA]in
def ZC{P:Program}{t:TypeId}{d:TypeDesc}(h:P.underlying t=some d):(underlying t).run P w= .ok d w:=by
 simp[underlying,h]
omit [aA]in
def mG{P:Program}{t:TypeId}{ag:Bool}(h:xC P t=some ag):(isAgg t).run P w= .ok ag w:=by
 unfold xC at h;unfold isAgg;split at h
 ·rename_i hu;cases h;simp[underlying,hu]
 ·rename_i hu;cases h;simp[underlying,hu]
 ·rename_i d h1 h2 hu;cases h;rw[Sem.run_bind,ZC hu,Result.andThen_ok];cases d<;>first | rfl | (exfalso;exact h1 _ rfl) | (exfalso;exact h2 _ _ rfl)
 ·cases h
omit [aA]in
def ME{P:Program}{t:TypeId}{n:Nat}(h:oC P t=some n):(sizeOf t).run P w= .ok n w:=by
 unfold oC at h;obtain⟨i,h1,h2⟩:=Option.map_eq_some_iff.1 h;simp[sizeOf,typeInfo,h1,h2]
def XO{P:Program}{bad:Nat→Prop}{t:TypeId}{ag:Bool}{n b o off:Nat}{cs:List V}{R:Type}{K:V→Option R}{r:R}(h1:xC P t=some ag)(h2:oC P t=some n)
  (hc:xK w ρ bad b o cs) (hk:CD ag n cs off K=some r):
  ∃d v,K d=some r∧VR w ρ bad v d∧(loadVar t (gA b (o+off))).run P w= .ok v w:=by
 unfold CD at hk;cases ag with
 | true=>
  simp only[gB]at hk;cases hb:Nat.ble (off+n) cs.length
  case false=>simp[hb]at hk
  simp only[hb,gB]at hk;have WV:=Nat.le_of_ble_eq_true hb
  have IV:∀j,j<n→w.cell? ((gA b (o+off)).add j)=some ((w.cell? (gA b (o+off+j))).getD undef):=λj hj=>by
   obtain⟨u,h3,_⟩:=hc (off+j) (by omega);rw[TC,show o+off+j=o+(off+j) by omega,h3];rfl
  refine⟨_, .agg ((List.range n).map λj=>(w.cell? (gA b (o+off+j))).getD undef).toArray,hk,?_,?_⟩
  ·refine .agg _ _ (by simp;omega) λj hj=>?_;have OY:j<n:=by simp at hj;omega
   obtain⟨u,h3,h4⟩:=hc (off+j) (by omega);have he:((cs.drop off).take n)[j]=cs[off+j]'(by omega):=by simp
   rw[he]
   have hg:(((List.range n).map λj=>(w.cell? (gA b (o+off+j))).getD undef).toArray.getD j undef)=u:=by
    simp[OY,show o+off+j=o+(off+j) by omega,h3]
   rw[hg];exact h4
  ·simp only[loadVar,Sem.run_bind,mG h1,Result.andThen_ok,Sem.run_ite,if_true,ME h2,run_loadCells w _ n _ IV,Sem.run_pure]
 | false=>
  simp only[OE]at hk;split at hk
  ·rename_i c r' hd
   have HV:off<cs.length:=by
    rcases Nat.lt_or_ge off cs.length with h | h
    ·exact h
    ·rw[List.drop_eq_nil_of_le h]at hd;cases hd
   have zZ:cs[off]=c:=by
    rw[List.drop_eq_getElem_cons HV]at hd;exact(List.cons.inj hd).1
   obtain⟨u,h3,h4⟩:=hc off HV;refine⟨c,u,hk,by rw[←zZ];exact h4,?_⟩;simp only[loadVar,Sem.run_bind,mG h1,Result.andThen_ok,Sem.run_ite,Bool.false_eq_true,if_false,run_load,h3]
  ·cases hk
omit [aA]in
def hQ(w:World)(x:Addr)(u:Value)(b:Nat)(h:b≠x.block):(w.setCell x u).heap[b]?=w.heap[b]?:=by
 simp only[World.setCell,Array.getElem?_modify];rw[if_neg (by omega)]
omit [aA]in
def zH:∀(vs:List Value) (o:Nat) (w:World) (b b':Nat),b'≠b→(w.setCells b o vs).heap[b']?=w.heap[b']?
 | [],_,_,_,_,_=>rfl
 | v :: vs,o,w,b,b',h=>by
  rw[World.setCells,zH vs _ _ b b' h,hQ _ _ _ _ (by simpa using h)]
def zap{w:World}{x:Addr}{u:Value}{b:Nat}{t:TN}(h:dD w b t):dD (w.setCell x u) b t:=by
 obtain⟨c,e,z,h1,h2⟩:=h
 by_cases hb:x.block=b
 ·refine⟨if x.spot.isSome then c else c.setIfInBounds x.off u,e,z,?_,h2⟩;simp only[World.setCell,Array.getElem?_modify,hb,if_true,h1,Option.map_some]
 ·exact⟨c,e,z,(hQ w x u b (Ne.symm hb)).trans h1,h2⟩
def LN:∀(vs:List Value) (o:Nat) {w:World} {b b':Nat} {t:TN},dD w b' t→dD (w.setCells b o vs) b' t
 | [],_,_,_,_,_,h=>h
 | v :: vs,o,w,b,b',t,h=>by
  rw[World.setCells];exact LN vs _ (zap h)
omit [aA]in
def cL:∀(vs:List Value) (o:Nat) (w:World) (b:Nat),(w.setCells b o vs).heap.size=w.heap.size
 | [],_,_,_=>rfl
 | v :: vs,o,w,b=>by rw[World.setCells,cL vs];simp
omit [aA]in
def HL:∀(vs:List Value) (o:Nat) (w:World) (b:Nat),Wx w (w.setCells b o vs)
 | [],_,_,_=>Wx.refl _
 | v :: vs,o,w,b=>by
  rw[World.setCells];exact Wx.trans (b:=w.setCell ⟨b,o,none⟩ v) ⟨rfl,rfl,rfl,by simp⟩ (HL vs _ _ _)
omit [aA]in
def NI(cs:List V)(off:Nat)(vs:List V)(WV:off+vs.length≤cs.length):(FB cs off vs).length=cs.length∧
  ∀j (hj:j<cs.length) (kW:j<(FB cs off vs).length),(FB cs off vs)[j]=if h:off≤j∧j<off+vs.length then vs[j - off]'(by omega)else cs[j]:=by
 have FV:(FB cs off vs).length=cs.length:=by simp[FB];omega
 refine⟨FV,λj hj kW=>?_⟩;simp only[FB,List.append_assoc]
 by_cases h1:j<off
 ·rw[List.getElem_append_left (by simp;omega),dif_neg (by omega)];simp
 ·rw[List.getElem_append_right (by simp;omega)]
  by_cases h2:j<off+vs.length
  ·rw[List.getElem_append_left (by simp;omega),dif_pos ⟨by omega,h2⟩];congr 1;simp;omega
  ·rw[List.getElem_append_right (by simp;omega),dif_neg (by omega)];simp;congr 1;omega
omit [aA]in
def mR{P:Program}{t:TypeId}{n b o:Nat}{v:Value}(h2:oC P t=some n)(hs:v.cells.size=n)(h1:∀u∈v.cells.toList,u.oneCell'=true)
  (hc:∀j,j<n→(w.cell? (gA b (o+j))).isSome=true) (hf:∀j,j<n→w.frozen? (gA b (o+j))=false):
  (storeVar t (gA b o) v).run P w= .ok () (w.setCells b o v.cells.toList):=by
 have D4:=run_storeCells_cells (P:=P) b o v.cells.toList 0 w (λj hj=>by rw[Nat.add_zero];exact hc j (by simpa[hs]using hj)) (λj hj=>by rw[Nat.add_zero];exact hf j (by simpa[hs]using hj)) h1;simp only[Nat.add_zero]at D4;simp[storeVar,ME h2,hs];exact D4
end
end Go.D
namespace Go.D
variable [aA]
section
variable {C:Cx} {w0:World} {outer:Nat→Prop} {own:Ow} {ρ ρ':Nat→Option RI} {w w':World} {h h':Nat→Option fA}
omit [aA]in
def YA.get{cs ds:List V}(h:YA cs ds):∀(j:Nat) (hj:j<cs.length) (kW:j<ds.length),tD cs[j] ds[j]:=by
 induction h with
 | nil=>intro j hj;simp at hj
 | cons h1 h2 ih=>
  intro j hj kW;cases j with
  | zero=>exact h1
  | succ j=>exact ih j (by simpa using hj) (by simpa using kW)
omit [aA]in
def YA.len{cs ds:List V}(h:YA cs ds):cs.length=ds.length:=by
 induction h with
 | nil=>rfl
 | cons _ _ ih=>simp[ih]
omit [aA]in
def jQ{α β:Type}(f:α→List β)(n:Nat):∀(l:List α),(∀k (hk:k<l.length),(f l[k]).length=n)→∀k (hk:k<l.length) j,j<n→(l.flatMap f)[k *n+j]?=(f l[k])[j]?
 | [],_,k,hk,_,_=>by simp at hk
 | a :: l,hl,k,hk,j,hj=>by
  have h0:(f a).length=n:=hl 0 (by simp);rw[List.flatMap_cons];cases k with
  | zero=>
   rw[Nat.zero_mul,Nat.zero_add,List.getElem?_append_left (by omega)];rfl
  | succ k=>
   have nX:(f a).length≤(k+1) *n+j:=by rw[h0,Nat.add_mul,Nat.one_mul];omega
   rw[List.getElem?_append_right nX,h0,show(k+1) *n+j - n=k *n+j by rw[Nat.add_mul,Nat.one_mul];omega];exact jQ f n l (λk hk=>hl (k+1) (by simp;omega)) k (by simpa using hk) j hj
def aG(F:List V)(o:Nat):GG:=match F[o]? with
 | some v=>CG v
 | none=> .triv
omit [aA]in
def TG{F:List V}{o r:Nat}(h:aG F o= .row r):F[o]?=some (.ow r):=by
 unfold aG at h;split at h
 ·rename_i v hv;rw[hv];unfold CG at h;split at h
  ·cases h;rfl
  ·cases h
 ·cases h
omit [aA]in
def kK{F:List V}{o r o':Nat}(h:aG F o= .cell r o'):False:=by
 unfold aG at h;split at h
 ·unfold CG at h;split at h<;>cases h
 ·cases h
def lB.build(hh:BA w0 outer own ρ h w){i:Nat}{tn:TN}{l:List (El tn)}{vs vs':List V}{ids:List Nat}{f:Nat→Value}{cap:Nat}
  (hv:∀k (hk:k<vs.length) j (hj:j<(cellsOf vs[k]).length),VR w ρ (bA outer ρ h) (f (k *sz tn+j)) (cellsOf vs[k])[j])
  (wX:eE h vs=some (vs',ids)) (hl:l.length=vs.length) (hs:∀k (hk:k<vs'.length) (eW:k<l.length),YA (cellsOf vs'[k]) (enc tn l[k])) (ht:UC h [] (vs.flatMap cellsOf)=true)
  (yW:∀b,b<w.heap.size→w'.heap[b]?=w.heap[b]?) (IV:∀o,o<l.length *sz tn→w'.cell? (gA w.heap.size o)=some (f o)) {n:Nat}
  (GV:∀b,bA outer (cA ρ i (some ⟨w.heap.size,n,cap,false⟩)) (cA (dB h ids) i (some ⟨.arr tn l, .tre⟩)) b→bA outer ρ (dB h ids) b∨w.heap.size≤b):
  lB w' (bA outer (cA ρ i (some ⟨w.heap.size,n,cap,false⟩)) (cA (dB h ids) i (some ⟨.arr tn l, .tre⟩))) (GC w0 own) (cA ρ i (some ⟨w.heap.size,n,cap,false⟩)) (cA (dB h ids) i (some ⟨.arr tn l, .tre⟩)):=by
 obtain⟨t1,t2⟩:=XG _ _ ht;obtain⟨a1,a2⟩:=rQ wX
 have t9:∀k (hk:k<vs.length) (v:V),v∈cellsOf vs[k]→∃o,(vs.flatMap cellsOf)[o]?=some v:=λk hk v hm=>
  List.mem_iff_getElem?.1 (List.mem_flatMap.2 ⟨_,List.getElem_mem hk,hm⟩)
 have I2:∀k (hk:k<vs.length) r off,vs[k]≠ .bp r off:=λk hk r off he=>by
  obtain⟨o,ho⟩:=t9 k hk (.bp r off) (by rw[he];simp[cellsOf])
  rcases t1 o _ ho with⟨_,_,_,_,e,_⟩ | ⟨e,_⟩
  ·cases e
  ·simp[lD]at e
 have hz:∀k (hk:k<vs.length),∃i1,sD h vs[k]=some (vs'[k]'(by omega),i1)∧∀r∈i1,r∈ids:=λk hk=>a2 k hk (by omega)
 have FV:∀k (hk:k<vs.length),(cellsOf vs[k]).length=sz tn:=λk hk=>by
  obtain⟨i1,h1,_⟩:=hz k hk;obtain⟨e1,_⟩:=oO h1 (I2 k hk);rw[←e1,(hs k (by omega) (by omega)).len,WA]
 have hF:∀k (hk:k<vs.length) j (hj:j<sz tn),(vs.flatMap cellsOf)[k *sz tn+j]?=some ((cellsOf vs[k])[j]'(by rw[FV k hk];exact hj)):=λk hk j hj=>by
  rw[jQ cellsOf (sz tn) vs FV k hk j hj,List.getElem?_eq_getElem (by rw[FV k hk];exact hj)]
 have OW:∀(o r:Nat),(vs.flatMap cellsOf)[o]?=some (V.ow r)→r∈ids:=λo r ho=>by
  have hm:=List.mem_iff_getElem?.2 ⟨o,ho⟩;obtain⟨v,PY,L5⟩:=List.mem_flatMap.1 hm;obtain⟨k,hk,rfl⟩:=List.mem_iff_getElem.1 PY;obtain⟨j,hj,M5⟩:=List.mem_iff_getElem.1 L5;obtain⟨i1,h1,h2⟩:=hz k hk;obtain⟨e1,e2⟩:=oO h1 (I2 k hk);obtain⟨i2,e3,e4⟩:=e2 j hj (by omega);rw[M5]at e3;simp only[XB]at e3;split at e3
  ·rename_i m _;cases hm:m.isLock<;>simp[hm]at e3
   obtain⟨_,rfl⟩:=e3;exact h2 _ (e4 r (by simp))
  ·cases e3
 refine lB.lay hh (i:=i) (B:=w.heap.size) (ri':=⟨w.heap.size,n,cap,false⟩) (aG (vs.flatMap cellsOf)) _ (qA _ _ _) (qA _ _ _) rfl (λq t1' l1 m1 qi hq h1 mX h2 h3=>?_) (λhc=>?_) (λc _ hc=>yW c hc) (λc hc hb=>?_)
  (λo r ri ho hρ hn hb=>?_) (λk hk j hj=>?_) (λo r ho=>?_) (λo r o' ho=>(kK ho).elim) (λ_ _ _ _ _ ho=>kK ho) (λo o2 r h1 h2=>t2 o o2 r (TG h1) (TG h2)) λo o2 r o' h1 _=>(kK h1).elim
 ·rw[jA _ _ _ _ hq]at h1 h2;rw[SC]at h1
  by_cases hm:q∈ids
  ·rw[if_pos hm]at h1;cases J2:h q with
   | none=>rw[J2]at h1;cases h1
   | some row=>rw[J2]at h1;have:=congrArg (Option.map fA.m) h1;simp at this;subst this;cases mX
  ·rw[if_neg hm]at h1;obtain⟨ri,k1,_,k2⟩:=hh.rows q _ h1;rw[h2]at k1;cases k1;have:=(k2 h3).2;exact⟨⟨m1,h1,mX⟩,h2,by omega,λo ho=>hm (OW o q (TG ho)),λo o' ho=>kK ho⟩
 ·have:=hc.lt;omega
 ·rcases GV c hb with h | h
  ·exact MN (i:=[]) (by simp) h
  ·have:=hc.lt;omega
 ·obtain⟨row,EV,_⟩:∃row,h r=some row∧True:=by
   rcases t1 o _ (TG ho)with⟨r',t',l',m',e1,e2,_⟩ | ⟨_,e,_⟩
   ·cases e1;exact⟨_,e2,trivial⟩
   ·exact absurd rfl (e r)
  rcases GV _ hb with h | h
  ·exact aK hh EV hρ hn (OW o r (TG ho)) h
  ·obtain⟨ri1,k1,_,k2⟩:=hh.rows r _ EV;rw[hρ]at k1;cases k1;have:=(k2 hn).2;omega
 ·have CZ:k<vs.length:=by omega
  have QY:j<(cellsOf vs[k]).length:=by rw[FV k CZ];exact hj
  obtain⟨i1,h1,h2⟩:=hz k CZ;obtain⟨e1,e2⟩:=oO h1 (I2 k CZ);obtain⟨i2,e3,e4⟩:=e2 j QY (by omega);have RV:=hs k (by omega) hk
  have HV:k *sz tn+j<l.length *sz tn:=by
   have:(k+1) *sz tn≤l.length *sz tn:=Nat.mul_le_mul_right _ hk;rw[Nat.add_mul,Nat.one_mul]at this;omega
  refine⟨f (k *sz tn+j),IV _ HV,?_⟩;have DZ:aG (vs.flatMap cellsOf) (k *sz tn+j)=CG (cellsOf vs[k])[j]:=by unfold aG;rw[hF k CZ j hj]
  rw[DZ,List.getD_eq_getElem?_getD,List.getElem?_eq_getElem (by rw[WA];exact hj),Option.getD_some];refine CS hh (hv k CZ j QY) e3 (RV.get j (by omega) (by rw[WA];exact hj)) ?_ (λr row ri g1 g2 g3 g4=>?_)
  ·rcases t1 _ _ (hF k CZ j hj)with⟨r,t,l',m,f1,f2,f3,_⟩ | h
   ·exact .inl ⟨r,t,l',m,f1,f2,f3⟩
   ·exact .inr h
  ·obtain⟨ri1,k1,_,k2⟩:=hh.rows r _ g1;rw[g2]at k1;cases k1;have:=(k2 g3).2;omega
 ·rcases t1 o _ (TG ho)with⟨r',t',l',m',f1,f2,f3,_⟩ | ⟨_,e,_⟩
  ·cases f1;exact⟨_,f2,by cases m'<;>first | rfl | simp[xB]at f3⟩
  ·exact absurd rfl (e r)
def lB.made(hh:BA w0 outer own ρ h w){i:Nat}{ri':RI}{t:TN}{L:List (El t)}(hi:ρ i=none)(hB:ri'.b=w.heap.size)(yW:∀b,b<w.heap.size→w'.heap[b]?=w.heap[b]?)
  (UV:∀k (hk:k<L.length) j,j<sz t→∃u,w'.cell? (gA w.heap.size (k *sz t+j))=some u∧qJ u ((enc t L[k]).getD j .undef))
  (GV:∀b,bA outer (cA ρ i (some ri')) (cA h i (some ⟨.arr t L, .tre⟩)) b→bA outer ρ h b∨w.heap.size≤b):
  lB w' (bA outer (cA ρ i (some ri')) (cA h i (some ⟨.arr t L, .tre⟩))) (GC w0 own) (cA ρ i (some ri')) (cA h i (some ⟨.arr t L, .tre⟩)):=by
 refine lB.lay hh (i:=i) (B:=w.heap.size) (λ_=> .triv) _ (qA _ _ _) (qA _ _ _) hB (λq t1' l1 m1 qi hq h1 mX h2 h3=>?_) (λhc=>?_) (λc _ hc=>yW c hc) (λc hc hb=>?_)
  (λo r ri ho=>by cases ho) (λk hk j hj=>?_) (λo r ho=>by cases ho) (λo r o' ho=>by cases ho) (λ_ _ _ _ ho=>by cases ho) (λo o2 r h1=>by cases h1) λo o2 r o' h1=>by cases h1
 ·rw[jA _ _ _ _ hq]at h1 h2;obtain⟨ri,k1,_,k2⟩:=hh.rows q _ h1;rw[h2]at k1;cases k1;have:=(k2 h3).2;exact⟨⟨m1,h1,mX⟩,h2,by omega,(λo ho=>by cases ho),(λo o' ho=>by cases ho)⟩
 ·have:=hc.lt;omega
 ·rcases GV c hb with h | h
  ·exact h
  ·have:=hc.lt;omega
 ·exact UV k hk j hj
def lB.store(hh:BA w0 outer own ρ h w){r k off n:Nat}{t:TN}{l:List (El t)}{y z:El t}{vs vs':List V}{ids:List Nat}{f:Nat→Value}{ri:RI}
  (hr:h r=some ⟨.arr t l, .tre⟩) (hρ:ρ r=some ri) (hn:ri.nl=false) (hk:l[k]?=some y) (hv:∀j (hj:j<vs.length),VR w ρ (bA outer ρ h) (f j) vs[j])
  (wX:HC h vs=some (vs',ids)) (E2:vs.length=n) (KW:off+n≤sz t) (hs:YA (FB (enc t y) off vs') (enc t z)) (ht:UC h [r] vs=true)
  (O1:∀j (hj:j<sz t),(FB (enc t y) off vs').getD j .undef=if h:off≤j∧j<off+n then vs'.getD (j - off) .undef else(enc t y).getD j .undef)
  (yW:∀c,c≠ri.b→c<w.heap.size→w'.heap[c]?=w.heap[c]?)
  (gW:∀j,j<n→w'.cell? (gA ri.b (k *sz t+off+j))=some (f j)) (iW:∀o,(o<k *sz t+off∨k *sz t+off+n≤o)→w'.cell? (gA ri.b o)=w.cell? (gA ri.b o))
  (GV:∀b,bA outer ρ (cA (dB h ids) r (some ⟨.arr t (l.set k z), .tre⟩)) b→bA outer ρ (dB h ids) b):
  lB w' (bA outer ρ (cA (dB h ids) r (some ⟨.arr t (l.set k z), .tre⟩))) (GC w0 own) ρ (cA (dB h ids) r (some ⟨.arr t (l.set k z), .tre⟩)):=by
 obtain⟨t1,t2⟩:=XG _ _ ht;obtain⟨a1,a2⟩:=WN wX;obtain⟨QX,I7⟩:=List.getElem?_eq_some_iff.1 hk
 have OW:∀(o q:Nat),vs[o]?=some (V.ow q)→q∈ids:=λo q ho=>by
  obtain⟨hj,M5⟩:=List.getElem?_eq_some_iff.1 ho;obtain⟨i2,e3,e4⟩:=a2 o hj (by omega);rw[M5]at e3;simp only[XB]at e3;split at e3
  ·rename_i m _;cases hm:m.isLock<;>simp[hm]at e3
   obtain⟨_,rfl⟩:=e3;exact e4 q (by simp)
  ·cases e3
 have uW:∀(o q:Nat),vs[o]?=some (V.ow q)→q≠r∧∃row,h q=some row∧row.m.isRo=false:=λo q ho=>by
  rcases t1 o _ ho with⟨q',t',l',m',f1,f2,f3,f4⟩ | ⟨_,e,_⟩
  ·cases f1;exact⟨λe=>f4 (by simp[e]),_,f2,by cases m'<;>first | rfl | simp[xB]at f3⟩
  ·exact absurd rfl (e q)
 let base:=k *sz t+off;let og:Nat→GG:=λo=>if base≤o∧o<base+n then aG vs (o - base)else .cell r o
 have ogr:∀o q,og o= .row q→base≤o∧o<base+n∧vs[o - base]?=some (V.ow q):=λo q ho=>by
  simp only[og]at ho;split at ho
  ·rename_i h;exact⟨h.1,h.2,TG ho⟩
  ·cases ho
 have ogc:∀o q o',og o= .cell q o'→q=r∧o'=o:=λo q o' ho=>by
  simp only[og]at ho;split at ho
  ·exact(kK ho).elim
  ·cases ho;exact⟨rfl,rfl⟩
 obtain⟨ri1,k1,k2,k3⟩:=hh.rows r _ hr;rw[hρ]at k1;cases k1
 refine lB.lay hh (i:=r) (B:=ri.b) (ri':=ri) og _ (qA _ _ _) hρ rfl (λq t1' l1 m1 qi hq h1 mX h2 h3=>?_) (λ_=> .inr ⟨r,_,ri,hr,rfl,hρ,hn,rfl⟩) yW (λc hc hb=>?_)
  (λo q qi ho aY H0 hb=>?_) (λk' eW j hj=>?_) (λo q ho=>?_) (λo q o' ho=>?_) (λo o2 q o' h1 h2=>?_) (λo o2 q h1 h2=>?_) λo o2 q o' h1 h2=>?_
 ·rw[jA _ _ _ _ hq]at h1;rw[SC]at h1
  by_cases hm:q∈ids
  ·rw[if_pos hm]at h1;cases J2:h q with
   | none=>rw[J2]at h1;cases h1
   | some row=>rw[J2]at h1;have:=congrArg (Option.map fA.m) h1;simp at this;subst this;cases mX
  ·rw[if_neg hm]at h1;exact⟨⟨m1,h1,mX⟩,h2,λe=>hq (hh.inj q r _ _ qi ri h1 hr h2 hρ h3 hn e),λo ho=>hm (OW _ q (ogr o q ho).2.2),λo o' ho=>hq (ogc o q o' ho).1⟩
 ·exact MN (i:=[]) (by simp) (GV c hb)
 ·obtain⟨_,_,h3⟩:=ogr o q ho;obtain⟨_,row,h4,_⟩:=uW _ q h3;exact aK hh h4 aY H0 (OW _ q h3) (GV _ hb)
 ·have rX:k'<l.length:=by simpa using eW
  have bY:base≤k' *sz t+j∧k' *sz t+j<base+n↔k'=k∧off≤j∧j<off+n:=by
   constructor
   ·rintro⟨h1,h2⟩;simp only[base]at h1 h2
    have:k'=k:=by
     rcases Nat.lt_trichotomy k' k with h | h | h
     ·have:(k'+1) *sz t≤k *sz t:=Nat.mul_le_mul_right _ h;rw[Nat.add_mul,Nat.one_mul]at this;omega
     ·exact h
     ·have:(k+1) *sz t≤k' *sz t:=Nat.mul_le_mul_right _ h;rw[Nat.add_mul,Nat.one_mul]at this;omega
    subst this;exact⟨rfl,by omega,by omega⟩
   ·rintro⟨rfl,h1,h2⟩;simp only[base];omega
  by_cases hi:k'=k∧off≤j∧j<off+n
  ·obtain⟨rfl,h1,h2⟩:=hi;have QY:j - off<vs.length:=by omega
   obtain⟨i2,e3,e4⟩:=a2 (j - off) QY (by omega)
   have DZ:og (k' *sz t+j)=CG vs[j - off]:=by
    simp only[og];rw[if_pos (bY.2 ⟨rfl,h1,h2⟩)];unfold aG;rw[show k' *sz t+j - base=j - off by simp only[base];omega,List.getElem?_eq_getElem QY]
   have cY:(l.set k' z)[k']=z:=by simp
   have FV:(FB (enc t y) off vs').length=sz t:=by rw[hs.len,WA]
   have RV:=hs.get j (by omega) (by rw[WA];exact hj);have BY:=O1 j hj;rw[dif_pos ⟨h1,h2⟩,List.getD_eq_getElem?_getD,List.getElem?_eq_getElem (by omega),List.getD_eq_getElem?_getD,List.getElem?_eq_getElem (by omega)]at BY;simp only[Option.getD_some]at BY;rw[BY]at RV;refine⟨f (j - off),by have:=gW (j - off) (by omega);rwa [show k' *sz t+off+(j - off)=k' *sz t+j by omega]at this,?_⟩;rw[DZ,cY,List.getD_eq_getElem?_getD,List.getElem?_eq_getElem (by rw[WA];exact hj),Option.getD_some];refine CS hh (hv _ QY) e3 RV ?_ (λq row qi g1 g2 g3 g4 e=>?_)
   ·rcases t1 _ _ (List.getElem?_eq_getElem QY)with⟨q,t',l',m,f1,f2,f3,_⟩ | h
    ·exact .inl ⟨q,t',l',m,f1,f2,f3⟩
    ·exact .inr h
   ·have LV:=hh.inj q r _ _ qi ri g1 hr g2 hρ g3 hn e;subst LV
    rcases t1 _ _ (List.getElem?_eq_getElem QY)with⟨q',t',l',m,f1,f2,f3,f4⟩ | ⟨f1,f2,f3⟩
    ·rw[f1]at e3;simp only[XB,f2]at e3;cases hm:m.isLock<;>simp[hm]at e3
     obtain⟨_,rfl⟩:=e3;simp at g4;exact f4 (by simp[g4])
    ·have e1:XB h vs[j - off]=some (vs[j - off],[]):=by
      unfold XB;split
      ·rename_i N5;exact absurd N5 (f2 _)
      ·rename_i N5;rw[N5]at f1;simp[lD]at f1
      ·simp[f1]
     rw[e1]at e3;simp only[Option.some.injEq,Prod.mk.injEq]at e3;obtain⟨_,rfl⟩:=e3;simp at g4
  ·have DZ:og (k' *sz t+j)= .cell r (k' *sz t+j):=by simp only[og];rw[if_neg (λh=>hi (bY.1 h))]
   rcases k2.2 with h | ⟨_,_,_,_,_,d4⟩
   ·rw[hn]at h;cases h.1
   obtain⟨u,d5,d6⟩:=d4 k' rX j hj
   have ho:k' *sz t+j<base∨base+n≤k' *sz t+j:=by
    rcases Nat.lt_or_ge (k' *sz t+j) base with h | h
    ·exact .inl h
    ·rcases Nat.lt_or_ge (k' *sz t+j) (base+n)with h' | h'
     ·exact(hi (bY.1 ⟨h,h'⟩)).elim
     ·exact .inr h'
   refine⟨u,(iW _ ho).trans d5,?_⟩;rw[DZ];refine⟨t,l,ri,k',j,rX,hr,hρ,hn,hj,rfl,d5,?_⟩
   by_cases oX:k'=k
   ·subst oX;have cY:(l.set k' z)[k']=z:=by simp
    rw[cY];have FV:(FB (enc t y) off vs').length=sz t:=by rw[hs.len,WA]
    have RV:=hs.get j (by omega) (by rw[WA];exact hj);have BY:=O1 j hj;rw[dif_neg (λh=>hi ⟨rfl,h⟩),List.getD_eq_getElem?_getD,List.getElem?_eq_getElem (by omega),Option.getD_some]at BY;rw[BY]at RV;rw[show(enc t z).getD j .undef=(enc t z)[j]'(by rw[WA];exact hj) by rw[List.getD_eq_getElem?_getD,List.getElem?_eq_getElem (by rw[WA];exact hj),Option.getD_some],I7];rw[I7]at d6;generalize (enc t y).getD j .undef=c at RV d6⊢;generalize (enc t z)[j]'_=d at RV⊢;cases RV with
    | refl=>exact .inl rfl
    | byte m=>cases d6 with | int _ _ h=>exact .inr λ_ _ _=>VR.sub (.byte m) (.int _ _ h)
    | nil t'=>cases d6;exact .inr λ_ _ _=> .slE _ _ _ (Nat.zero_le _)
   ·left;rw[List.getElem_set_ne (Ne.symm oX)]
 ·obtain⟨_,_,h3⟩:=ogr o q ho;exact(uW _ q h3).2
 ·obtain⟨rfl,_⟩:=ogc o q o' ho;exact⟨t,l,hr⟩
 ·obtain⟨rfl,_⟩:=ogc o2 q o' h2;exact(uW _ q (ogr o q h1).2.2).1 rfl
 ·obtain⟨a,b,c⟩:=ogr o q h1;obtain⟨a',b',c'⟩:=ogr o2 q h2;have:=t2 _ _ q c c';omega
 ·obtain⟨_,e1⟩:=ogc o q o' h1;obtain⟨_,e2⟩:=ogc o2 q o' h2;omega
def KK:Option Nat→Nat→GG
 | some r,o=> .cell r o
 | none,_=> .triv
def lB.append(hh:BA w0 outer own ρ h w){r2 i B:Nat}{ro:Option Nat}{t:TN}{l m:List (El t)}{olds news:List Value}{ri' rj:RI}(hi:ρ i=none)(hB:ri'.b=B)
  (hx:l=[]∨∃r ri,ro=some r∧r≠r2∧h r=some ⟨.arr t l, .tre⟩∧ρ r=some ri∧ri.nl=false∧∀k,k<l.length *sz t→olds[k]?=w.cell? (gA ri.b k))
  (hy:h r2=some ⟨.arr t m, .tre⟩) (hyρ:ρ r2=some rj) (E4:m=[]∨rj.nl=false∧∀k,k<m.length *sz t→news[k]?=w.cell? (gA rj.b k))
  (YX:olds.length=l.length *sz t) (E2:news.length=m.length *sz t)
  (oW:∀q t1 (l1:List (El t1)) m1,h' q=some ⟨.arr t1 l1,m1⟩→m1.isTre=true→(∃m2,h q=some ⟨.arr t1 l1,m2⟩∧m2.isTre=true)∧ro≠some q∧q≠r2)
  (G5:AB w B→bA outer ρ h B) (u9:∀q row qi,h q=some row→ρ q=some qi→qi.nl=false→ro≠some q→qi.b≠B)
  (yW:∀c,c≠B→c<w.heap.size→w'.heap[c]?=w.heap[c]?) (IV:∀(j:Nat) (u:Value),(olds++news)[j]?=some u→w'.cell? (gA B j)=some u)
  (GV:∀b,bA outer (cA ρ i (some ri')) (cA h' i (some ⟨.arr t (l++m), .tre⟩)) b→bA outer ρ h b∨w.heap.size≤b):
  lB w' (bA outer (cA ρ i (some ri')) (cA h' i (some ⟨.arr t (l++m), .tre⟩))) (GC w0 own) (cA ρ i (some ri')) (cA h' i (some ⟨.arr t (l++m), .tre⟩)):=by
 let L:=l.length *sz t;let og:Nat→GG:=λo=>if o<L then KK ro o else .cell r2 (o - L)
 have ogr:∀o q,og o≠ .row q:=λo q ho=>by
  simp only[og]at ho;split at ho
  ·cases ro<;>simp[KK]at ho
  ·cases ho
 have ogc:∀o q o',og o= .cell q o'→o<L∧ro=some q∧o'=o∨L≤o∧q=r2∧o'=o - L:=λo q o' ho=>by
  simp only[og]at ho;split at ho
  ·rename_i HV;cases ro with
   | none=>simp[KK]at ho
   | some r=>simp only[KK,GG.cell.injEq]at ho;exact .inl ⟨HV,by rw[ho.1],ho.2.symm⟩
  ·rename_i HV;cases ho;exact .inr ⟨by omega,rfl,rfl⟩
 have hr:∀o,o<L→∃r ri,ro=some r∧r≠r2∧h r=some ⟨.arr t l, .tre⟩∧ρ r=some ri∧ri.nl=false∧∀k,k<l.length *sz t→olds[k]?=w.cell? (gA ri.b k):=λo ho=>by
  rcases hx with rfl | h
  ·simp[L]at ho
  ·exact h
 refine lB.lay hh (i:=i) (B:=B) (ri':=ri') og _ (qA _ _ _) (qA _ _ _) hB (λq t1' l1 m1 qi hq h1 mX h2 h3=>?_) G5 yW (λc hc hb=>?_)
  (λo q qi ho=>absurd ho (ogr o q)) (λk hk j hj=>?_) (λo q ho=>absurd ho (ogr o q)) (λo q o' ho=>?_) (λo o2 q o' h1=>absurd h1 (ogr o q)) (λo o2 q h1=>absurd h1 (ogr o q)) λo o2 q o' h1 h2=>?_
 ·rw[jA _ _ _ _ hq]at h1 h2;obtain⟨⟨m2,e1,em⟩,e2,e3⟩:=oW q t1' l1 m1 h1 mX;refine⟨⟨m2,e1,em⟩,h2,u9 q _ qi e1 h2 h3 e2,λo=>ogr o q,λo o' ho=>?_⟩
  rcases ogc o q o' ho with⟨_,e,_⟩ | ⟨_,e,_⟩
  ·exact e2 e
  ·exact e3 e
 ·rcases GV c hb with h | h
  ·exact h
  ·have:=hc.lt;omega
 ·have rZ:∀n (a:List (El t)),a.length=n→∀k,k<n→k *sz t+j<n *sz t:=λn a _ k hk=>by
   have:(k+1) *sz t≤n *sz t:=Nat.mul_le_mul_right _ hk;rw[Nat.add_mul,Nat.one_mul]at this;omega
  by_cases QX:k<l.length
  ·have ho:k *sz t+j<L:=rZ _ l rfl k QX;obtain⟨r,ri,e1,e2,e3,e4,e5,e6⟩:=hr _ ho;have O5:(olds++news)[k *sz t+j]?=olds[k *sz t+j]?:=List.getElem?_append_left (by rw[YX];exact ho);have hu:olds[k *sz t+j]?=some (olds[k *sz t+j]'(by rw[YX];exact ho)):=List.getElem?_eq_getElem _;refine⟨_,IV _ _ (O5.trans hu),?_⟩;have DZ:og (k *sz t+j)= .cell r (k *sz t+j):=by simp only[og,if_pos ho,e1,KK]
   rw[DZ];refine⟨t,l,ri,k,j,QX,e3,e4,e5,hj,rfl,by rw[←e6 _ ho];exact hu, .inl ?_⟩;rw[List.getElem_append_left QX]
  ·have P5:k - l.length<m.length:=by simp at hk;omega
   have bY:k *sz t+j - L=(k - l.length) *sz t+j∧L≤k *sz t+j:=by
    have h5:l.length *sz t≤k *sz t:=Nat.mul_le_mul_right _ (by omega);simp only[L];rw[Nat.sub_mul];omega
   rcases E4 with rfl | ⟨g1,g2⟩
   ·simp at P5
   have I0:(k - l.length) *sz t+j<m.length *sz t:=rZ _ m rfl _ P5
   have O5:(olds++news)[k *sz t+j]?=news[(k - l.length) *sz t+j]?:=by
    rw[List.getElem?_append_right (by rw[YX];exact bY.2),YX, ←bY.1]
   have hu:news[(k - l.length) *sz t+j]?=some (news[(k - l.length) *sz t+j]'(by rw[E2];exact I0)):=List.getElem?_eq_getElem _;refine⟨_,IV _ _ (O5.trans hu),?_⟩
   have DZ:og (k *sz t+j)= .cell r2 ((k - l.length) *sz t+j):=by
    have:¬k *sz t+j<L:=by omega
    simp only[og,if_neg this,bY.1]
   rw[DZ];refine⟨t,m,rj,k - l.length,j,P5,hy,hyρ,g1,hj,rfl,by rw[←g2 _ I0];exact hu, .inl ?_⟩;rw[List.getElem_append_right (by omega)]
 ·rcases ogc o q o' ho with⟨e,e1,_⟩ | ⟨_,rfl,_⟩
  ·obtain⟨r,ri,f1,_,f2,_⟩:=hr o e;rw[e1]at f1;cases f1;exact⟨t,l,f2⟩
  ·exact⟨t,m,hy⟩
 ·rcases ogc o q o' h1 with⟨e,e1,e2⟩ | ⟨e,e1,e2⟩<;>rcases ogc o2 q o' h2 with⟨f,f1,f2⟩ | ⟨f,f1,f2⟩
  ·omega
  ·obtain⟨r,ri,g1,g2,_⟩:=hr o e;rw[e1]at g1;cases g1;exact absurd f1 g2
  ·obtain⟨r,ri,g1,g2,_⟩:=hr o2 f;rw[f1]at g1;cases g1;exact absurd e1 g2
  ·omega
end
end Go.D
namespace Go.D
variable [aA]
section
variable {C:Cx} {w0:World} {outer:Nat→Prop} {own:Ow} {ρ:Nat→Option RI} {st st':St} {a:Act} {w:World} {h:Nat→Option fA}
def DO{bad:Nat→Prop}{r off:Nat}{cs:List V}{ri:RI}{v:Value}(hρ:ρ r=some ri)(PV:iC w ρ bad ri (.box cs)){bad':Nat→Prop}(hv:VR w ρ bad' v (.bp r off)):
  v= .pointer (some (gA ri.b (0+off)))∧xK w ρ bad ri.b 0 cs:=by
 cases hv with
 | bp _ _ ri' h1 h2=>
  rw[hρ]at h1;cases h1;refine⟨by rw[Nat.zero_add],λj hj=>?_⟩;obtain⟨_,u,h3,h4⟩:=PV.2 j hj;exact⟨u,by rw[Nat.zero_add];exact h3,h4⟩
omit [aA]in
def ED{α:Type}(l:List α)(j:Nat)(d:α)(hj:j<l.length):l.getD j d=l[j]:=by
 rw[List.getD_eq_getElem?_getD,List.getElem?_eq_getElem hj,Option.getD_some]
def JR{bad:Nat→Prop}{r k off:Nat}{t:TN}{l:List (El t)}{ri:RI}{v:Value}(hρ:ρ r=some ri)(PV:iC w ρ bad ri (.arr t l)){x:El t}(hx:l[k]?=some x)
  {bad':Nat→Prop} (hv:VR w ρ bad' v (.ep r t k off)):v= .pointer (some (gA ri.b (k *sz t+off)))∧xK w ρ bad ri.b (k *sz t) (enc t x)∧ri.nl=false:=by
 cases hv with
 | ep _ _ _ _ ri' h1 h2=>
  rw[hρ]at h1;cases h1;refine⟨rfl,λj hj=>?_,h2⟩
  rcases PV.2 with h | ⟨h0,_,_,_,_,h4⟩
  ·rw[h2]at h;cases h.1
  ·obtain⟨hk,rfl⟩:=List.getElem?_eq_some_iff.1 hx;have kW:j<sz t:=by rw[←WA t l[k]];exact hj
   obtain⟨u,h5,h6⟩:=h4 k hk j kW;rw[ED _ _ _ hj]at h6;exact⟨u,h5,h6⟩
def zb7{bad:Nat→Prop}{cs:List V}{off:Nat}{v:Value}(hv:VR w ρ bad v (.fp cs off)):
  ∃b o,v= .pointer (some (gA b (o+off)))∧xK w ρ bad b o cs:=by
 cases hv with
 | fp _ _ b o u h0 hb hu hv=>exact⟨b,o,rfl,λj hj=>⟨_,hu j hj,hv j hj⟩⟩
variable {o:Oper} {i:Nat} (hr:xA C w0 outer own ρ st a w)
include hr
def gO(t:TypeId)(x:Operand)(ho:o.op= .load t x){ag:Bool}{n b p off:Nat}{cs:List V}(h1:xC C.P t=some ag)(h2:oC C.P t=some n)
  (hx:a.eval x= .pointer (some (gA b (p+off)))) (hc:xK w ρ (bA outer ρ st.h) b p cs) (hk:CD ag n cs off (λv=>AA C o.dst st v some)=some st'):
  uB C.P o a w (qB C w0 outer own i ρ st'):=by
 obtain⟨d,v,h3,h4,h5⟩:=XO h1 h2 hc hk;refine ZA (v:=v) (w':=w) ?_ (hr.after h4 h3);simp[execOp,ho,hx,Instr.loadAt,Instr.sureAddr,h5]
def VE{r:Nat}{c:KC}{m:aB}(h1:st.h r=some ⟨c,m⟩):∃ri,ρ r=some ri∧iC w ρ (bA outer ρ st.h) ri c:=by
 obtain⟨ri,h2,h3,_⟩:=hr.heap.rows r _ h1;exact⟨ri,h2,h3⟩
def zdK(t:TypeId)(x:Operand)(ho:o.op= .load t x)(hk:OA C i o st some=some st'):uB C.P o a w (qB C w0 outer own i ρ st'):=by
 simp only[OA,ho]at hk;split at hk
 case h_2=>cases hk
 rename_i ag n h1 h2;have hx:=hr.opd x;split at hk
 ·rename_i r off SV;rw[SV]at hx;split at hk
  ·rename_i cs m EV;obtain⟨ri,hρ,PV⟩:=VE hr EV;obtain⟨e1,e2⟩:=DO hρ PV hx;exact gO hr t x ho h1 h2 e1 e2 hk
  ·cases hk
 ·rename_i r t' k off SV;rw[SV]at hx;split at hk
  ·rename_i t'' l m EV;obtain⟨ri,hρ,PV⟩:=VE hr EV
   by_cases ht:t''=t'
   ·subst ht;simp only[decide_true,gB,IG,Option.bind_eq_some_iff]at hk;obtain⟨y,hy,hk⟩:=hk;obtain⟨e1,e2,_⟩:=JR hρ PV hy hx;exact gO hr t x ho h1 h2 e1 e2 hk
   ·simp[ht]at hk
  ·cases hk
 ·rename_i cs off SV;rw[SV]at hx;obtain⟨b,p,e1,e2⟩:=zb7 hx;exact gO hr t x ho h1 h2 e1 e2 hk
 ·cases hk
def zcz(t:TypeId)(x y:Operand)(ho:o.op= .store t x y)(hk:OA C i o st some=some st'):uB C.P o a w (qB C w0 outer own i ρ st'):=by
 simp only[OA,ho]at hk;split at hk
 ·cases hk
 rename_i n h2;cases hb:(Nat.beq n (cellsOf (opd st.s y)).length&&FD (cellsOf (opd st.s y)))
 case false=>simp[hb]at hk
 simp only[hb,gB]at hk;simp only[Bool.and_eq_true]at hb;have hn:n=(cellsOf (opd st.s y)).length:=Nat.eq_of_beq_eq_true hb.1;obtain⟨hs,PW,RY⟩:=qK (hr.opd y) hb.2;have hx:=hr.opd x;split at hk
 ·rename_i r off SV;rw[SV]at hx;split at hk
  ·rename_i cs EV;cases WV:Nat.ble (off+n) cs.length
   case false=>simp[WV]at hk
   simp only[WV,gB]at hk;have WV:=Nat.le_of_ble_eq_true WV;obtain⟨ri,hρ,PV⟩:=VE hr EV;obtain⟨e1,e2⟩:=DO hρ PV hx;rw[Nat.zero_add]at e1
   have IV:∀j,j<n→(w.cell? (gA ri.b (off+j))).isSome=true:=λj hj=>by
    obtain⟨_,u,h3,_⟩:=PV.2 (off+j) (by omega);rw[h3];rfl
   have VV:∀j,j<n→w.frozen? (gA ri.b (off+j))=false:=λj hj=>(PV.2 (off+j) (by omega)).1;have BV:=mR (P:=C.P) h2 (hs.trans hn.symm) RY IV VV;generalize hW:w.setCells ri.b off (a.eval y).cells.toList=W at BV
   have pW:=hr.heap.write EV rfl hρ PV.1 W (by rw[←hW];exact HL _ _ _ _) (by rw[←hW];exact cL _ _ _ _)
    (fun b hb=>by rw [← hW];exact zH _ _ _ _ _ hb) (.box (FB cs off (cellsOf (opd st.s y)))) (fun eW=>by
     obtain⟨sY,dY⟩:=NI cs off (cellsOf (opd st.s y)) (by omega);refine⟨PV.1,λj hj=>?_⟩;have kW:j<cs.length:=by omega
     refine⟨by rw[←hW,World.frozen?_setCells];exact(PV.2 j kW).1,?_⟩;rw[dY j kW hj];split
     ·rename_i gW;have:=World.cell?_setCells_in ri.b (a.eval y).cells.toList off w (λj hj=>IV j (by simpa[hs,hn]using hj)) (j - off) (by simp[hs];omega);refine⟨_,by rw[←hW,show gA ri.b j=⟨ri.b,off+(j - off),none⟩ by rw[gA];congr 1;omega];exact this,?_⟩;have h4:=PW (j - off) (by omega);rw[Array.getD_eq_getD_getElem?,Array.getElem?_eq_getElem (by omega),Option.getD_some]at h4;exact eW _ _ (by simpa using h4)
     ·rename_i iW;obtain⟨_,u,h3,h4⟩:=PV.2 j kW;refine⟨u,?_,eW _ _ h4⟩;rw[←hW,World.cell?_setCells_out]
      ·exact h3
      ·intro _ _;simp only[gA,Array.length_toList,hs];omega)
   refine UQ (w':=W) ?_ ⟨ρ,((hr.turn pW.1 pW.2).put (.undef _) hk).1,λ_ _=>rfl,λ_ _ h=>h⟩;simp[execOp,ho,e1,Instr.storeAt,Instr.sureAddr,BV]
  ·cases hk
 ·rename_i r t' k off SV;rw[SV]at hx;split at hk
  ·rename_i t'' l m EV;obtain⟨ri,hρ,PV⟩:=VE hr EV;cases Q5:m.isOwn
   case false=>simp[Q5]at hk
   by_cases ht:t''=t'
   case neg=>simp[ht]at hk
   subst ht;simp only[Q5,decide_true,Bool.and_self,gB]at hk;split at hk
   ·cases hk
   rename_i vs' ids wX;cases OW:ids.any (Nat.beq r)
   case true=>simp[OW]at hk
   simp only[OW,OE,IG,fE,Option.bind_eq_some_iff]at hk;obtain⟨y0,GX,hk⟩:=hk;cases WV:Nat.ble (off+n) (sz t'')
   case false=>simp[WV]at hk
   simp only[WV,gB,Option.bind_eq_some_iff]at hk;have WV:=Nat.le_of_ble_eq_true WV;obtain⟨z,hz,hk⟩:=hk;obtain⟨e1,e2,OV⟩:=JR hρ PV GX hx;obtain⟨QX,R5⟩:=List.getElem?_eq_some_iff.1 GX;obtain⟨EZ,PY⟩:=hr.heap.mark ids
   have SY:dB st.h ids r=some ⟨.arr t'' l,m⟩:=by
    rw[SC,if_neg,EV];intro hm;have:ids.any (Nat.beq r)=true:=List.any_eq_true.2 ⟨r,hm,Nat.beq_refl r⟩;rw[this]at OW;cases OW
   obtain⟨_,hρ1,TY,_⟩:=EZ.rows r _ SY;rw[hρ]at hρ1;cases hρ1;obtain⟨J7,v9⟩:=fK hr.heap (vs:=λj=>(a.eval y).cells.getD j undef) PW wX
   rcases TY.2 with eX | ⟨_,ce,c1,c2,c3,c4⟩
   ·rw[OV]at eX;cases eX.1
   have eY:=TY.1;have K7:(k+1) *sz t''≤ri.cap *sz t'':=Nat.mul_le_mul_right _ (by omega);rw[Nat.add_mul,Nat.one_mul]at K7;have IV:∀j,j<n→(w.cell? (gA ri.b (k *sz t''+off+j))).isSome=true:=λj hj=>(c3 (k *sz t''+off+j) (by omega)).2;have VV:∀j,j<n→w.frozen? (gA ri.b (k *sz t''+off+j))=false:=λj hj=>(c3 (k *sz t''+off+j) (by omega)).1;have BV:=mR (P:=C.P) h2 (hs.trans hn.symm) RY IV VV;generalize hW:w.setCells ri.b (k *sz t''+off) (a.eval y).cells.toList=W at BV
   have gW:∀j,j<n→W.cell? (gA ri.b (k *sz t''+off+j))=some ((a.eval y).cells.getD j undef):=λj hj=>by
    have:=World.cell?_setCells_in ri.b (a.eval y).cells.toList (k *sz t''+off) w (λj hj=>IV j (by simpa[hs,hn]using hj)) j (by simp[hs];omega);rw[hW]at this;refine this.trans ?_;rw[Array.getD_eq_getD_getElem?,Array.getElem?_eq_getElem (by omega)];simp
   have iW:∀j,(j<k *sz t''+off∨k *sz t''+off+n≤j)→W.cell? (gA ri.b j)=w.cell? (gA ri.b j):=λj hj=>by
    rw[←hW,World.cell?_setCells_out];intro _ _;simp only[gA,Array.length_toList,hs];omega
   have pW:=EZ.write SY (FK Q5) hρ OV W (by rw[←hW];exact HL _ _ _ _) (by rw[←hW];exact cL _ _ _ _)
    (fun b hb=>by rw [← hW];exact zH _ _ _ _ _ hb) (.arr t'' (l.set k z)) (fun eW=>by
     refine⟨by simpa using eY, .inr ⟨OV,by rw[←hW];exact LN _ _ ce,c1,c2,λj hj=>⟨by rw[←hW,World.frozen?_setCells];exact(c3 j hj).1,?_⟩,λi' TV j hj=>?_⟩⟩
     ·by_cases x9:k *sz t''+off≤j∧j<k *sz t''+off+n
      ·have:=gW (j - (k *sz t''+off)) (by omega);rw[show k *sz t''+off+(j - (k *sz t''+off))=j by omega]at this;rw[this];rfl
      ·rw[iW j (by omega)];exact(c3 j hj).2
     ·have EW:i'<l.length:=by simpa using TV
      by_cases S5:i'=k
      ·subst S5;have RV:=wC t'' hz;obtain⟨sY,dY⟩:=NI (enc t'' y0) off vs' (by rw[WA];omega);have fY:j<(FB (enc t'' y0) off vs').length:=by rw[sY,WA];exact hj
       have cY:(l.set i' z)[i']=z:=by simp
       rw[cY,ED _ _ _ (by rw[WA];exact hj)];have F4:=(RV.get j fY (by rw[WA];exact hj));rw[dY j (by rw[WA];exact hj) fY]at F4;split at F4
       ·rename_i y9;refine⟨_,by have:=gW (j - off) (by omega);rw[show i' *sz t''+off+(j - off)=i' *sz t''+j by omega]at this;exact this,?_⟩;exact eW _ _ (VR.sub F4 (v9 (j - off) (by omega)).1)
       ·obtain⟨u,h5,h6⟩:=c4 i' EW j hj;rw[R5,ED _ _ _ (by rw[WA];exact hj)]at h6;exact⟨u,by rw[iW _ (by omega)];exact h5,eW _ _ (VR.sub F4 h6)⟩
      ·obtain⟨u,h5,h6⟩:=c4 i' EW j hj;have cY:(l.set k z)[i']=l[i']:=by rw[List.getElem_set_ne (Ne.symm S5)]
       rw[cY];refine⟨u,?_,eW _ _ h6⟩;rw[iW]
       ·exact h5
       ·rcases Nat.lt_or_gt_of_ne S5 with HV | iG
        ·left;have:(i'+1) *sz t''≤k *sz t'':=Nat.mul_le_mul_right _ HV;rw[Nat.add_mul,Nat.one_mul]at this;omega
        ·right;have:(k+1) *sz t''≤i' *sz t'':=Nat.mul_le_mul_right _ iG;rw[Nat.add_mul,Nat.one_mul]at this;omega)
   have RX:rH m (UC st.h [r] (cellsOf (opd st.s y)))= .own∨rH m (UC st.h [r] (cellsOf (opd st.s y)))= .tre∧m= .tre∧UC st.h [r] (cellsOf (opd st.s y))=true:=by
    cases UC st.h [r] (cellsOf (opd st.s y))<;>cases m<;>first | exact .inl rfl | exact .inr ⟨rfl,rfl,rfl⟩
   have qW:BA w0 outer own ρ (cA (dB st.h ids) r (some ⟨.arr t'' (l.set k z),rH m (UC st.h [r] (cellsOf (opd st.s y)))⟩)) W∧
     ∀u d,VR w ρ (bA outer ρ (dB st.h ids)) u d→VR W ρ (bA outer ρ (cA (dB st.h ids) r (some ⟨.arr t'' (l.set k z),rH m (UC st.h [r] (cellsOf (opd st.s y)))⟩))) u d:=by
    rcases RX with e | ⟨e,rfl,hb⟩
    ·rw[e];exact pW
    ·rw[e]
     have QZ:=pW.1.turn (m':= .tre) (qA _ _ _) rfl λGV=>by
      rw[uF]at GV⊢;obtain⟨sY,dY⟩:=NI (enc t'' y0) off vs' (by rw[WA,J7];omega);rw[WA]at sY;refine lB.store hr.heap EV hρ OV GX PW wX hn.symm WV (wC t'' hz) hb (λj hj=>?_) (λc hc _=>by rw[←hW];exact zH _ _ _ _ _ hc) gW iW λb YV=>(GV b YV).mono λq row' g1 g2=>?_
      ·rw[ED _ _ _ (by rw[sY];exact hj),dY j (by rw[WA];exact hj) (by rw[sY];exact hj)]
       by_cases OY:off≤j∧j<off+n
       ·rw[dif_pos OY,dif_pos ⟨OY.1,by omega⟩,ED _ _ _ (by omega)]
       ·rw[dif_neg OY,dif_neg (by omega),ED _ _ _ (by rw[WA];exact hj)]
      ·by_cases hq:q=r
       ·subst hq;exact⟨_,SY,rfl⟩
       ·rw[jA _ _ _ _ hq]at g1;exact⟨row',g1,g2⟩
     rw[uF]at QZ;exact⟨QZ.1,λu d hu=>QZ.2 _ _ (pW.2 u d hu)⟩
   have M2:xA C w0 outer own ρ {st with h:=cA (dB st.h ids) r (some ⟨.arr t'' (l.set k z),rH m (UC st.h [r] (cellsOf (opd st.s y)))⟩)} a W:=
    hr.turn qW.1 λu d hu=>qW.2 u d (PY u d hu)
   refine UQ (w':=W) ?_ ⟨ρ,(M2.put (.undef _) hk).1,λ_ _=>rfl,λ_ _ h=>h⟩;simp[execOp,ho,e1,Instr.storeAt,Instr.sureAddr,BV]
  ·cases hk
 ·cases hk
end
end Go.D
namespace Go.D
variable [aA]
section
variable {C:Cx} {w0:World} {outer:Nat→Prop} {own:Ow} {ρ:Nat→Option RI} {st st':St} {a:Act} {w:World} {h:Nat→Option fA}
omit [aA]in
def TI(k:IntKind)(n:Int):LB k (k.wrap n):=by
 cases k<;>simp only[LB,IntKind.wrap,IntKind.min,IntKind.max,IntKind.signed,IntKind.bits]<;>simp<;>(try split)<;>omega
variable {o:Oper} {i:Nat} (hr:xA C w0 outer own ρ st a w)
include hr
def zaJ(x:Operand)(ho:o.op= .nilCheck x)(hk:OA C i o st some=some st'):uB C.P o a w (qB C w0 outer own i ρ st'):=by
 simp only[OA,ho]at hk;have hx:=hr.opd x
 have BV:∀v,a.eval x=v→(match v with | .pointer (some _)=>True | .func (.func _) _ _=>True | _=>False)→(execOp a.eval o).run C.P w= .ok (.value v) w:=λv e1 e2=>by
  unfold execOp;simp only[ho,e1];split at e2<;>first | rfl | cases e2
 split at hk
 ·rename_i r off SV;rw[SV]at hx;cases ZV:a.eval x<;>rw[ZV]at hx<;>cases hx
  exact ZA (BV _ ZV trivial) (hr.after (.bp _ _ _ (by assumption) (by assumption)) hk)
 ·rename_i r t k off SV;rw[SV]at hx;cases ZV:a.eval x<;>rw[ZV]at hx<;>cases hx
  exact ZA (BV _ ZV trivial) (hr.after (.ep _ _ _ _ _ (by assumption) (by assumption)) hk)
 ·rename_i cs off SV;rw[SV]at hx;cases ZV:a.eval x<;>rw[ZV]at hx<;>cases hx
  exact ZA (BV _ ZV trivial) (hr.after (.fp _ _ _ _ _ (by assumption) (by assumption) (by assumption) (by assumption)) hk)
 ·rename_i f cs SV;rw[SV]at hx;cases ZV:a.eval x<;>rw[ZV]at hx<;>cases hx
  exact ZA (BV _ ZV trivial) (hr.after (.fn _ _ _ (by assumption) (by assumption)) hk)
 ·cases hk
def zax(t:TypeId)(x:Operand)(f:Nat)(ho:o.op= .fieldAddr t x f)(hk:OA C i o st some=some st'):uB C.P o a w (qB C w0 outer own i ρ st'):=by
 simp only[OA,ho]at hk;split at hk
 ·cases hk
 rename_i off ft hf;unfold bH at hf;split at hf
 case h_2=>cases hf
 rename_i fs hu;split at hf
 case h_2=>cases hf
 rename_i fld UY;cases hf;split at hk
 case h_2=>cases hk
 rename_i n JV;have hx:=hr.opd x
 have BV:∀b p,a.eval x= .pointer (some (gA b p))→(execOp a.eval o).run C.P w= .ok (.value (.pointer (some (gA b (p+fld.offset))))) w:=λb p e1=>by
  simp[execOp,ho,e1,Instr.fieldAt,ZC hu,UY,Instr.sureAddr,fieldPlace,ME JV,TC]
 split at hk
 ·rename_i r o1 SV;rw[SV]at hx;cases ZV:a.eval x<;>rw[ZV]at hx<;>cases hx
  rename_i ri h1 h2;exact ZA (BV _ _ ZV) (hr.after (.bp _ _ _ (by assumption) (by assumption)) hk)
 ·rename_i r t' k o1 SV;rw[SV]at hx;cases ZV:a.eval x<;>rw[ZV]at hx<;>cases hx
  rename_i ri h1 h2;refine ZA (BV _ _ ZV) (hr.after ?_ hk);rw[Nat.add_assoc];exact .ep _ _ _ _ _ (by assumption) (by assumption)
 ·rename_i cs o1 SV;rw[SV]at hx;cases ZV:a.eval x<;>rw[ZV]at hx<;>cases hx
  rename_i b p u h0 hb hu' RZ;refine ZA (BV _ _ ZV) (hr.after ?_ hk);rw[Nat.add_assoc];exact .fp _ _ _ _ _ (by assumption) (by assumption) (by assumption) (by assumption)
 ·cases hk
omit hr in
theorem zdI{ag:Bool}{n off:Nat}{t:TypeId}{cs:List V}{vs:Array Value}{bad:Nat→Prop}{R:Type}{K:V→Option R}{r:R}(h1:xC C.P t=some ag)(h2:oC C.P t=some n)
  (hs:vs.size=cs.length) (hv:∀j (hj:j<cs.length),VR w ρ bad (vs.getD j undef) cs[j]) (hk:CD ag n cs off K=some r):
  ∃d v,K d=some r∧VR w ρ bad v d∧(part t vs off).run C.P w= .ok v w:=by
 unfold CD at hk;cases ag with
 | true=>
  simp only[gB]at hk;cases hb:Nat.ble (off+n) cs.length
  case false=>simp[hb]at hk
  simp only[hb,gB]at hk;have WV:=Nat.le_of_ble_eq_true hb;refine⟨_, .agg (vs.extract off (off+n)),hk,?_,?_⟩
  ·refine .agg _ _ (by simp;omega) λj hj=>?_;have OY:j<n:=by simp at hj;omega
   have he:((cs.drop off).take n)[j]=cs[off+j]'(by omega):=by simp
   rw[he];have:=hv (off+j) (by omega);rw[Array.getD_eq_getD_getElem?,Array.getElem?_eq_getElem (by omega)]at this;rw[Array.getD_eq_getD_getElem?,Array.getElem?_eq_getElem (by simp;omega)];simpa using this
  ·simp[part,mG h1,ME h2]
 | false=>
  simp only[OE]at hk;split at hk
  ·rename_i c r' hd
   have HV:off<cs.length:=by
    rcases Nat.lt_or_ge off cs.length with h | h
    ·exact h
    ·rw[List.drop_eq_nil_of_le h]at hd;cases hd
   have zZ:cs[off]=c:=by
    rw[List.drop_eq_getElem_cons HV]at hd;exact(List.cons.inj hd).1
   have h3:=hv off HV;refine⟨c,vs.getD off undef,hk,by rw[←zZ];exact h3,?_⟩;rw[Array.getD_eq_getD_getElem?,Array.getElem?_eq_getElem (by omega)];simp[part,mG h1,Array.getElem?_eq_getElem (show off<vs.size by omega)]
  ·cases hk
def zco(t:TypeId)(x:Operand)(f:Nat)(ho:o.op= .field t x f)(hk:OA C i o st some=some st'):uB C.P o a w (qB C w0 outer own i ρ st'):=by
 simp only[OA,ho]at hk;have hx:=hr.opd x;split at hk
 case h_2=>cases hk
 rename_i off ft cs hf SV;rw[SV]at hx;unfold bH at hf;split at hf
 case h_2=>cases hf
 rename_i fs hu;split at hf
 case h_2=>cases hf
 rename_i fld UY;cases hf;split at hk
 case h_2=>cases hk
 rename_i ag n h1 h2;cases ZV:a.eval x<;>rw[ZV]at hx<;>cases hx
 rename_i vs hs hv;obtain⟨d,v,h3,h4,h5⟩:=zdI (C:=C) (w:=w) h1 h2 hs hv hk;refine ZA (v:=v) (w':=w) ?_ (hr.after h4 h3);simp[execOp,ho,ZV,Instr.field,ZC hu,UY,asAgg,h5]
def za2(x:Operand)(ix:Nat)(ho:o.op= .extract x ix)(hk:OA C i o st some=some st'):uB C.P o a w (qB C w0 outer own i ρ st'):=by
 simp only[OA,ho]at hk;have hx:=hr.opd x;split at hk
 case h_2=>cases hk
 rename_i cs SV;rw[SV]at hx;split at hk
 case h_2=>cases hk
 rename_i c r' hd
 have HV:ix<cs.length:=by
  rcases Nat.lt_or_ge ix cs.length with h | h
  ·exact h
  ·rw[List.drop_eq_nil_of_le h]at hd;cases hd
 have zZ:cs[ix]=c:=by
  rw[List.drop_eq_getElem_cons HV]at hd;exact(List.cons.inj hd).1
 cases ZV:a.eval x<;>rw[ZV]at hx<;>cases hx
 rename_i vs hs hv;have h3:=hv ix HV;rw[zZ]at h3;refine ZA (v:=vs.getD ix undef) (w':=w) ?_ (hr.after h3 hk);rw[Array.getD_eq_getD_getElem?,Array.getElem?_eq_getElem (by omega)];simp[execOp,ho,ZV,Instr.extract,Array.getElem?_eq_getElem (show ix<vs.size by omega)]
def zdM(op:UnOp)(t:TypeId)(x:Operand)(ho:o.op= .unOp op t x)(hk:OA C i o st some=some st'):uB C.P o a w (qB C w0 outer own i ρ st'):=by
 simp only[OA,ho]at hk;have hx:=hr.opd x;split at hk
 case h_2=>cases hk
 rename_i d hd;unfold tU at hd;split at hd
 ·rename_i k n SV;rw[SV]at hx;cases op<;>cases hd
  cases ZV:a.eval x<;>rw[ZV]at hx<;>cases hx
  refine ZA (v:= .int k (k.wrap (0 - n))) (w':=w) ?_ (hr.after (.int _ _ (TI _ _)) hk);simp[execOp,ho,ZV,Op.unary,Op.intArith]
 ·rename_i b SV;rw[SV]at hx;cases op<;>cases hd
  cases ZV:a.eval x<;>rw[ZV]at hx<;>cases hx
  refine ZA (v:= .bool (!b)) (w':=w) ?_ (hr.after (.bool _) hk);simp[execOp,ho,ZV,Op.unary]
 ·cases hd
end
end Go.D
